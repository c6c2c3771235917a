/- Joined texts (HDk HDb HDg HDm HDv HDx HDd HDu HEd HEe HEf HEg HEh HEi HEk HFb HFc): the machine, the contracts, the laws. Conditions: none but those that each names. -/
import Derived.Test.YtpijanidieamlaaDoorJc
import Derived.Laws.Bits64b
import Derived.Lib.Zigzag
set_option linter.unusedSimpArgs false
set_option linter.unusedVariables false
namespace Go.PM
open Go.Proofs
attribute [local irreducible] W PCalls pcall pcallI
set_option maxRecDepth 100000 in
set_option maxHeartbeats 8000000 in
theorem diff_r (G : Globs) (a b : List (List UInt8)) (ha : a.length ≤ 4000000) (hb : b.length ≤ 4000000) :
    PCalls Tryd.prog G 16 [.list 1 (a.map pstr), .list 1 (b.map pstr)] [] (fun res H => ∃ (O : Int) (cl : List Chg), (cl = diffL a b ∧ res = .row O 3 cl.length ∧ H = [(O, ⟨52, true, 3, flatC cl⟩)]) ∨
      (∃ (A at_ drop : Int) (add : List (List UInt8)), O ≠ A ∧ cl ++ [⟨at_, drop, add⟩] = diffL a b ∧ res = .row O 3 (cl.length + 1) ∧
        H = [(O, ⟨52, true, 3, flatC cl ++ [pint .i64 at_, pint .i64 drop, .row A 1 add.length]⟩), (A, ⟨9, true, 1, add.map pstr⟩)])) := by
  (refine PCalls_f Tryd.func16 rfl Tryd.ntmps16 Tryd.results16 (by simp) fun fin hfin => ?_; have hnm : True := trivial; simp only [ev, simprocAttr])
  repeat' (first
    | (with_reducible apply W_seq_k; intro nx hnx)
    | (with_reducible first | refine wr 105965634715635 ?_ | refine wd (id := 16) 105965634715635 1 (.op 0 true (.op 1 true (.op 2 true (.op 3 true (.op 4 true (.op 5 true (.op 6 true (.op 7 true (.op 8 true (.done)))))))))) (by kernel_rfl) ?_ | refine wd (id := 17) 105965634715635 1 (.op 0 true (.op 1 true (.op 2 true (.op 3 true (.op 4 true (.op 5 true (.op 6 true (.op 7 true (.op 8 true (.op 9 true (.op 10 true (.op 11 true (.op 12 true (.op 13 true (.op 14 true (.op 15 true (.op 16 false (.done)))))))))))))))))) (by kernel_rfl) ?_ | refine wd (id := 18) 105965634715635 1 (.op 0 true (.op 1 true (.op 2 true (.op 3 true (.op 4 true (.op 5 true (.op 6 true (.op 7 true (.op 8 true (.op 9 true (.op 10 true (.op 11 true (.op 12 true (.op 13 true (.op 14 true (.op 15 true (.op 16 true (.op 17 true (.op 18 true (.op 19 true (.op 20 true (.op 21 true (.op 22 true (.op 23 false (.done))))))))))))))))))))))))) (by kernel_rfl) ?_ | refine wd (id := 25) 105965634715635 1 (.op 0 true (.op 1 true (.op 2 true (.op 3 true (.op 4 true (.op 5 true (.op 6 true (.op 7 true (.op 8 true (.op 9 true (.op 10 true (.op 11 true (.op 12 true (.op 13 true (.op 14 true (.op 15 true (.op 16 true (.op 17 true (.op 18 true (.done)))))))))))))))))))) (by kernel_rfl) ?_ | refine wd (id := 33) 105965634715635 1 (.op 0 true (.op 1 true (.op 2 true (.op 3 true (.op 4 true (.op 5 true (.op 6 true (.op 7 true (.op 8 true (.op 9 true (.op 10 true (.op 11 true (.op 12 true (.op 13 true (.op 14 true (.op 15 true (.op 16 true (.op 17 true (.op 18 true (.op 19 true (.op 20 true (.op 21 true (.op 22 true (.op 23 true (.op 24 true (.op 25 true (.op 26 true (.done)))))))))))))))))))))))))))) (by kernel_rfl) ?_ | refine wd (id := 36) 105965634715635 3 (.op 0 true (.op 1 true (.op 2 true (.op 3 true (.op 4 true (.op 5 true (.op 6 true (.op 7 true (.op 8 true (.op 9 true (.op 10 false (.op 11 true (.op 12 true (.op 13 false (.done))))))))))))))) (by kernel_rfl) ?_)
    | ((with_reducible first | (apply WL_op; intro nx hnx) | refine Ev_out ?_ | refine wc ?_ | (apply popsD_op; intro nx hnx) | (refine popsD_alt ?_ ?_; intro nx hnx) | (refine pf hnm fun nm hnm => ?_; try simp only [fmb] at hnm) | (refine pm hnm fun nm hnm => ?_; try simp only [fmb] at hnm) | (refine pmaybe_k ?_; intro bn hbn)); try (simp (maxSteps := 2000000) (disch := omega) only [ev, ↓evp, PV.cells, PV.one, PV.mem?, Value.cells, simprocAttr, hnm, Tryd.tf0, Tryd.tf1, Tryd.tf2, Tryd.tf3, Tryd.tf4, Tryd.tf9, Tryd.tf22, Tryd.tf24, Tryd.tf48, Tryd.tf52, Tryd.tf84, Tryd.tf85, tab_rep, tab_len]))
    | ((with_reducible first | apply W_block | apply W_scope | apply WL_nil | apply W_label | apply W_skip | apply W_exit | apply W_ret | apply popsD_done | exact popsD_stop) <;> try simp only [kks, simprocAttr])
    | (with_reducible apply pg <;> (intro hc; (try simp only [hcb, simprocAttr, ne_eq, forall_const] at hc); first | (exfalso; omega) | exact absurd trivial hc | skip))
    | (with_reducible apply hnx; clear hnx nx)
    | (with_reducible refine And.intro (by omega) ?_)
    | (with_reducible refine And.intro ?_ ?_)
    | (clear hnx nx; with_reducible apply hnx; clear hnx nx)
    | (clear hnx nx; clear hnx nx; with_reducible apply hnx; clear hnx nx))
  obtain ⟨T, hTd⟩ : ∃ T : Int, T = nm := ⟨_, rfl⟩
  subst hTd
  clear hnm
  have hnm : True := trivial
  refine W_loop_k (fun k τ => ∃ (i : Nat) (nms : Nat → Int), i ≤ a.length + 1 ∧ k = a.length + 1 - i ∧ Inj nms i ∧ (∀ j, j < i → nms j ≠ T) ∧
      τ = ⟨fr 198 [(0, .list 1 (a.map pstr)), (1, .list 1 (b.map pstr)), (5, pint .i64 a.length), (6, pint .i64 b.length), (7, .row T 1 (a.length + 1)), (26, pint .i64 ((a.length + 1 : Nat) : Int)), (27, pint .i64 i)],
        (T, ⟨22, true, 1, tab (a.length + 1) fun j => if j < i then .row (nms j) 1 (b.length + 1) else pnil⟩) :: rowsH 3 nms (rowV b.length fun _ _ => 0) i⟩) (a.length + 1)
    ⟨fr 198 [(0, .list 1 (a.map pstr)), (1, .list 1 (b.map pstr)), (5, pint .i64 a.length), (6, pint .i64 b.length), (7, .row T 1 (a.length + 1)), (26, pint .i64 ((a.length + 1 : Nat) : Int)), (27, pint .i64 (0 : Nat))],
      [(T, ⟨22, true, 1, tab (a.length + 1) fun _ => pnil⟩)]⟩ (by exact Wk_fr (by simp only [wkb, simprocAttr]) ⟨by simp, by simp [names]⟩)
    ⟨0, fun _ => 0, by omega, by omega, fun i j h => by omega, fun j h => by omega, by rw [rowsH_zero]; simp⟩ ?_
  rintro k τ ⟨i, nms, hi, rfl, hinj, hT, rfl⟩ lp hlp
  repeat' (first
    | (with_reducible apply W_seq_k; intro nx hnx)
    | (with_reducible first | refine wr 105965634715635 ?_ | refine wd (id := 16) 105965634715635 1 (.op 0 true (.op 1 true (.op 2 true (.op 3 true (.op 4 true (.op 5 true (.op 6 true (.op 7 true (.op 8 true (.done)))))))))) (by kernel_rfl) ?_ | refine wd (id := 17) 105965634715635 1 (.op 0 true (.op 1 true (.op 2 true (.op 3 true (.op 4 true (.op 5 true (.op 6 true (.op 7 true (.op 8 true (.op 9 true (.op 10 true (.op 11 true (.op 12 true (.op 13 true (.op 14 true (.op 15 true (.op 16 false (.done)))))))))))))))))) (by kernel_rfl) ?_ | refine wd (id := 18) 105965634715635 1 (.op 0 true (.op 1 true (.op 2 true (.op 3 true (.op 4 true (.op 5 true (.op 6 true (.op 7 true (.op 8 true (.op 9 true (.op 10 true (.op 11 true (.op 12 true (.op 13 true (.op 14 true (.op 15 true (.op 16 true (.op 17 true (.op 18 true (.op 19 true (.op 20 true (.op 21 true (.op 22 true (.op 23 false (.done))))))))))))))))))))))))) (by kernel_rfl) ?_ | refine wd (id := 25) 105965634715635 1 (.op 0 true (.op 1 true (.op 2 true (.op 3 true (.op 4 true (.op 5 true (.op 6 true (.op 7 true (.op 8 true (.op 9 true (.op 10 true (.op 11 true (.op 12 true (.op 13 true (.op 14 true (.op 15 true (.op 16 true (.op 17 true (.op 18 true (.done)))))))))))))))))))) (by kernel_rfl) ?_ | refine wd (id := 33) 105965634715635 1 (.op 0 true (.op 1 true (.op 2 true (.op 3 true (.op 4 true (.op 5 true (.op 6 true (.op 7 true (.op 8 true (.op 9 true (.op 10 true (.op 11 true (.op 12 true (.op 13 true (.op 14 true (.op 15 true (.op 16 true (.op 17 true (.op 18 true (.op 19 true (.op 20 true (.op 21 true (.op 22 true (.op 23 true (.op 24 true (.op 25 true (.op 26 true (.done)))))))))))))))))))))))))))) (by kernel_rfl) ?_ | refine wd (id := 36) 105965634715635 3 (.op 0 true (.op 1 true (.op 2 true (.op 3 true (.op 4 true (.op 5 true (.op 6 true (.op 7 true (.op 8 true (.op 9 true (.op 10 false (.op 11 true (.op 12 true (.op 13 false (.done))))))))))))))) (by kernel_rfl) ?_)
    | ((with_reducible first | (apply WL_op; intro nx hnx) | refine Ev_out ?_ | refine wc ?_ | (apply popsD_op; intro nx hnx) | (refine popsD_alt ?_ ?_; intro nx hnx) | (refine pf hnm fun nm hnm => ?_; try simp only [fmb] at hnm) | (refine pm hnm fun nm hnm => ?_; try simp only [fmb] at hnm) | (refine pmaybe_k ?_; intro bn hbn)); try (simp (maxSteps := 2000000) (disch := omega) only [ev, ↓evp, PV.cells, PV.one, PV.mem?, Value.cells, simprocAttr, hnm, Tryd.tf0, Tryd.tf1, Tryd.tf2, Tryd.tf3, Tryd.tf4, Tryd.tf9, Tryd.tf22, Tryd.tf24, Tryd.tf48, Tryd.tf52, Tryd.tf84, Tryd.tf85, tab_rep, tab_len, tab_set, tab_set1]))
    | ((with_reducible first | apply W_block | apply W_scope | apply WL_nil | apply W_label | apply W_skip | apply W_exit | apply W_ret | apply popsD_done | exact popsD_stop) <;> try simp only [kks, simprocAttr])
    | (with_reducible apply pg <;> (intro hc; (try simp only [hcb, simprocAttr, ne_eq, forall_const] at hc); first | (exfalso; omega) | exact absurd trivial hc | skip))
    | (with_reducible apply hnx; clear hnx nx)
    | (with_reducible refine And.intro (by omega) ?_)
    | (with_reducible refine And.intro ?_ ?_)
    | (clear hnx nx; with_reducible apply hnx; clear hnx nx)
    | (clear hnx nx; clear hnx nx; with_reducible apply hnx; clear hnx nx))
  · obtain ⟨⟨hRT, _⟩, hRr⟩ := hnm
    obtain ⟨nR, hRd⟩ : ∃ R : Int, R = nm := ⟨_, rfl⟩
    subst hRd
    have hRr' : ∀ j, j < i → nms j ≠ nR := fun j hj => of_eq_false (hRr _ (rowsH_names.2 ⟨j, hj, rfl⟩)).2
    have hinj' := hinj.more hRr'
    have hT' : ∀ j, j < i + 1 → (if j = i then nR else nms j) ≠ T := fun j hj => by
      split
      · exact of_eq_false hRT
      · exact hT j (by omega)
    refine hlp _ (a.length + 1 - (i + 1)) _ (by omega) ?_ ⟨i + 1, fun j => if j = i then nR else nms j, by omega, rfl, hinj', hT', rfl⟩
    have e1 : (tab (a.length + 1) fun j => if j < i + 1 then PV.row (if j = i then nR else nms j) 1 (b.length + 1) else pnil) = tab (a.length + 1) fun j => if j = i then PV.row nR 1 (b.length + 1) else if j < i then PV.row (nms j) 1 (b.length + 1) else pnil :=
      tab_congr fun j hj => by
        by_cases h1 : j = i
        · rw [if_pos (by omega), if_pos h1, if_pos h1]
        · rw [if_neg h1, if_neg h1]
          by_cases h2 : j < i
          · rw [if_pos (by omega), if_pos h2]
          · rw [if_neg (by omega), if_neg h2]
    have e2 : rowsH 3 (fun j => if j = i then nR else nms j) (rowV b.length fun _ _ => 0) (i + 1) = (nR, ⟨3, true, 1, rowV b.length (fun _ _ => 0) i⟩) :: rowsH 3 nms (rowV b.length fun _ _ => 0) i := by
      rw [rowsH_succ, if_pos rfl]
      congr 1
      exact rowsH_congr fun j hj => ⟨by rw [if_neg (by omega)], rfl⟩
    refine Wk_fr (by simp only [wkb, simprocAttr]) ?_
    refine ⟨fun x hx => ?_, (Sub_tab (o := default) hinj' hT').2⟩
    rw [e1, e2] at hx
    rcases List.mem_cons.1 hx with rfl | hx
    · exact List.mem_cons_of_mem _ List.mem_cons_self
    · rcases List.mem_cons.1 hx with rfl | hx
      · exact List.mem_cons_self
      · exact List.mem_cons_of_mem _ (List.mem_cons_of_mem _ hx)
  · have hi' : i = a.length + 1 := by omega
    subst hi'
    rw [show (tab (a.length + 1) fun j => if j < a.length + 1 then PV.row (nms j) 1 (b.length + 1) else pnil) = tblV (b.length + 1) (a.length + 1) nms from tab_congr fun j hj => by rw [if_pos hj]]
    clear hlp lp
    refine W_loop_k (fun k τ => ∃ (x : Nat) (V : Nat → Nat → Int), x ≤ a.length ∧ k = a.length - x ∧ (∀ i j, i ≤ a.length → j ≤ b.length → V i j = if a.length ≤ i + x then lcsT a b i j else 0) ∧
        τ = ⟨fr 198 [(0, .list 1 (a.map pstr)), (1, .list 1 (b.map pstr)), (5, pint .i64 a.length), (6, pint .i64 b.length), (7, .row T 1 (a.length + 1)), (37, pint .i64 a.length), (38, pint .i64 x)], (T, ⟨22, true, 1, tblV (b.length + 1) (a.length + 1) nms⟩) :: rowsH 3 nms (rowV b.length V) (a.length + 1)⟩) a.length
      ⟨fr 198 [(0, .list 1 (a.map pstr)), (1, .list 1 (b.map pstr)), (5, pint .i64 a.length), (6, pint .i64 b.length), (7, .row T 1 (a.length + 1)), (37, pint .i64 a.length), (38, pint .i64 (0 : Nat))], (T, ⟨22, true, 1, tblV (b.length + 1) (a.length + 1) nms⟩) :: rowsH 3 nms (rowV b.length fun _ _ => 0) (a.length + 1)⟩ (by exact Wk_fr (by simp only [wkb, simprocAttr]) (Sub_tab hinj hT))
      ⟨0, fun _ _ => 0, by omega, by omega, fun i j hi hj => by
        split
        · rw [lcsT_end a b i j (by omega)]
        · rfl, rfl⟩ ?_
    rintro k τ ⟨x, V, hx, rfl, hV, rfl⟩ lp hlp
    have hT' : ∀ q, q < a.length + 1 → (T = nms q) = False := fun q hq => by
      have := hT q hq
      simp only [eq_iff_iff, iff_false]
      exact fun e => this e.symm
    by_cases hxa : x < a.length
    · obtain ⟨i, hix⟩ : ∃ i : Nat, (a.length : Int) - 1 - x = i := ⟨a.length - 1 - x, by omega⟩
      repeat' (first
    | (with_reducible apply W_seq_k; intro nx hnx)
    | (with_reducible first | refine wr 105965634715635 ?_ | refine wd (id := 16) 105965634715635 1 (.op 0 true (.op 1 true (.op 2 true (.op 3 true (.op 4 true (.op 5 true (.op 6 true (.op 7 true (.op 8 true (.done)))))))))) (by kernel_rfl) ?_ | refine wd (id := 17) 105965634715635 1 (.op 0 true (.op 1 true (.op 2 true (.op 3 true (.op 4 true (.op 5 true (.op 6 true (.op 7 true (.op 8 true (.op 9 true (.op 10 true (.op 11 true (.op 12 true (.op 13 true (.op 14 true (.op 15 true (.op 16 false (.done)))))))))))))))))) (by kernel_rfl) ?_ | refine wd (id := 18) 105965634715635 1 (.op 0 true (.op 1 true (.op 2 true (.op 3 true (.op 4 true (.op 5 true (.op 6 true (.op 7 true (.op 8 true (.op 9 true (.op 10 true (.op 11 true (.op 12 true (.op 13 true (.op 14 true (.op 15 true (.op 16 true (.op 17 true (.op 18 true (.op 19 true (.op 20 true (.op 21 true (.op 22 true (.op 23 false (.done))))))))))))))))))))))))) (by kernel_rfl) ?_ | refine wd (id := 25) 105965634715635 1 (.op 0 true (.op 1 true (.op 2 true (.op 3 true (.op 4 true (.op 5 true (.op 6 true (.op 7 true (.op 8 true (.op 9 true (.op 10 true (.op 11 true (.op 12 true (.op 13 true (.op 14 true (.op 15 true (.op 16 true (.op 17 true (.op 18 true (.done)))))))))))))))))))) (by kernel_rfl) ?_ | refine wd (id := 33) 105965634715635 1 (.op 0 true (.op 1 true (.op 2 true (.op 3 true (.op 4 true (.op 5 true (.op 6 true (.op 7 true (.op 8 true (.op 9 true (.op 10 true (.op 11 true (.op 12 true (.op 13 true (.op 14 true (.op 15 true (.op 16 true (.op 17 true (.op 18 true (.op 19 true (.op 20 true (.op 21 true (.op 22 true (.op 23 true (.op 24 true (.op 25 true (.op 26 true (.done)))))))))))))))))))))))))))) (by kernel_rfl) ?_ | refine wd (id := 36) 105965634715635 3 (.op 0 true (.op 1 true (.op 2 true (.op 3 true (.op 4 true (.op 5 true (.op 6 true (.op 7 true (.op 8 true (.op 9 true (.op 10 false (.op 11 true (.op 12 true (.op 13 false (.done))))))))))))))) (by kernel_rfl) ?_)
    | ((with_reducible first | (apply WL_op; intro nx hnx) | refine Ev_out ?_ | refine wc ?_ | (apply popsD_op; intro nx hnx) | (refine popsD_alt ?_ ?_; intro nx hnx) | (refine pf hnm fun nm hnm => ?_; try simp only [fmb] at hnm) | (refine pm hnm fun nm hnm => ?_; try simp only [fmb] at hnm) | (refine pmaybe_k ?_; intro bn hbn)); try (simp (maxSteps := 2000000) (disch := omega) only [ev, ↓evp, PV.cells, PV.one, PV.mem?, Value.cells, simprocAttr, hnm, Tryd.tf0, Tryd.tf1, Tryd.tf2, Tryd.tf3, Tryd.tf4, Tryd.tf9, Tryd.tf22, Tryd.tf24, Tryd.tf48, Tryd.tf52, Tryd.tf84, Tryd.tf85, tab_len, hix]))
    | ((with_reducible first | apply W_block | apply W_scope | apply WL_nil | apply W_label | apply W_skip | apply W_exit | apply W_ret | apply popsD_done | exact popsD_stop) <;> try simp only [kks, simprocAttr])
    | (with_reducible apply pg <;> (intro hc; (try simp only [hcb, simprocAttr, ne_eq, forall_const] at hc); first | (exfalso; omega) | exact absurd trivial hc | skip))
    | (with_reducible apply hnx; clear hnx nx)
    | (with_reducible refine And.intro (by omega) ?_)
    | (with_reducible refine And.intro ?_ ?_)
    | (clear hnx nx; with_reducible apply hnx; clear hnx nx)
    | (clear hnx nx; clear hnx nx; with_reducible apply hnx; clear hnx nx))
      refine W_loop_k (fun k τ => ∃ (y : Nat) (V : Nat → Nat → Int), y ≤ b.length ∧ k = b.length - y ∧ (∀ i' j, i' ≤ a.length → j ≤ b.length → V i' j = if i < i' ∨ (i = i' ∧ b.length ≤ j + y) then lcsT a b i' j else 0) ∧
        τ = ⟨fr 198 [(0, .list 1 (a.map pstr)), (1, .list 1 (b.map pstr)), (5, pint .i64 a.length), (6, pint .i64 b.length), (7, .row T 1 (a.length + 1)), (10, pint .i64 i), (37, pint .i64 a.length), (38, pint .i64 x), (45, pint .i64 b.length), (46, pint .i64 y)],
          (T, ⟨22, true, 1, tblV (b.length + 1) (a.length + 1) nms⟩) :: rowsH 3 nms (rowV b.length V) (a.length + 1)⟩) b.length
        ⟨fr 198 [(0, .list 1 (a.map pstr)), (1, .list 1 (b.map pstr)), (5, pint .i64 a.length), (6, pint .i64 b.length), (7, .row T 1 (a.length + 1)), (10, pint .i64 i), (37, pint .i64 a.length), (38, pint .i64 x), (45, pint .i64 b.length), (46, pint .i64 (0 : Nat))],
          (T, ⟨22, true, 1, tblV (b.length + 1) (a.length + 1) nms⟩) :: rowsH 3 nms (rowV b.length V) (a.length + 1)⟩ (by exact Wk_fr (by simp only [wkb, simprocAttr]) (Sub_tab hinj hT))
        ⟨0, V, by omega, by omega, fun i' j hi' hj => by
          rw [hV i' j hi' hj]
          by_cases h1 : i < i'
          · rw [if_pos (by omega), if_pos (by omega)]
          · rw [if_neg (by omega)]
            split
            · rw [lcsT_end a b i' j (by omega)]
            · rfl, rfl⟩ ?_
      clear hV V
      rintro k τ ⟨y, V, hy, rfl, hV, rfl⟩ lp2 hlp2
      by_cases hyb : y < b.length
      · obtain ⟨j, hjy⟩ : ∃ j : Nat, (b.length : Int) - 1 - y = j := ⟨b.length - 1 - y, by omega⟩
        have hV1 := lcsT_le a b (i + 1) (j + 1)
        rw [← (show V (i + 1) (j + 1) = lcsT a b (i + 1) (j + 1) by rw [hV _ _ (by omega) (by omega), if_pos (by omega)])] at hV1
        have hVs : V (i + 1) j = lcsT a b (i + 1) j ∧ V i (j + 1) = lcsT a b i (j + 1) ∧ V (i + 1) (j + 1) = lcsT a b (i + 1) (j + 1) :=
          ⟨by rw [hV _ _ (by omega) (by omega), if_pos (by omega)], by rw [hV _ _ (by omega) (by omega), if_pos (by omega)], by rw [hV _ _ (by omega) (by omega), if_pos (by omega)]⟩
        have hfit : ∀ X : Int, X = lcsT a b i j → ∀ i' j', i' ≤ a.length → j' ≤ b.length → (if i' = i ∧ j' = j then X else V i' j') = if i < i' ∨ (i = i' ∧ b.length ≤ j' + (y + 1)) then lcsT a b i' j' else 0 := by
          intro X hX i' j' hi' hj'
          by_cases h : i' = i ∧ j' = j
          · obtain ⟨rfl, rfl⟩ := h
            rw [if_pos ⟨rfl, rfl⟩, if_pos (by omega), hX]
          · rw [if_neg h, hV i' j' hi' hj']
            by_cases h2 : i < i' ∨ (i = i' ∧ b.length ≤ j' + y)
            · rw [if_pos h2, if_pos (by omega)]
            · rw [if_neg h2, if_neg (by omega)]
        repeat' (first
    | (with_reducible apply W_seq_k; intro nx hnx)
    | (with_reducible first | refine wr 105965634715635 ?_ | refine wd (id := 16) 105965634715635 1 (.op 0 true (.op 1 true (.op 2 true (.op 3 true (.op 4 true (.op 5 true (.op 6 true (.op 7 true (.op 8 true (.done)))))))))) (by kernel_rfl) ?_ | refine wd (id := 17) 105965634715635 1 (.op 0 true (.op 1 true (.op 2 true (.op 3 true (.op 4 true (.op 5 true (.op 6 true (.op 7 true (.op 8 true (.op 9 true (.op 10 true (.op 11 true (.op 12 true (.op 13 true (.op 14 true (.op 15 true (.op 16 false (.done)))))))))))))))))) (by kernel_rfl) ?_ | refine wd (id := 18) 105965634715635 1 (.op 0 true (.op 1 true (.op 2 true (.op 3 true (.op 4 true (.op 5 true (.op 6 true (.op 7 true (.op 8 true (.op 9 true (.op 10 true (.op 11 true (.op 12 true (.op 13 true (.op 14 true (.op 15 true (.op 16 true (.op 17 true (.op 18 true (.op 19 true (.op 20 true (.op 21 true (.op 22 true (.op 23 false (.done))))))))))))))))))))))))) (by kernel_rfl) ?_ | refine wd (id := 25) 105965634715635 1 (.op 0 true (.op 1 true (.op 2 true (.op 3 true (.op 4 true (.op 5 true (.op 6 true (.op 7 true (.op 8 true (.op 9 true (.op 10 true (.op 11 true (.op 12 true (.op 13 true (.op 14 true (.op 15 true (.op 16 true (.op 17 true (.op 18 true (.done)))))))))))))))))))) (by kernel_rfl) ?_ | refine wd (id := 33) 105965634715635 1 (.op 0 true (.op 1 true (.op 2 true (.op 3 true (.op 4 true (.op 5 true (.op 6 true (.op 7 true (.op 8 true (.op 9 true (.op 10 true (.op 11 true (.op 12 true (.op 13 true (.op 14 true (.op 15 true (.op 16 true (.op 17 true (.op 18 true (.op 19 true (.op 20 true (.op 21 true (.op 22 true (.op 23 true (.op 24 true (.op 25 true (.op 26 true (.done)))))))))))))))))))))))))))) (by kernel_rfl) ?_ | refine wd (id := 36) 105965634715635 3 (.op 0 true (.op 1 true (.op 2 true (.op 3 true (.op 4 true (.op 5 true (.op 6 true (.op 7 true (.op 8 true (.op 9 true (.op 10 false (.op 11 true (.op 12 true (.op 13 false (.done))))))))))))))) (by kernel_rfl) ?_)
    | ((with_reducible first | (apply WL_op; intro nx hnx) | refine Ev_out ?_ | refine wc ?_ | (apply popsD_op; intro nx hnx) | (refine popsD_alt ?_ ?_; intro nx hnx) | (refine pf hnm fun nm hnm => ?_; try simp only [fmb] at hnm) | (refine pm hnm fun nm hnm => ?_; try simp only [fmb] at hnm) | (refine pmaybe_k ?_; intro bn hbn)); try (simp (maxSteps := 2000000) (disch := omega) only [ev, ↓evp, PV.cells, PV.one, PV.mem?, Value.cells, simprocAttr, hnm, Tryd.tf0, Tryd.tf1, Tryd.tf2, Tryd.tf3, Tryd.tf4, Tryd.tf9, Tryd.tf22, Tryd.tf24, Tryd.tf48, Tryd.tf52, Tryd.tf84, Tryd.tf85, tab_len, hix, hjy, tab_get, tab_set, tab_set1, hT', look_rowsH hinj, upd_rowsH hinj, add_one_ne, ne_add_one]))
    | ((with_reducible first | apply W_block | apply W_scope | apply WL_nil | apply W_label | apply W_skip | apply W_exit | apply W_ret | apply popsD_done | exact popsD_stop) <;> try simp only [kks, simprocAttr])
    | (with_reducible apply pg <;> (intro hc; (try simp only [hcb, simprocAttr, ne_eq, forall_const] at hc); first | (exfalso; omega) | exact absurd trivial hc | skip))
    | (with_reducible apply hnx; clear hnx nx)
    | (with_reducible refine And.intro (by omega) ?_)
    | (with_reducible refine And.intro ?_ ?_)
    | (clear hnx nx; with_reducible apply hnx; clear hnx nx)
    | (clear hnx nx; clear hnx nx; with_reducible apply hnx; clear hnx nx))
        · have hX : V (i + 1) (j + 1) + 1 = lcsT a b i j := by
            have h1 := lcsT_eq a b i j (by omega) (by omega) hc
            omega
          refine hlp2 _ _ _ ?_ ?_ ⟨y + 1, fun i' j' => if i' = i ∧ j' = j then V (i + 1) (j + 1) + 1 else V i' j', by omega, rfl, hfit _ hX, rfl⟩
          · omega
          refine Wk_fr (by simp only [wkb, simprocAttr]) ?_
          exact Sub_eq (congrArg _ (rowsH_congr fun q hq => ⟨rfl, by
            by_cases h : q = i
            · subst h
              simp only [if_true]
              exact tab_congr fun t _ => by by_cases h2 : t = j <;> simp [h2]
            · simp only [h, if_false]
              exact tab_congr fun t _ => by simp [h]⟩)) (Sub_tab hinj hT)
        · have hX : max (V (i + 1) j) (V i (j + 1)) = lcsT a b i j := by
            have h1 := lcsT_ne a b i j (by omega) (by omega) hc
            omega
          refine hlp2 _ _ _ ?_ ?_ ⟨y + 1, fun i' j' => if i' = i ∧ j' = j then max (V (i + 1) j) (V i (j + 1)) else V i' j', by omega, rfl, hfit _ hX, rfl⟩
          · omega
          refine Wk_fr (by simp only [wkb, simprocAttr]) ?_
          exact Sub_eq (congrArg _ (rowsH_congr fun q hq => ⟨rfl, by
            by_cases h : q = i
            · subst h
              simp only [if_true]
              exact tab_congr fun t _ => by by_cases h2 : t = j <;> simp [h2]
            · simp only [h, if_false]
              exact tab_congr fun t _ => by simp [h]⟩)) (Sub_tab hinj hT)
      · repeat' (first
    | (with_reducible apply W_seq_k; intro nx hnx)
    | (with_reducible first | refine wr 105965634715635 ?_ | refine wd (id := 16) 105965634715635 1 (.op 0 true (.op 1 true (.op 2 true (.op 3 true (.op 4 true (.op 5 true (.op 6 true (.op 7 true (.op 8 true (.done)))))))))) (by kernel_rfl) ?_ | refine wd (id := 17) 105965634715635 1 (.op 0 true (.op 1 true (.op 2 true (.op 3 true (.op 4 true (.op 5 true (.op 6 true (.op 7 true (.op 8 true (.op 9 true (.op 10 true (.op 11 true (.op 12 true (.op 13 true (.op 14 true (.op 15 true (.op 16 false (.done)))))))))))))))))) (by kernel_rfl) ?_ | refine wd (id := 18) 105965634715635 1 (.op 0 true (.op 1 true (.op 2 true (.op 3 true (.op 4 true (.op 5 true (.op 6 true (.op 7 true (.op 8 true (.op 9 true (.op 10 true (.op 11 true (.op 12 true (.op 13 true (.op 14 true (.op 15 true (.op 16 true (.op 17 true (.op 18 true (.op 19 true (.op 20 true (.op 21 true (.op 22 true (.op 23 false (.done))))))))))))))))))))))))) (by kernel_rfl) ?_ | refine wd (id := 25) 105965634715635 1 (.op 0 true (.op 1 true (.op 2 true (.op 3 true (.op 4 true (.op 5 true (.op 6 true (.op 7 true (.op 8 true (.op 9 true (.op 10 true (.op 11 true (.op 12 true (.op 13 true (.op 14 true (.op 15 true (.op 16 true (.op 17 true (.op 18 true (.done)))))))))))))))))))) (by kernel_rfl) ?_ | refine wd (id := 33) 105965634715635 1 (.op 0 true (.op 1 true (.op 2 true (.op 3 true (.op 4 true (.op 5 true (.op 6 true (.op 7 true (.op 8 true (.op 9 true (.op 10 true (.op 11 true (.op 12 true (.op 13 true (.op 14 true (.op 15 true (.op 16 true (.op 17 true (.op 18 true (.op 19 true (.op 20 true (.op 21 true (.op 22 true (.op 23 true (.op 24 true (.op 25 true (.op 26 true (.done)))))))))))))))))))))))))))) (by kernel_rfl) ?_ | refine wd (id := 36) 105965634715635 3 (.op 0 true (.op 1 true (.op 2 true (.op 3 true (.op 4 true (.op 5 true (.op 6 true (.op 7 true (.op 8 true (.op 9 true (.op 10 false (.op 11 true (.op 12 true (.op 13 false (.done))))))))))))))) (by kernel_rfl) ?_)
    | ((with_reducible first | (apply WL_op; intro nx hnx) | refine Ev_out ?_ | refine wc ?_ | (apply popsD_op; intro nx hnx) | (refine popsD_alt ?_ ?_; intro nx hnx) | (refine pf hnm fun nm hnm => ?_; try simp only [fmb] at hnm) | (refine pm hnm fun nm hnm => ?_; try simp only [fmb] at hnm) | (refine pmaybe_k ?_; intro bn hbn)); try (simp (maxSteps := 2000000) (disch := omega) only [ev, ↓evp, PV.cells, PV.one, PV.mem?, Value.cells, simprocAttr, hnm, Tryd.tf0, Tryd.tf1, Tryd.tf2, Tryd.tf3, Tryd.tf4, Tryd.tf9, Tryd.tf22, Tryd.tf24, Tryd.tf48, Tryd.tf52, Tryd.tf84, Tryd.tf85, tab_len]))
    | ((with_reducible first | apply W_block | apply W_scope | apply WL_nil | apply W_label | apply W_skip | apply W_exit | apply W_ret | apply popsD_done | exact popsD_stop) <;> try simp only [kks, simprocAttr])
    | (with_reducible apply pg <;> (intro hc; (try simp only [hcb, simprocAttr, ne_eq, forall_const] at hc); first | (exfalso; omega) | exact absurd trivial hc | skip))
    | (with_reducible apply hnx; clear hnx nx)
    | (with_reducible refine And.intro (by omega) ?_)
    | (with_reducible refine And.intro ?_ ?_)
    | (clear hnx nx; with_reducible apply hnx; clear hnx nx)
    | (clear hnx nx; clear hnx nx; with_reducible apply hnx; clear hnx nx))
        refine hlp _ _ _ ?_ ?_ ⟨x + 1, V, by omega, rfl, ?_, rfl⟩
        · omega
        · exact Wk_fr (by simp only [wkb, simprocAttr]) (Sub_tab hinj hT)
        · intro i' j hi' hj
          rw [hV i' j hi' hj]
          by_cases h : i ≤ i'
          · rw [if_pos (by omega), if_pos (by omega)]
          · rw [if_neg (by omega), if_neg (by omega)]
    · repeat' (first
    | (with_reducible apply W_seq_k; intro nx hnx)
    | (with_reducible first | refine wr 105965634715635 ?_ | refine wd (id := 16) 105965634715635 1 (.op 0 true (.op 1 true (.op 2 true (.op 3 true (.op 4 true (.op 5 true (.op 6 true (.op 7 true (.op 8 true (.done)))))))))) (by kernel_rfl) ?_ | refine wd (id := 17) 105965634715635 1 (.op 0 true (.op 1 true (.op 2 true (.op 3 true (.op 4 true (.op 5 true (.op 6 true (.op 7 true (.op 8 true (.op 9 true (.op 10 true (.op 11 true (.op 12 true (.op 13 true (.op 14 true (.op 15 true (.op 16 false (.done)))))))))))))))))) (by kernel_rfl) ?_ | refine wd (id := 18) 105965634715635 1 (.op 0 true (.op 1 true (.op 2 true (.op 3 true (.op 4 true (.op 5 true (.op 6 true (.op 7 true (.op 8 true (.op 9 true (.op 10 true (.op 11 true (.op 12 true (.op 13 true (.op 14 true (.op 15 true (.op 16 true (.op 17 true (.op 18 true (.op 19 true (.op 20 true (.op 21 true (.op 22 true (.op 23 false (.done))))))))))))))))))))))))) (by kernel_rfl) ?_ | refine wd (id := 25) 105965634715635 1 (.op 0 true (.op 1 true (.op 2 true (.op 3 true (.op 4 true (.op 5 true (.op 6 true (.op 7 true (.op 8 true (.op 9 true (.op 10 true (.op 11 true (.op 12 true (.op 13 true (.op 14 true (.op 15 true (.op 16 true (.op 17 true (.op 18 true (.done)))))))))))))))))))) (by kernel_rfl) ?_ | refine wd (id := 33) 105965634715635 1 (.op 0 true (.op 1 true (.op 2 true (.op 3 true (.op 4 true (.op 5 true (.op 6 true (.op 7 true (.op 8 true (.op 9 true (.op 10 true (.op 11 true (.op 12 true (.op 13 true (.op 14 true (.op 15 true (.op 16 true (.op 17 true (.op 18 true (.op 19 true (.op 20 true (.op 21 true (.op 22 true (.op 23 true (.op 24 true (.op 25 true (.op 26 true (.done)))))))))))))))))))))))))))) (by kernel_rfl) ?_ | refine wd (id := 36) 105965634715635 3 (.op 0 true (.op 1 true (.op 2 true (.op 3 true (.op 4 true (.op 5 true (.op 6 true (.op 7 true (.op 8 true (.op 9 true (.op 10 false (.op 11 true (.op 12 true (.op 13 false (.done))))))))))))))) (by kernel_rfl) ?_)
    | ((with_reducible first | (apply WL_op; intro nx hnx) | refine Ev_out ?_ | refine wc ?_ | (apply popsD_op; intro nx hnx) | (refine popsD_alt ?_ ?_; intro nx hnx) | (refine pf hnm fun nm hnm => ?_; try simp only [fmb] at hnm) | (refine pm hnm fun nm hnm => ?_; try simp only [fmb] at hnm) | (refine pmaybe_k ?_; intro bn hbn)); try (simp (maxSteps := 2000000) (disch := omega) only [ev, ↓evp, PV.cells, PV.one, PV.mem?, Value.cells, simprocAttr, hnm, Tryd.tf0, Tryd.tf1, Tryd.tf2, Tryd.tf3, Tryd.tf4, Tryd.tf9, Tryd.tf22, Tryd.tf24, Tryd.tf48, Tryd.tf52, Tryd.tf84, Tryd.tf85, tab_len]))
    | ((with_reducible first | apply W_block | apply W_scope | apply WL_nil | apply W_label | apply W_skip | apply W_exit | apply W_ret | apply popsD_done | exact popsD_stop) <;> try simp only [kks, simprocAttr])
    | (with_reducible apply pg <;> (intro hc; (try simp only [hcb, simprocAttr, ne_eq, forall_const] at hc); first | (exfalso; omega) | exact absurd trivial hc | skip))
    | (with_reducible apply hnx; clear hnx nx)
    | (with_reducible refine And.intro (by omega) ?_)
    | (with_reducible refine And.intro ?_ ?_)
    | (clear hnx nx; with_reducible apply hnx; clear hnx nx)
    | (clear hnx nx; clear hnx nx; with_reducible apply hnx; clear hnx nx))
      have hVe : rowsH 3 nms (rowV b.length V) (a.length + 1) = rowsH 3 nms (rowV b.length (lcsT a b)) (a.length + 1) :=
        rowsH_congr fun q hq => ⟨rfl, tab_congr fun t ht => by rw [hV q t (by omega) (by omega), if_pos (by omega)]⟩
      rw [hVe]
      refine W_x ((Wx.of_wk (τ := ⟨fr 198 [(7, .row T 1 (a.length + 1)), (0, .list 1 (a.map pstr)), (1, .list 1 (b.map pstr)), (5, pint .i64 a.length), (6, pint .i64 b.length), (13, pnil), (14, pbool false), (15, pint .i64 0), (16, pint .i64 0)],
        (T, ⟨22, true, 1, tblV (b.length + 1) (a.length + 1) nms⟩) :: rowsH 3 nms (rowV b.length (lcsT a b)) (a.length + 1)⟩) (by exact Wk_fr (by simp only [wkb, simprocAttr]) (Sub_tab hinj hT))).trans
          (Wx_table (by simp [stab]) hinj hT (fun i hi => tab_len _ _) (fun i hi p hp => by obtain ⟨j, _, rfl⟩ := tab_mem.1 hp; rfl) (fun i hi p hp => by obtain ⟨j, _, rfl⟩ := tab_mem.1 hp; rfl))) ?_
      refine W_adopt_f 13 52 3 (by simp only [fr_getD_cons, Nat.reduceEqDiff, Nat.reduceLT, ↓reduceIte]) fun O _ => ?_
      clear hVe hV hT' hT hinj
      refine W_loop_xs (diffJ a b) (a.length + b.length)
        ⟨fr 198 [(0, .list 1 (a.map pstr)), (1, .list 1 (b.map pstr)), (5, pint .i64 a.length), (6, pint .i64 b.length), (7, tblL a b), (13, .row O 3 0), (14, pbool false), (15, pint .i64 (0 : Nat)), (16, pint .i64 (0 : Nat))], [(O, ⟨52, true, 3, []⟩)]⟩ (.of_wk (by exact Wk_fr (by simp only [wkb, simprocAttr]) ⟨by simp, by simp [names]⟩))
        ⟨0, 0, a.length + b.length, [], O, by omega, by omega, by omega, by omega, .inl ⟨by simp, rfl, by rw [flatC_nil]; rfl⟩⟩ ?_
      rintro k τ ⟨i, j, k0, cl, O, hi, hj, rfl, hk, ⟨hlen, hrun, rfl⟩ | ⟨A, at_, drop, add, hOA, hd0, hd1, hadd, hlen, hrun, rfl⟩⟩ lp hlp
      · refine diff_closed G a b ha hb i j k0 cl O hi hj hk hlen hrun lp hlp _ fun σ' hcl hwk => ?_
        simp only [blockK, seqK, ↓reduceIte]
        refine hnx _ (W_wk hwk ?_)
        clear hnx hlp
        repeat' (first
    | (with_reducible apply W_seq_k; intro nx hnx)
    | (with_reducible first | refine wr 105965634715635 ?_ | refine wd (id := 16) 105965634715635 1 (.op 0 true (.op 1 true (.op 2 true (.op 3 true (.op 4 true (.op 5 true (.op 6 true (.op 7 true (.op 8 true (.done)))))))))) (by kernel_rfl) ?_ | refine wd (id := 17) 105965634715635 1 (.op 0 true (.op 1 true (.op 2 true (.op 3 true (.op 4 true (.op 5 true (.op 6 true (.op 7 true (.op 8 true (.op 9 true (.op 10 true (.op 11 true (.op 12 true (.op 13 true (.op 14 true (.op 15 true (.op 16 false (.done)))))))))))))))))) (by kernel_rfl) ?_ | refine wd (id := 18) 105965634715635 1 (.op 0 true (.op 1 true (.op 2 true (.op 3 true (.op 4 true (.op 5 true (.op 6 true (.op 7 true (.op 8 true (.op 9 true (.op 10 true (.op 11 true (.op 12 true (.op 13 true (.op 14 true (.op 15 true (.op 16 true (.op 17 true (.op 18 true (.op 19 true (.op 20 true (.op 21 true (.op 22 true (.op 23 false (.done))))))))))))))))))))))))) (by kernel_rfl) ?_ | refine wd (id := 25) 105965634715635 1 (.op 0 true (.op 1 true (.op 2 true (.op 3 true (.op 4 true (.op 5 true (.op 6 true (.op 7 true (.op 8 true (.op 9 true (.op 10 true (.op 11 true (.op 12 true (.op 13 true (.op 14 true (.op 15 true (.op 16 true (.op 17 true (.op 18 true (.done)))))))))))))))))))) (by kernel_rfl) ?_ | refine wd (id := 33) 105965634715635 1 (.op 0 true (.op 1 true (.op 2 true (.op 3 true (.op 4 true (.op 5 true (.op 6 true (.op 7 true (.op 8 true (.op 9 true (.op 10 true (.op 11 true (.op 12 true (.op 13 true (.op 14 true (.op 15 true (.op 16 true (.op 17 true (.op 18 true (.op 19 true (.op 20 true (.op 21 true (.op 22 true (.op 23 true (.op 24 true (.op 25 true (.op 26 true (.done)))))))))))))))))))))))))))) (by kernel_rfl) ?_ | refine wd (id := 36) 105965634715635 3 (.op 0 true (.op 1 true (.op 2 true (.op 3 true (.op 4 true (.op 5 true (.op 6 true (.op 7 true (.op 8 true (.op 9 true (.op 10 false (.op 11 true (.op 12 true (.op 13 false (.done))))))))))))))) (by kernel_rfl) ?_)
    | ((with_reducible first | (apply WL_op; intro nx hnx) | refine Ev_out ?_ | refine wc ?_ | (apply popsD_op; intro nx hnx) | (refine popsD_alt ?_ ?_; intro nx hnx) | (refine pf hnm fun nm hnm => ?_; try simp only [fmb] at hnm) | (refine pm hnm fun nm hnm => ?_; try simp only [fmb] at hnm) | (refine pmaybe_k ?_; intro bn hbn)); try (simp (maxSteps := 2000000) (disch := omega) only [ev, ↓evp, PV.cells, PV.one, PV.mem?, Value.cells, simprocAttr, hnm, Tryd.tf0, Tryd.tf1, Tryd.tf2, Tryd.tf3, Tryd.tf4, Tryd.tf9, Tryd.tf22, Tryd.tf24, Tryd.tf48, Tryd.tf52, Tryd.tf84, Tryd.tf85]))
    | ((with_reducible first | apply W_block | apply W_scope | apply WL_nil | apply W_label | apply W_skip | apply W_exit | apply W_ret | apply popsD_done | exact popsD_stop) <;> try simp only [kks, simprocAttr])
    | (with_reducible apply pg <;> (intro hc; (try simp only [hcb, simprocAttr, ne_eq, forall_const] at hc); first | (exfalso; omega) | exact absurd trivial hc | skip))
    | (with_reducible apply hnx; clear hnx nx)
    | (with_reducible refine And.intro (by omega) ?_)
    | (with_reducible refine And.intro ?_ ?_)
    | (clear hnx nx; with_reducible apply hnx; clear hnx nx)
    | (clear hnx nx; clear hnx nx; with_reducible apply hnx; clear hnx nx))
        refine hfin _ _ (Fin_ret1 rfl (Sub_refl (by simp [names])) ?_); simp only [cob, simprocAttr]
        exact ⟨O, cl, .inl ⟨hcl, rfl, rfl⟩⟩
      · have hsub : Sub [(O, ⟨52, true, 3, flatC cl ++ [pint .i64 at_, pint .i64 drop, .row A 1 add.length]⟩), (A, ⟨9, true, 1, add.map pstr⟩)] [(O, ⟨52, true, 3, flatC cl ++ [pint .i64 at_, pint .i64 drop, .row A 1 add.length]⟩), (A, ⟨9, true, 1, add.map pstr⟩)] :=
          Sub_refl (by simp only [names, List.map_cons, List.map_nil]; simp; exact hOA)
        refine diff_open G a b ha hb i j k0 cl O A at_ drop add hi hj hk hOA hd0 hd1 hadd hlen hrun lp hlp _ fun σ' hcl hwk => ?_
        simp only [blockK, seqK, ↓reduceIte]
        refine hnx _ (W_wk hwk ?_)
        clear hnx hlp
        repeat' (first
    | (with_reducible apply W_seq_k; intro nx hnx)
    | (with_reducible first | refine wr 105965634715635 ?_ | refine wd (id := 16) 105965634715635 1 (.op 0 true (.op 1 true (.op 2 true (.op 3 true (.op 4 true (.op 5 true (.op 6 true (.op 7 true (.op 8 true (.done)))))))))) (by kernel_rfl) ?_ | refine wd (id := 17) 105965634715635 1 (.op 0 true (.op 1 true (.op 2 true (.op 3 true (.op 4 true (.op 5 true (.op 6 true (.op 7 true (.op 8 true (.op 9 true (.op 10 true (.op 11 true (.op 12 true (.op 13 true (.op 14 true (.op 15 true (.op 16 false (.done)))))))))))))))))) (by kernel_rfl) ?_ | refine wd (id := 18) 105965634715635 1 (.op 0 true (.op 1 true (.op 2 true (.op 3 true (.op 4 true (.op 5 true (.op 6 true (.op 7 true (.op 8 true (.op 9 true (.op 10 true (.op 11 true (.op 12 true (.op 13 true (.op 14 true (.op 15 true (.op 16 true (.op 17 true (.op 18 true (.op 19 true (.op 20 true (.op 21 true (.op 22 true (.op 23 false (.done))))))))))))))))))))))))) (by kernel_rfl) ?_ | refine wd (id := 25) 105965634715635 1 (.op 0 true (.op 1 true (.op 2 true (.op 3 true (.op 4 true (.op 5 true (.op 6 true (.op 7 true (.op 8 true (.op 9 true (.op 10 true (.op 11 true (.op 12 true (.op 13 true (.op 14 true (.op 15 true (.op 16 true (.op 17 true (.op 18 true (.done)))))))))))))))))))) (by kernel_rfl) ?_ | refine wd (id := 33) 105965634715635 1 (.op 0 true (.op 1 true (.op 2 true (.op 3 true (.op 4 true (.op 5 true (.op 6 true (.op 7 true (.op 8 true (.op 9 true (.op 10 true (.op 11 true (.op 12 true (.op 13 true (.op 14 true (.op 15 true (.op 16 true (.op 17 true (.op 18 true (.op 19 true (.op 20 true (.op 21 true (.op 22 true (.op 23 true (.op 24 true (.op 25 true (.op 26 true (.done)))))))))))))))))))))))))))) (by kernel_rfl) ?_ | refine wd (id := 36) 105965634715635 3 (.op 0 true (.op 1 true (.op 2 true (.op 3 true (.op 4 true (.op 5 true (.op 6 true (.op 7 true (.op 8 true (.op 9 true (.op 10 false (.op 11 true (.op 12 true (.op 13 false (.done))))))))))))))) (by kernel_rfl) ?_)
    | ((with_reducible first | (apply WL_op; intro nx hnx) | refine Ev_out ?_ | refine wc ?_ | (apply popsD_op; intro nx hnx) | (refine popsD_alt ?_ ?_; intro nx hnx) | (refine pf hnm fun nm hnm => ?_; try simp only [fmb] at hnm) | (refine pm hnm fun nm hnm => ?_; try simp only [fmb] at hnm) | (refine pmaybe_k ?_; intro bn hbn)); try (simp (maxSteps := 2000000) (disch := omega) only [ev, ↓evp, PV.cells, PV.one, PV.mem?, Value.cells, simprocAttr, hnm, Tryd.tf0, Tryd.tf1, Tryd.tf2, Tryd.tf3, Tryd.tf4, Tryd.tf9, Tryd.tf22, Tryd.tf24, Tryd.tf48, Tryd.tf52, Tryd.tf84, Tryd.tf85]))
    | ((with_reducible first | apply W_block | apply W_scope | apply WL_nil | apply W_label | apply W_skip | apply W_exit | apply W_ret | apply popsD_done | exact popsD_stop) <;> try simp only [kks, simprocAttr])
    | (with_reducible apply pg <;> (intro hc; (try simp only [hcb, simprocAttr, ne_eq, forall_const] at hc); first | (exfalso; omega) | exact absurd trivial hc | skip))
    | (with_reducible apply hnx; clear hnx nx)
    | (with_reducible refine And.intro (by omega) ?_)
    | (with_reducible refine And.intro ?_ ?_)
    | (clear hnx nx; with_reducible apply hnx; clear hnx nx)
    | (clear hnx nx; clear hnx nx; with_reducible apply hnx; clear hnx nx))
        refine hfin _ _ (Fin_ret1 rfl (hsub) ?_); simp only [cob, simprocAttr]
        exact ⟨O, cl, .inr ⟨A, at_, drop, add, hOA, hcl, rfl, rfl⟩⟩
theorem diff_c (G : Globs) (a b : List (List UInt8)) (ha : a.length ≤ 4000000) (hb : b.length ≤ 4000000) :
    PCalls Tryd.prog G 16 [.list 1 (a.map pstr), .list 1 (b.map pstr)] [] (fun res H => res = .list 3 ((diffL a b).map Chg.pv) ∧ H = []) := by
  refine (diff_r G a b ha hb).px fun res H hR => ?_
  obtain ⟨O, cl, ⟨rfl, rfl, rfl⟩ | ⟨A, at_, drop, add, hOA, hcl, rfl, rfl⟩⟩ := hR
  · exact ⟨_, _, Px_chg _, rfl, rfl⟩
  · have h1 := Px_close (G := G) hOA (t1 := 52) (t2 := 9) (cl.length + 1) cl at_ drop add
    have h2 := Px_chg (G := G) (O := O) (t1 := 52) (cl ++ [⟨at_, drop, add⟩])
    rw [List.length_append, List.length_cons, List.length_nil] at h2
    rw [hcl] at h1 h2
    exact ⟨_, _, h1.trans h2, rfl, rfl⟩
end Go.PM

namespace Go.PM
open Go.Proofs
attribute [local irreducible] W PCalls pcall
theorem wrap_eq_zero (x : Int) (h0 : 0 ≤ x) (h1 : x < 18446744073709551616) : IntKind.i64.wrap x = 0 ↔ x = 0 := by
  rw [IntKind.wrap_i64]; omega
/-- Are changes valid, for n lines, behind the place last? -/
def validL (n : Int) : Int → List Chg → Bool
  | _, [] => true
  | last, c :: r => if c.at_ ≤ last ∨ c.drop < 0 ∨ c.at_ > n ∨ c.drop > n - c.at_ ∨ (c.drop = 0 ∧ c.add.length = 0) then false else validL n (c.at_ + c.drop) r
set_option maxRecDepth 100000 in
set_option maxHeartbeats 2000000 in
theorem dvalid_c (G : Globs) (n : Nat) (l : List Chg) (hn : (n : Int) ≤ 9223372036854775807) (hl : (l.length : Int) ≤ 9223372036854775807) (ha : ∀ c ∈ l, (c.add.length : Int) ≤ 9223372036854775807) :
    PCalls Tryd.prog G 38 [pint .i64 n, .list 3 (l.map Chg.pv)] [] (fun res H => res = pbool (validL n (-1) l) ∧ H = []) := by
  (refine PCalls_f Tryd.func38 rfl Tryd.ntmps38 Tryd.results38 (by simp) fun fin hfin => ?_; have hnm : True := trivial; simp only [ev, simprocAttr])
  repeat' (first
    | (with_reducible apply W_seq_k; intro nx hnx)
    | (with_reducible first | refine wr 1971 ?_)
    | ((with_reducible first | (apply WL_op; intro nx hnx) | refine Ev_out ?_ | refine wc ?_ | (refine pf hnm fun nm hnm => ?_; try simp only [fmb] at hnm) | (refine pm hnm fun nm hnm => ?_; try simp only [fmb] at hnm)); try (simp (maxSteps := 2000000) (disch := omega) only [ev, ↓evp, PV.cells, PV.one, PV.mem?, Value.cells, simprocAttr, hnm, Tryd.tf0, Tryd.tf1, Tryd.tf2, Tryd.tf3, Tryd.tf4, Tryd.tf9, Tryd.tf24, Tryd.tf48, Tryd.tf52]))
    | ((with_reducible first | apply W_block | apply W_scope | apply WL_nil | apply W_label | apply W_skip | apply W_exit | apply W_ret) <;> try simp only [kks, simprocAttr])
    | (with_reducible apply pg <;> (intro hc; (try simp only [hcb, simprocAttr, ne_eq, forall_const] at hc); first | (exfalso; omega) | exact absurd trivial hc | skip))
    | (with_reducible apply hnx; clear hnx nx)
    | (with_reducible refine And.intro (by omega) ?_)
    | (with_reducible refine And.intro ?_ ?_)
    | (clear hnx nx; with_reducible apply hnx; clear hnx nx)
    | (clear hnx nx; clear hnx nx; with_reducible apply hnx; clear hnx nx))
  refine W_loop_k (fun k τ => ∃ (i : Nat) (last : Int), i ≤ l.length ∧ k = l.length - i ∧ -1 ≤ last ∧ last ≤ n ∧ validL n (-1) l = validL n last (l.drop i) ∧ τ = ⟨fr 53 [(0, pint .i64 n), (5, pint .i64 last), (8, .list 3 (l.map Chg.pv)), (9, pint .i64 l.length), (10, pint .i64 i)], []⟩) l.length ⟨fr 53 [(0, pint .i64 n), (5, pint .i64 (-1)), (8, .list 3 (l.map Chg.pv)), (9, pint .i64 l.length), (10, pint .i64 (0 : Nat))], []⟩ (by exact Wk_fr (by simp only [wkb, simprocAttr]) (Sub_nil _)) ⟨0, -1, by omega, by omega, by omega, by omega, rfl, rfl⟩ ?_
  rintro k τ ⟨i, last, hi, rfl, hlast, hlast', hv, rfl⟩ lp hlp
  skip
  repeat' (first
    | (with_reducible apply W_seq_k; intro nx hnx)
    | (with_reducible first | refine wr 1971 ?_)
    | ((with_reducible first | (apply WL_op; intro nx hnx) | refine Ev_out ?_ | refine wc ?_ | (refine pf hnm fun nm hnm => ?_; try simp only [fmb] at hnm) | (refine pm hnm fun nm hnm => ?_; try simp only [fmb] at hnm)); try (simp (maxSteps := 2000000) (disch := omega) only [ev, ↓evp, PV.cells, PV.one, PV.mem?, Value.cells, simprocAttr, hnm, Tryd.tf0, Tryd.tf1, Tryd.tf2, Tryd.tf3, Tryd.tf4, Tryd.tf9, Tryd.tf24, Tryd.tf48, Tryd.tf52]))
    | ((with_reducible first | apply W_block | apply W_scope | apply WL_nil | apply W_label | apply W_skip | apply W_exit | apply W_ret) <;> try simp only [kks, simprocAttr])
    | (with_reducible apply pg <;> (intro hc; (try simp only [hcb, simprocAttr, ne_eq, forall_const] at hc); first | (exfalso; omega) | exact absurd trivial hc | skip))
    | (with_reducible apply hnx; clear hnx nx)
    | (with_reducible refine And.intro (by omega) ?_)
    | (with_reducible refine And.intro ?_ ?_)
    | (clear hnx nx; with_reducible apply hnx; clear hnx nx)
    | (clear hnx nx; clear hnx nx; with_reducible apply hnx; clear hnx nx))
  all_goals first
    | (refine hfin _ _ (Fin_ret1 rfl (Sub_nil _) ?_); simp only [cob, simprocAttr]
       refine ⟨?_, trivial⟩
       have hd : l.drop i = l[i] :: l.drop (i + 1) := List.drop_eq_getElem_cons (by omega)
       have hw := wrap_eq_zero (l[i].drop + (l[i].add.length : Int))
       have hz := ha l[i] (List.getElem_mem _)
       rw [hv, hd, validL, if_pos (by omega)])
    | (have hd : l.drop i = l[i] :: l.drop (i + 1) := List.drop_eq_getElem_cons (by omega)
       have hw := wrap_eq_zero (l[i].drop + (l[i].add.length : Int))
       have hz := ha l[i] (List.getElem_mem _)
       refine hlp _ (l.length - (i+1)) _ (by omega) ?_ ⟨i+1, l[i].at_ + l[i].drop, by omega, rfl, by omega, by omega, ?_, rfl⟩
       · exact Wk_fr (by simp only [wkb, simprocAttr]) (Sub_nil _)
       · rw [hv, hd, validL, if_neg (by omega)])
    | (refine hfin _ _ (Fin_ret1 rfl (Sub_nil _) ?_); simp only [cob, simprocAttr]
       refine ⟨?_, trivial⟩
       have hl' : l.length ≤ i := by omega
       rw [hv, List.drop_of_length_le hl', validL])
end Go.PM

namespace Go.PM
open Go.Proofs
attribute [local irreducible] W PCalls pcall pcallI
/-- What changes make of lines, from a place on. -/
def applyF (u : List (List UInt8)) : Int → List Chg → List (List UInt8)
  | at_, [] => u.drop at_.toNat
  | at_, c :: r => (u.drop at_.toNat).take (c.at_ - at_).toNat ++ (c.add ++ applyF u (c.at_ + c.drop) r)
/-- How many lines changes add. -/
def addsL (l : List Chg) : Nat := (l.map fun c => c.add.length).sum
theorem flat_pstr : ∀ l : List (List UInt8), flat (l.map pstr) = l.map pstr
  | [] => rfl
  | x :: l => by
    have := flat_pstr l
    simp only [flat, List.map_cons, List.flatMap_cons] at this ⊢
    rw [this]
    rfl
theorem flat_dt (u : List (List UInt8)) (a b : Nat) : flat (List.drop a (List.take b (List.map pstr u))) = List.map pstr (List.drop a (List.take b u)) := by
  rw [← List.map_take, ← List.map_drop, flat_pstr]
set_option maxRecDepth 100000 in
set_option maxHeartbeats 2000000 in
theorem apply_r (G : Globs) (u : List (List UInt8)) (l : List Chg) (hl : (l.length : Int) ≤ 1000000000000) (hb : u.length + addsL l ≤ 1000000000000) (ha : ∀ c ∈ l, (c.add.length : Int) ≤ 1000000000000) :
    PCalls Tryd.prog G 17 [.list 1 (u.map pstr), .list 3 (l.map Chg.pv)] [] (fun res H => (validL u.length (-1) l = false ∧ res = .tuple [pnil, pint .i64 1] ∧ H = []) ∨
      (validL u.length (-1) l = true ∧ ∃ n ty, res = .tuple [.row n 1 (applyF u 0 l).length, pint .i64 0] ∧ H = [(n, ⟨ty, true, 1, (applyF u 0 l).map pstr⟩)])) := by
  (refine PCalls_f Tryd.func17 rfl Tryd.ntmps17 Tryd.results17 (by simp) fun fin hfin => ?_; have hnm : True := trivial; simp only [ev, simprocAttr])
  repeat' (first
    | (with_reducible apply W_seq_k; intro nx hnx)
    | (with_reducible first | refine wr 230131 ?_ | refine wd (id := 8) 230131 4 (.op 0 true (.op 1 true (.op 2 true (.op 3 true (.op 4 true (.op 5 true (.alt 6 false (.alt 7 true (.alt 8 true (.op 9 false (.op 10 true (.done))) .stop) .stop) (.alt 7 true (.alt 6 false (.alt 8 true (.op 9 false (.op 10 true (.done))) .stop) (.alt 8 true (.op 6 false (.op 9 false (.op 10 true (.done)))) .stop)) .stop)))))))) (by kernel_rfl) ?_)
    | ((with_reducible first | (apply WL_op; intro nx hnx) | refine Ev_out ?_ | refine wc ?_ | (apply popsD_op; intro nx hnx) | (refine popsD_alt ?_ ?_; intro nx hnx) | (refine pf hnm fun nm hnm => ?_; try simp only [fmb] at hnm) | (refine pm hnm fun nm hnm => ?_; try simp only [fmb] at hnm)); try (simp (maxSteps := 2000000) (disch := omega) only [ev, ↓evp, PV.cells, PV.one, PV.mem?, Value.cells, simprocAttr, hnm, Tryd.tf0, Tryd.tf1, Tryd.tf2, Tryd.tf3, Tryd.tf4, Tryd.tf9, Tryd.tf24, Tryd.tf28, Tryd.tf48, Tryd.tf52, Tryd.call38]))
    | ((with_reducible first | apply W_block | apply W_scope | apply WL_nil | apply W_label | apply W_skip | apply W_exit | apply W_ret | apply popsD_done | exact popsD_stop) <;> try simp only [kks, simprocAttr])
    | (with_reducible apply pg <;> (intro hc; (try simp only [hcb, simprocAttr, ne_eq, forall_const] at hc); first | (exfalso; omega) | exact absurd trivial hc | skip))
    | (with_reducible apply hnx; clear hnx nx)
    | (with_reducible refine And.intro (by omega) ?_)
    | (with_reducible refine And.intro ?_ ?_)
    | (clear hnx nx; with_reducible apply hnx; clear hnx nx)
    | (clear hnx nx; clear hnx nx; with_reducible apply hnx; clear hnx nx))
  refine pcall_k (dvalid_c G u.length l (by omega) (by omega) (fun c hc => by have := ha c hc; omega)) ?_
  rintro _ _ ⟨rfl, rfl⟩ -
  (simp only [PState.put, fr_set, List.nil_append, List.append_nil]; try simp (maxSteps := 2000000) (disch := omega) only [ev, ↓evp, PV.cells, PV.one, PV.mem?, Value.cells, simprocAttr, hnm, Tryd.tf0, Tryd.tf1, Tryd.tf2, Tryd.tf3, Tryd.tf4, Tryd.tf9, Tryd.tf24, Tryd.tf28, Tryd.tf48, Tryd.tf52, Tryd.call38])
  repeat' (first
    | (with_reducible apply W_seq_k; intro nx hnx)
    | (with_reducible first | refine wr 230131 ?_ | refine wd (id := 8) 230131 4 (.op 0 true (.op 1 true (.op 2 true (.op 3 true (.op 4 true (.op 5 true (.alt 6 false (.alt 7 true (.alt 8 true (.op 9 false (.op 10 true (.done))) .stop) .stop) (.alt 7 true (.alt 6 false (.alt 8 true (.op 9 false (.op 10 true (.done))) .stop) (.alt 8 true (.op 6 false (.op 9 false (.op 10 true (.done)))) .stop)) .stop)))))))) (by kernel_rfl) ?_)
    | ((with_reducible first | (apply WL_op; intro nx hnx) | refine Ev_out ?_ | refine wc ?_ | (apply popsD_op; intro nx hnx) | (refine popsD_alt ?_ ?_; intro nx hnx) | (refine pf hnm fun nm hnm => ?_; try simp only [fmb] at hnm) | (refine pm hnm fun nm hnm => ?_; try simp only [fmb] at hnm)); try (simp (maxSteps := 2000000) (disch := omega) only [ev, ↓evp, PV.cells, PV.one, PV.mem?, Value.cells, simprocAttr, hnm, Tryd.tf0, Tryd.tf1, Tryd.tf2, Tryd.tf3, Tryd.tf4, Tryd.tf9, Tryd.tf24, Tryd.tf28, Tryd.tf48, Tryd.tf52, Tryd.call38]))
    | ((with_reducible first | apply W_block | apply W_scope | apply WL_nil | apply W_label | apply W_skip | apply W_exit | apply W_ret | apply popsD_done | exact popsD_stop) <;> try simp only [kks, simprocAttr])
    | (with_reducible apply pg <;> (intro hc; (try simp only [hcb, simprocAttr, ne_eq, forall_const] at hc); first | (exfalso; omega) | exact absurd trivial hc | skip))
    | (with_reducible apply hnx; clear hnx nx)
    | (with_reducible refine And.intro (by omega) ?_)
    | (with_reducible refine And.intro ?_ ?_)
    | (clear hnx nx; with_reducible apply hnx; clear hnx nx)
    | (clear hnx nx; clear hnx nx; with_reducible apply hnx; clear hnx nx))
  · refine hfin _ _ (Fin_ret2 rfl rfl (Sub_nil _) ?_); simp only [cob, simprocAttr]
    exact .inl ⟨hc, by first | rfl | trivial, by first | rfl | trivial⟩
  · have hval := hc
    refine W_adopt_f 6 9 1 (by simp only [fr_getD_cons, Nat.reduceEqDiff, Nat.reduceLT, ↓reduceIte]) fun nm0 _ => ?_
    refine W_loop_k (fun k τ => ∃ (i : Nat) (at_ last : Int) (n : Int) (pre : List (List UInt8)), i ≤ l.length ∧ k = l.length - i ∧ 0 ≤ at_ ∧ at_ ≤ u.length ∧ (last = at_ ∨ (last = -1 ∧ at_ = 0)) ∧ validL u.length last (l.drop i) = true ∧ pre ++ applyF u at_ (l.drop i) = applyF u 0 l ∧ pre.length + addsL (l.drop i) + (u.length - at_.toNat) ≤ u.length + addsL l ∧
        τ = ⟨fr 42 [(0, .list 1 (u.map pstr)), (1, .list 3 (l.map Chg.pv)), (6, .row n 1 pre.length), (7, pint .i64 at_), (15, .list 3 (l.map Chg.pv)), (16, pint .i64 l.length), (17, pint .i64 i)], [(n, ⟨9, true, 1, pre.map pstr⟩)]⟩) l.length
      ⟨fr 42 [(0, .list 1 (u.map pstr)), (1, .list 3 (l.map Chg.pv)), (6, .row nm0 1 0), (7, pint .i64 0), (15, .list 3 (l.map Chg.pv)), (16, pint .i64 l.length), (17, pint .i64 (0 : Nat))], [(nm0, ⟨9, true, 1, []⟩)]⟩ (by exact Wk_fr (by simp only [wkb, simprocAttr]) ⟨by simp, by simp [names]⟩)
      ⟨0, 0, -1, nm0, [], by omega, by omega, by omega, by omega, .inr ⟨rfl, rfl⟩, hc, rfl, by simp [Nat.add_comm], rfl⟩ ?_
    rintro k τ ⟨i, at_, last, n, pre, hi, rfl, hat, hat', hla, hv, hpre, hlen, rfl⟩ lp hlp
    have hst : ∀ h : i < l.length, last < l[i].at_ ∧ 0 ≤ l[i].drop ∧ l[i].at_ ≤ u.length ∧ l[i].drop ≤ u.length - l[i].at_ ∧ validL u.length (l[i].at_ + l[i].drop) (l.drop (i + 1)) = true := fun h => by
      rw [List.drop_eq_getElem_cons h, validL] at hv
      split at hv
      · cases hv
      · exact ⟨by omega, by omega, by omega, by omega, hv⟩
    have had : ∀ h : i < l.length, addsL (l.drop i) = l[i].add.length + addsL (l.drop (i + 1)) := fun h => by
      rw [List.drop_eq_getElem_cons h]
      rfl
    by_cases hil : i < l.length
    · obtain ⟨hs1, hs2, hs3, hs4, hs5⟩ := hst hil
      have had := had hil
      have hap : pre ++ List.drop at_.toNat (List.take l[i].at_.toNat u) ++ l[i].add ++ applyF u (l[i].at_ + l[i].drop) (l.drop (i + 1)) = applyF u 0 l := by
        rw [← hpre, List.drop_eq_getElem_cons hil, applyF, List.drop_take, show l[i].at_.toNat - at_.toNat = (l[i].at_ - at_).toNat by omega]
        simp only [List.append_assoc]
      repeat' (first
    | (with_reducible apply W_seq_k; intro nx hnx)
    | (with_reducible first | refine wr 230131 ?_ | refine wd (id := 8) 230131 4 (.op 0 true (.op 1 true (.op 2 true (.op 3 true (.op 4 true (.op 5 true (.alt 6 false (.alt 7 true (.alt 8 true (.op 9 false (.op 10 true (.done))) .stop) .stop) (.alt 7 true (.alt 6 false (.alt 8 true (.op 9 false (.op 10 true (.done))) .stop) (.alt 8 true (.op 6 false (.op 9 false (.op 10 true (.done)))) .stop)) .stop)))))))) (by kernel_rfl) ?_)
    | ((with_reducible first | (apply WL_op; intro nx hnx) | refine Ev_out ?_ | refine wc ?_ | (apply popsD_op; intro nx hnx) | (refine popsD_alt ?_ ?_; intro nx hnx) | (refine pf hnm fun nm hnm => ?_; try simp only [fmb] at hnm) | (refine pm hnm fun nm hnm => ?_; try simp only [fmb] at hnm)); try (simp (maxSteps := 2000000) (disch := omega) only [ev, ↓evp, PV.cells, PV.one, PV.mem?, Value.cells, simprocAttr, hnm, Tryd.tf0, Tryd.tf1, Tryd.tf2, Tryd.tf3, Tryd.tf4, Tryd.tf9, Tryd.tf24, Tryd.tf28, Tryd.tf48, Tryd.tf52, Tryd.call38, flat_dt, flat_pstr]))
    | ((with_reducible first | apply W_block | apply W_scope | apply WL_nil | apply W_label | apply W_skip | apply W_exit | apply W_ret | apply popsD_done | exact popsD_stop) <;> try simp only [kks, simprocAttr])
    | (with_reducible apply pg <;> (intro hc; (try simp only [hcb, simprocAttr, ne_eq, forall_const] at hc); first | (exfalso; omega) | exact absurd trivial hc | skip))
    | (with_reducible apply hnx; clear hnx nx)
    | (with_reducible refine And.intro (by omega) ?_)
    | (with_reducible refine And.intro ?_ ?_)
    | (clear hnx nx; with_reducible apply hnx; clear hnx nx)
    | (clear hnx nx; clear hnx nx; with_reducible apply hnx; clear hnx nx))
      all_goals
        refine hlp _ (l.length - (i+1)) _ (by omega) ?_ ⟨i+1, l[i].at_ + l[i].drop, l[i].at_ + l[i].drop, nm, pre ++ List.drop at_.toNat (List.take l[i].at_.toNat u) ++ l[i].add, by omega, rfl, by omega, by omega, .inl rfl, hs5, hap, ?_, rfl⟩
        · exact Wk_fr (by simp only [wkb, simprocAttr, List.length_append, List.length_drop, List.length_take]) ⟨by simp, by simp [names]⟩
        · simp only [List.length_append, List.length_drop, List.length_take]
          omega
    · repeat' (first
    | (with_reducible apply W_seq_k; intro nx hnx)
    | (with_reducible first | refine wr 230131 ?_ | refine wd (id := 8) 230131 4 (.op 0 true (.op 1 true (.op 2 true (.op 3 true (.op 4 true (.op 5 true (.alt 6 false (.alt 7 true (.alt 8 true (.op 9 false (.op 10 true (.done))) .stop) .stop) (.alt 7 true (.alt 6 false (.alt 8 true (.op 9 false (.op 10 true (.done))) .stop) (.alt 8 true (.op 6 false (.op 9 false (.op 10 true (.done)))) .stop)) .stop)))))))) (by kernel_rfl) ?_)
    | ((with_reducible first | (apply WL_op; intro nx hnx) | refine Ev_out ?_ | refine wc ?_ | (apply popsD_op; intro nx hnx) | (refine popsD_alt ?_ ?_; intro nx hnx) | (refine pf hnm fun nm hnm => ?_; try simp only [fmb] at hnm) | (refine pm hnm fun nm hnm => ?_; try simp only [fmb] at hnm)); try (simp (maxSteps := 2000000) (disch := omega) only [ev, ↓evp, PV.cells, PV.one, PV.mem?, Value.cells, simprocAttr, hnm, Tryd.tf0, Tryd.tf1, Tryd.tf2, Tryd.tf3, Tryd.tf4, Tryd.tf9, Tryd.tf24, Tryd.tf28, Tryd.tf48, Tryd.tf52, Tryd.call38, flat_dt, flat_pstr]))
    | ((with_reducible first | apply W_block | apply W_scope | apply WL_nil | apply W_label | apply W_skip | apply W_exit | apply W_ret | apply popsD_done | exact popsD_stop) <;> try simp only [kks, simprocAttr])
    | (with_reducible apply pg <;> (intro hc; (try simp only [hcb, simprocAttr, ne_eq, forall_const] at hc); first | (exfalso; omega) | exact absurd trivial hc | skip))
    | (with_reducible apply hnx; clear hnx nx)
    | (with_reducible refine And.intro (by omega) ?_)
    | (with_reducible refine And.intro ?_ ?_)
    | (clear hnx nx; with_reducible apply hnx; clear hnx nx)
    | (clear hnx nx; clear hnx nx; with_reducible apply hnx; clear hnx nx))
      refine hfin _ _ (Fin_ret2 rfl rfl (Sub_refl (by simp [names])) ?_); simp only [cob, simprocAttr]
      refine .inr ⟨hval, nm, 9, ?_⟩
      rw [List.drop_of_length_le (by omega : l.length ≤ i), applyF] at hpre
      rw [← hpre, List.take_of_length_le (Nat.le_refl _)]
      refine ⟨?_, ?_⟩
      · simp
      · simp
end Go.PM

namespace Go.PM
open Go.Proofs
/-- The lines, and the error, that applying changes gives. -/
def applyL (u : List (List UInt8)) (l : List Chg) : List (List UInt8) := if validL u.length (-1) l then applyF u 0 l else []
def applyE (u : List (List UInt8)) (l : List Chg) : Int := if validL u.length (-1) l then 0 else 1
theorem Px_apply {G : Globs} {u : List (List UInt8)} {l : List Chg} {res : PV} {H : Heap} (h : (validL u.length (-1) l = false ∧ res = .tuple [pnil, pint .i64 1] ∧ H = []) ∨
      (validL u.length (-1) l = true ∧ ∃ n ty, res = .tuple [.row n 1 (applyF u 0 l).length, pint .i64 0] ∧ H = [(n, ⟨ty, true, 1, (applyF u 0 l).map pstr⟩)])) :
    ∃ res' H', Px G res H res' H' ∧ res' = .tuple [.list 1 ((applyL u l).map pstr), pint .i64 (applyE u l)] ∧ H' = [] := by
  rcases h with ⟨hv, rfl, rfl⟩ | ⟨hv, n, ty, rfl, rfl⟩
  · refine ⟨_, _, Px.nil2 1 _ _, ?_, rfl⟩
    simp [applyL, applyE, hv]
  · refine ⟨_, _, Px.freeze _ _ n (o := ⟨ty, true, 1, (applyF u 0 l).map pstr⟩) (by simp only [look, if_true]) (by simp [frzOk, del]), ?_, by simp [frzH, del]⟩
    simp [frz, frz1, elemsOf, applyL, applyE, hv]
    rw [List.take_of_length_le (by simp)]
theorem apply_c (G : Globs) (u : List (List UInt8)) (l : List Chg) (hl : (l.length : Int) ≤ 1000000000000) (hb : u.length + addsL l ≤ 1000000000000) (ha : ∀ c ∈ l, (c.add.length : Int) ≤ 1000000000000) :
    PCalls Tryd.prog G 17 [.list 1 (u.map pstr), .list 3 (l.map Chg.pv)] [] (fun res H => res = .tuple [.list 1 ((applyL u l).map pstr), pint .i64 (applyE u l)] ∧ H = []) :=
  (apply_r G u l hl hb ha).px fun _ _ hR => Px_apply hR
end Go.PM

namespace Go.PM
section
variable {α : Type} [DecidableEq α]
theorem lcs_max : ∀ (a b s : List α), s.Sublist a → s.Sublist b → s.length ≤ lcs a b
  | [], b, s, h1, _ => by
    cases h1
    simp
  | x :: a, [], s, _, h2 => by
    cases h2
    simp
  | x :: a, y :: b, s, h1, h2 => by
    have q1 := (lcs_step a (y :: b)).1 x
    have q2 := (lcs_step (x :: a) b).2 y
    cases h1 with
    | cons _ h1 =>
      have := lcs_max a (y :: b) s h1 h2
      omega
    | @cons_cons s' _ _ h1 =>
      cases h2 with
      | cons _ h2 =>
        have := lcs_max (x :: a) b (x :: s') (h1.cons_cons x) h2
        omega
      | cons_cons _ h2 =>
        have := lcs_max a b s' h1 h2
        rw [lcs_cons, if_pos rfl, List.length_cons]
        omega
  termination_by a b => a.length + b.length
end
theorem sizeL_app (l m : List Chg) : sizeL (l ++ m) = sizeL l + sizeL m := by
  unfold sizeL
  rw [List.map_append, List.sum_append]
theorem run_size : ∀ (k : Nat) (i : Int) (cur : Option Chg) (a b : List (List UInt8)), a.length + b.length ≤ k → sizeL (run k i cur a b) = sizeL cur.toList + ((a.length : Int) + b.length - 2 * lcs a b)
  | 0, i, cur, a, b, h => by
    have ha : a = [] := List.length_eq_zero_iff.1 (by omega)
    have hb : b = [] := List.length_eq_zero_iff.1 (by omega)
    subst ha hb
    rw [run_end, lcs_nil]
    simp
  | k + 1, i, cur, [], [], _ => by
    rw [run_end, lcs_nil]
    simp
  | k + 1, i, cur, x :: a, [], h => by
    rw [run, run_size k _ _ _ _ (by simp at h ⊢; omega), lcs_nil', lcs_nil']
    cases cur <;> simp [sizeL] <;> omega
  | k + 1, i, cur, [], y :: b, h => by
    rw [run, run_size k _ _ _ _ (by simp at h ⊢; omega), lcs_nil, lcs_nil]
    cases cur <;> simp [sizeL] <;> omega
  | k + 1, i, cur, x :: a, y :: b, h => by
    simp only [List.length_cons] at h
    rw [run, lcs_cons]
    by_cases hxy : x = y
    · rw [if_pos hxy, if_pos hxy, sizeL_app, run_size k _ _ _ _ (by omega)]
      simp [sizeL]
      omega
    · rw [if_neg hxy, if_neg hxy]
      split
      · rename_i hle
        rw [run_size k _ _ _ _ (by simp; omega), Nat.max_eq_left hle]
        cases cur <;> simp [sizeL] <;> omega
      · rename_i hle
        rw [run_size k _ _ _ _ (by simp; omega), Nat.max_eq_right (by omega)]
        cases cur <;> simp [sizeL] <;> omega
/-- How many lines Diff drops and adds. -/
theorem diffL_size (a b : List (List UInt8)) : sizeL (diffL a b) = (a.length : Int) + b.length - 2 * lcs a b := by
  rw [diffL, run_size _ _ _ _ _ (Nat.le_refl _)]
  simp [sizeL]
end Go.PM

namespace Go.PM
theorem run_valid (u : List (List UInt8)) : ∀ (k i : Nat) (cur : Option Chg) (b : List (List UInt8)) (last : Int), i ≤ u.length → (u.drop i).length + b.length ≤ k → last < (cur.getD ⟨i, 0, []⟩).at_ → 0 ≤ (cur.getD ⟨i, 0, []⟩).drop →
    (cur.getD ⟨i, 0, []⟩).at_ + (cur.getD ⟨i, 0, []⟩).drop = i → (∀ c, cur = some c → ¬ (c.drop = 0 ∧ c.add.length = 0)) → validL u.length last (run k i cur (u.drop i) b) = true
  | k, i, cur, b, last, hi, hk, h1, h2, h3, h4 => by
    have one : validL u.length last cur.toList = true := by
      cases cur with
      | none => rfl
      | some c =>
        have := h4 c rfl
        simp only [Option.getD_some] at h1 h2 h3
        simp only [Option.toList_some]
        rw [validL, if_neg (by omega), validL]
    cases k with
    | zero => exact one
    | succ k =>
      by_cases hiu : i < u.length
      · have hd : u.drop i = u[i] :: u.drop (i + 1) := List.drop_eq_getElem_cons hiu
        have drp : validL u.length last (run k ((i : Int) + 1) (some ⟨(cur.getD ⟨i, 0, []⟩).at_, (cur.getD ⟨i, 0, []⟩).drop + 1, (cur.getD ⟨i, 0, []⟩).add⟩) (u.drop (i + 1)) b) = true := by
          have hk2 : (u.drop i).length = (u.drop (i + 1)).length + 1 := by rw [hd, List.length_cons]
          have := run_valid u k (i + 1) (some ⟨(cur.getD ⟨i, 0, []⟩).at_, (cur.getD ⟨i, 0, []⟩).drop + 1, (cur.getD ⟨i, 0, []⟩).add⟩) b last (by omega) (by omega) (by simpa using h1) (by simp only [Option.getD_some]; omega) (by simp only [Option.getD_some]; omega)
            (fun c hc => by cases hc; simp only; omega)
          simpa using this
        cases b with
        | nil =>
          rw [hd, run]
          exact drp
        | cons y b =>
          have hkl : (u.drop i).length + b.length ≤ k := by simp only [List.length_cons] at hk; omega
          have ad : validL u.length last (run k (i : Int) (some ⟨(cur.getD ⟨i, 0, []⟩).at_, (cur.getD ⟨i, 0, []⟩).drop, (cur.getD ⟨i, 0, []⟩).add ++ [y]⟩) (u.drop i) b) = true :=
            run_valid u k i (some ⟨(cur.getD ⟨i, 0, []⟩).at_, (cur.getD ⟨i, 0, []⟩).drop, (cur.getD ⟨i, 0, []⟩).add ++ [y]⟩) b last hi hkl (by simpa using h1) (by simpa using h2) (by simpa using h3) (fun c hc => by cases hc; simp)
          rw [hd, run]
          split
          · have kp : ∀ last' : Int, last' ≤ i → validL u.length last' (run k ((i : Int) + 1) none (u.drop (i + 1)) b) = true := fun last' hl => by
              have hk2 : (u.drop i).length = (u.drop (i + 1)).length + 1 := by rw [hd, List.length_cons]
              have := run_valid u k (i + 1) none b last' (by omega) (by omega) (by simp only [Option.getD_none]; omega) (by simp) (by simp) (fun c hc => by cases hc)
              simpa using this
            cases cur with
            | none =>
              simp only [Option.getD_none] at h1
              exact kp last (by omega)
            | some c =>
              have h5 := h4 c rfl
              simp only [Option.getD_some] at h1 h2 h3
              simp only [Option.toList_some, List.cons_append, List.nil_append]
              rw [validL, if_neg (by omega), h3]
              exact kp i (by omega)
          · split
            · exact drp
            · rw [← hd]
              exact ad
      · rw [List.drop_of_length_le (by omega)]
        cases b with
        | nil =>
          rw [run]
          exact one
        | cons y b =>
          rw [run]
          have := run_valid u k i (some ⟨(cur.getD ⟨i, 0, []⟩).at_, (cur.getD ⟨i, 0, []⟩).drop, (cur.getD ⟨i, 0, []⟩).add ++ [y]⟩) b last hi (by simp only [List.length_cons] at hk; omega) (by simpa using h1) (by simpa using h2) (by simpa using h3) (fun c hc => by cases hc; simp)
          rw [List.drop_of_length_le (by omega)] at this
          exact this
theorem diffL_valid (u v : List (List UInt8)) : validL u.length (-1) (diffL u v) = true := by
  have := run_valid u (u.length + v.length) 0 none v (-1) (by omega) (by simp) (by simp) (by simp) (by simp) (fun c hc => by cases hc)
  simpa [diffL] using this
theorem run_apply (u : List (List UInt8)) : ∀ (k i : Nat) (cur : Option Chg) (b : List (List UInt8)) (p : Int), i ≤ u.length → (u.drop i).length + b.length ≤ k → 0 ≤ p → p ≤ (cur.getD ⟨i, 0, []⟩).at_ → 0 ≤ (cur.getD ⟨i, 0, []⟩).drop →
    (cur.getD ⟨i, 0, []⟩).at_ + (cur.getD ⟨i, 0, []⟩).drop = i → applyF u p (run k i cur (u.drop i) b) = (u.drop p.toNat).take ((cur.getD ⟨i, 0, []⟩).at_ - p).toNat ++ ((cur.getD ⟨i, 0, []⟩).add ++ b)
  | k, i, cur, b, p, hi, hk, h0, h1, h2, h3 => by
    have one : u.length ≤ i → b = [] → applyF u p cur.toList = (u.drop p.toNat).take ((cur.getD ⟨i, 0, []⟩).at_ - p).toNat ++ ((cur.getD ⟨i, 0, []⟩).add ++ b) := fun hu hb => by
      subst hb
      cases cur with
      | none =>
        simp only [Option.getD_none, Option.toList_none] at *
        rw [applyF, List.take_of_length_le (by rw [List.length_drop]; omega)]
        simp
      | some c =>
        simp only [Option.getD_some, Option.toList_some] at *
        rw [applyF, applyF, List.drop_of_length_le (by omega : u.length ≤ (c.at_ + c.drop).toNat)]
    cases k with
    | zero =>
      have hb : b = [] := List.length_eq_zero_iff.1 (by omega)
      have hu : u.length ≤ i := by rw [List.length_drop] at hk; omega
      have := one hu hb
      simpa [run] using this
    | succ k =>
      by_cases hiu : i < u.length
      · have hd : u.drop i = u[i] :: u.drop (i + 1) := List.drop_eq_getElem_cons hiu
        have hk2 : (u.drop i).length = (u.drop (i + 1)).length + 1 := by rw [hd, List.length_cons]
        have drp : applyF u p (run k ((i : Int) + 1) (some ⟨(cur.getD ⟨i, 0, []⟩).at_, (cur.getD ⟨i, 0, []⟩).drop + 1, (cur.getD ⟨i, 0, []⟩).add⟩) (u.drop (i + 1)) b) = (u.drop p.toNat).take ((cur.getD ⟨i, 0, []⟩).at_ - p).toNat ++ ((cur.getD ⟨i, 0, []⟩).add ++ b) := by
          have := run_apply u k (i + 1) (some ⟨(cur.getD ⟨i, 0, []⟩).at_, (cur.getD ⟨i, 0, []⟩).drop + 1, (cur.getD ⟨i, 0, []⟩).add⟩) b p (by omega) (by omega) h0 (by simpa using h1) (by simp only [Option.getD_some]; omega) (by simp only [Option.getD_some]; omega)
          simpa using this
        cases b with
        | nil =>
          rw [hd, run]
          exact drp
        | cons y b =>
          have hkl : (u.drop i).length + b.length ≤ k := by simp only [List.length_cons] at hk; omega
          have ad : applyF u p (run k (i : Int) (some ⟨(cur.getD ⟨i, 0, []⟩).at_, (cur.getD ⟨i, 0, []⟩).drop, (cur.getD ⟨i, 0, []⟩).add ++ [y]⟩) (u.drop i) b) = (u.drop p.toNat).take ((cur.getD ⟨i, 0, []⟩).at_ - p).toNat ++ ((cur.getD ⟨i, 0, []⟩).add ++ y :: b) := by
            have := run_apply u k i (some ⟨(cur.getD ⟨i, 0, []⟩).at_, (cur.getD ⟨i, 0, []⟩).drop, (cur.getD ⟨i, 0, []⟩).add ++ [y]⟩) b p hi hkl h0 (by simpa using h1) (by simpa using h2) (by simpa using h3)
            rw [this]
            simp
          rw [hd, run]
          split
          · rename_i hxy
            have kp : ∀ p' : Int, 0 ≤ p' → p' ≤ i → applyF u p' (run k ((i : Int) + 1) none (u.drop (i + 1)) b) = (u.drop p'.toNat).take (i - p').toNat ++ y :: b := fun p' hp0 hp => by
              have := run_apply u k (i + 1) none b p' (by omega) (by omega) hp0 (by simp only [Option.getD_none]; omega) (by simp) (by simp)
              simp only [Int.natCast_add, Int.cast_ofNat_Int, Option.getD_none] at this
              rw [this, show ((i : Int) + 1 - p').toNat = (i - p').toNat + 1 by omega, List.take_add_one, List.getElem?_drop, show p'.toNat + (i - p').toNat = i by omega, List.getElem?_eq_getElem hiu, hxy]
              simp
            cases cur with
            | none =>
              simp only [Option.getD_none] at h1
              simp only [Option.getD_none, Option.toList_none, List.nil_append]
              exact kp p h0 h1
            | some c =>
              simp only [Option.getD_some] at h1 h2 h3
              simp only [Option.toList_some, List.cons_append, List.nil_append, Option.getD_some]
              rw [applyF, h3, kp i (by omega) (by omega)]
              simp
          · split
            · exact drp
            · rw [← hd]
              exact ad
      · have hdn : u.drop i = [] := List.drop_of_length_le (by omega)
        rw [hdn]
        cases b with
        | nil =>
          rw [run]
          exact one (by omega) rfl
        | cons y b =>
          rw [run]
          have := run_apply u k i (some ⟨(cur.getD ⟨i, 0, []⟩).at_, (cur.getD ⟨i, 0, []⟩).drop, (cur.getD ⟨i, 0, []⟩).add ++ [y]⟩) b p hi (by simp only [List.length_cons] at hk; omega) h0 (by simpa using h1) (by simpa using h2) (by simpa using h3)
          rw [hdn] at this
          rw [this]
          simp
/-- Apply of Diff leads from the one to the other. -/
theorem diffL_apply (u v : List (List UInt8)) : applyF u 0 (diffL u v) = v := by
  have := run_apply u (u.length + v.length) 0 none v 0 (by omega) (by simp) (by omega) (by simp) (by simp) (by simp)
  simpa [diffL] using this
def dropsL (l : List Chg) : Int := (l.map fun c => c.drop).sum
theorem size_parts : ∀ l : List Chg, sizeL l = dropsL l + addsL l
  | [] => rfl
  | c :: l => by
    have := size_parts l
    have e1 : sizeL (c :: l) = c.drop + (c.add.length : Int) + sizeL l := by simp [sizeL]
    have e2 : dropsL (c :: l) = c.drop + dropsL l := by simp [dropsL]
    have e3 : addsL (c :: l) = c.add.length + addsL l := rfl
    omega
theorem apply_keeps (u : List (List UInt8)) : ∀ (l : List Chg) (last p : Int), validL u.length last l = true → 0 ≤ p → p ≤ u.length → (p = last ∨ (p = 0 ∧ last = -1)) →
    ∃ s : List (List UInt8), s.Sublist (u.drop p.toNat) ∧ s.Sublist (applyF u p l) ∧ (s.length : Int) = u.length - p - dropsL l ∧ ((applyF u p l).length : Int) = u.length - p - dropsL l + addsL l
  | [], last, p, _, h0, h1, _ => by
    refine ⟨u.drop p.toNat, List.Sublist.refl _, by rw [applyF]; exact List.Sublist.refl _, ?_, ?_⟩
    · rw [List.length_drop]
      simp [dropsL]
      omega
    · rw [applyF, List.length_drop]
      simp [dropsL, addsL]
      omega
  | c :: l, last, p, hv, h0, h1, h2 => by
    rw [validL] at hv
    split at hv
    · cases hv
    · rename_i hc
      obtain ⟨s, s1, s2, s3, s4⟩ := apply_keeps u l (c.at_ + c.drop) (c.at_ + c.drop) hv (by omega) (by omega) (.inl rfl)
      have e2 : dropsL (c :: l) = c.drop + dropsL l := by simp [dropsL]
      have e3 : addsL (c :: l) = c.add.length + addsL l := rfl
      have hlen : ((u.drop p.toNat).take (c.at_ - p).toNat).length = (c.at_ - p).toNat := by
        rw [List.length_take, List.length_drop]
        omega
      refine ⟨(u.drop p.toNat).take (c.at_ - p).toNat ++ s, ?_, ?_, ?_, ?_⟩
      · have hsplit : u.drop p.toNat = (u.drop p.toNat).take (c.at_ - p).toNat ++ u.drop c.at_.toNat := by
          conv => lhs; rw [← List.take_append_drop (c.at_ - p).toNat (u.drop p.toNat)]
          rw [List.drop_drop, show p.toNat + (c.at_ - p).toNat = c.at_.toNat by omega]
        have hd : u.drop (c.at_ + c.drop).toNat = (u.drop c.at_.toNat).drop c.drop.toNat := by
          rw [List.drop_drop, show c.at_.toNat + c.drop.toNat = (c.at_ + c.drop).toNat by omega]
        have hs : s.Sublist (u.drop c.at_.toNat) := s1.trans (hd ▸ List.drop_sublist _ _)
        conv => rhs; rw [hsplit]
        exact (List.Sublist.refl _).append hs
      · rw [applyF]
        exact (List.Sublist.refl _).append (s2.trans (List.sublist_append_right _ _))
      · rw [List.length_append, hlen]
        omega
      · rw [applyF, List.length_append, List.length_append, hlen]
        omega
/-- No valid changes that lead from u to w are smaller than what Diff makes. -/
theorem least (u : List (List UInt8)) (c : List Chg) (hc : validL u.length (-1) c = true) : sizeL (diffL u (applyF u 0 c)) ≤ sizeL c := by
  obtain ⟨s, s1, s2, s3, s4⟩ := apply_keeps u c (-1) 0 hc (by omega) (by omega) (.inr ⟨rfl, rfl⟩)
  have h1 := lcs_max u (applyF u 0 c) s (by simpa using s1) s2
  have h2 := size_parts c
  rw [diffL_size]
  omega
end Go.PM

namespace Go.PM
open Go.Proofs
attribute [local irreducible] W PCalls pcall pcallI
theorem map_take_succ {α : Type} (f : α → PV) (l : List α) (i : Nat) (h : i < l.length) : (l.take i).map f ++ [f l[i]] = (l.take (i + 1)).map f := by
  rw [List.take_add_one, List.getElem?_eq_getElem h, List.map_append]
  rfl
def aroundI (n m : Int) : Int := if n < 0 then (-(n+1)).tmod m else n.tmod m
theorem aroundI_range (n m : Int) (hm : 0 < m) : 0 ≤ aroundI n m ∧ aroundI n m < m := by
  unfold aroundI
  split
  · exact ⟨Int.tmod_nonneg _ (by omega), Int.tmod_lt_of_pos _ hm⟩
  · exact ⟨Int.tmod_nonneg _ (by omega), Int.tmod_lt_of_pos _ hm⟩
/-- The letters from which lines are cut. -/
def abc : List UInt8 := [97, 98, 99, 100, 101, 102]
def lineI (x : Int) : List UInt8 := abc.take (aroundI x 6).toNat
set_option maxHeartbeats 1000000 in
theorem lines_r (G : Globs) (l : List Int) (hl : (l.length : Int) ≤ 9223372036854775807) (hs : ∀ x ∈ l, -9223372036854775808 ≤ x ∧ x ≤ 9223372036854775807) :
    PCalls Tryd.prog G 6 [.list 1 (l.map (pint .i64))] [] (fun res H => ∃ n ty, res = .row n 1 ((l.take 14).map fun x => pstr (lineI x)).length ∧ H = [(n, ⟨ty, true, 1, (l.take 14).map fun x => pstr (lineI x)⟩)]) := by
  (refine PCalls_f Tryd.func6 rfl Tryd.ntmps6 Tryd.results6 (by simp) fun fin hfin => ?_; have hnm : True := trivial; simp only [ev, simprocAttr])
  repeat' (first
    | (with_reducible apply W_seq_k; intro nx hnx)
    | (with_reducible first | refine wr 61 ?_)
    | ((with_reducible first | (apply WL_op; intro nx hnx) | refine Ev_out ?_ | refine wc ?_ | (refine pf hnm fun nm hnm => ?_; try simp only [fmb] at hnm) | (refine pm hnm fun nm hnm => ?_; try simp only [fmb] at hnm)); try (simp (maxSteps := 2000000) (disch := omega) only [ev, ↓evp, PV.cells, PV.one, PV.mem?, Value.cells, simprocAttr, hnm, Tryd.tf0, Tryd.tf1, Tryd.tf3, Tryd.tf4, Tryd.tf9, Tryd.tf22, Tryd.tf24, Tryd.call20]))
    | ((with_reducible first | apply W_block | apply W_scope | apply WL_nil | apply W_label | apply W_skip | apply W_exit | apply W_ret) <;> try simp only [kks, simprocAttr])
    | (with_reducible apply pg <;> (intro hc; (try simp only [hcb, simprocAttr, ne_eq, forall_const] at hc); first | (exfalso; omega) | exact absurd trivial hc | skip))
    | (with_reducible apply hnx; clear hnx nx)
    | (with_reducible refine And.intro (by omega) ?_)
    | (with_reducible refine And.intro ?_ ?_)
    | (clear hnx nx; with_reducible apply hnx; clear hnx nx)
    | (clear hnx nx; clear hnx nx; with_reducible apply hnx; clear hnx nx))
  refine W_adopt_f 3 9 1 (by simp only [fr_getD_cons, Nat.reduceEqDiff, Nat.reduceLT, ↓reduceIte]) fun nm0 _ => ?_
  refine W_loop_k (fun k τ => ∃ (i : Nat) (n : Int), i ≤ l.length ∧ i ≤ 14 ∧ k = l.length - i ∧ τ = ⟨fr 27 [(0, .list 1 (l.map (pint .i64))), (3, .row n 1 i), (4, pint .i64 i)], [(n, ⟨9, true, 1, (l.take i).map fun x => pstr (lineI x)⟩)]⟩) l.length ⟨fr 27 [(0, .list 1 (l.map (pint .i64))), (3, .row nm0 1 0), (4, pint .i64 (0 : Nat))], [(nm0, ⟨9, true, 1, []⟩)]⟩ (by exact Wk_fr (by simp only [wkb, simprocAttr]) ⟨by simp, by simp [names]⟩) ⟨0, nm0, by omega, by omega, by omega, rfl⟩ ?_
  rintro k τ ⟨i, n, hi, hi', rfl, rfl⟩ lp hlp
  skip
  repeat' (first
    | (with_reducible apply W_seq_k; intro nx hnx)
    | (with_reducible first | refine wr 61 ?_)
    | ((with_reducible first | (apply WL_op; intro nx hnx) | refine Ev_out ?_ | refine wc ?_ | (refine pf hnm fun nm hnm => ?_; try simp only [fmb] at hnm) | (refine pm hnm fun nm hnm => ?_; try simp only [fmb] at hnm)); try (simp (maxSteps := 2000000) (disch := omega) only [ev, ↓evp, PV.cells, PV.one, PV.mem?, Value.cells, simprocAttr, hnm, Tryd.tf0, Tryd.tf1, Tryd.tf3, Tryd.tf4, Tryd.tf9, Tryd.tf22, Tryd.tf24, Tryd.call20]))
    | ((with_reducible first | apply W_block | apply W_scope | apply WL_nil | apply W_label | apply W_skip | apply W_exit | apply W_ret) <;> try simp only [kks, simprocAttr])
    | (with_reducible apply pg <;> (intro hc; (try simp only [hcb, simprocAttr, ne_eq, forall_const] at hc); first | (exfalso; omega) | exact absurd trivial hc | skip))
    | (with_reducible apply hnx; clear hnx nx)
    | (with_reducible refine And.intro (by omega) ?_)
    | (with_reducible refine And.intro ?_ ?_)
    | (clear hnx nx; with_reducible apply hnx; clear hnx nx)
    | (clear hnx nx; clear hnx nx; with_reducible apply hnx; clear hnx nx))
  · refine pcall_k (around_c G l[i] 6 (hs _ (List.getElem_mem _)).1 (hs _ (List.getElem_mem _)).2 (by omega)) ?_
    rintro _ _ ⟨rfl, rfl⟩ -
    have hr := aroundI_range l[i] 6 (by omega)
    rw [show (if l[i] < 0 then (-(l[i] + 1)).tmod 6 else l[i].tmod 6) = aroundI l[i] 6 from rfl]
    simp (maxSteps := 2000000) (disch := omega) only [ev, ↓evp, PV.cells, PV.one, PV.mem?, Value.cells, simprocAttr, hnm, Tryd.tf0, Tryd.tf1, Tryd.tf3, Tryd.tf4, Tryd.tf9, Tryd.tf22, Tryd.tf24, Tryd.call20]
    repeat' (first
    | (with_reducible apply W_seq_k; intro nx hnx)
    | (with_reducible first | refine wr 61 ?_)
    | ((with_reducible first | (apply WL_op; intro nx hnx) | refine Ev_out ?_ | refine wc ?_ | (refine pf hnm fun nm hnm => ?_; try simp only [fmb] at hnm) | (refine pm hnm fun nm hnm => ?_; try simp only [fmb] at hnm)); try (simp (maxSteps := 2000000) (disch := omega) only [ev, ↓evp, PV.cells, PV.one, PV.mem?, Value.cells, simprocAttr, hnm, Tryd.tf0, Tryd.tf1, Tryd.tf3, Tryd.tf4, Tryd.tf9, Tryd.tf22, Tryd.tf24, Tryd.call20]))
    | ((with_reducible first | apply W_block | apply W_scope | apply WL_nil | apply W_label | apply W_skip | apply W_exit | apply W_ret) <;> try simp only [kks, simprocAttr])
    | (with_reducible apply pg <;> (intro hc; (try simp only [hcb, simprocAttr, ne_eq, forall_const] at hc); first | (exfalso; omega) | exact absurd trivial hc | skip))
    | (with_reducible apply hnx; clear hnx nx)
    | (with_reducible refine And.intro (by omega) ?_)
    | (with_reducible refine And.intro ?_ ?_)
    | (clear hnx nx; with_reducible apply hnx; clear hnx nx)
    | (clear hnx nx; clear hnx nx; with_reducible apply hnx; clear hnx nx))
    rw [show List.take (aroundI l[i] 6).toNat [97, 98, 99, 100, 101, 102] = lineI l[i] from rfl, map_take_succ (fun x => pstr (lineI x)) l i (by omega)]
    refine hlp _ (l.length - (i+1)) _ (by omega) ?_ ⟨i+1, nm, by omega, by omega, rfl, rfl⟩
    exact Wk_fr (by simp only [wkb, simprocAttr]) ⟨by simp, by simp [names]⟩
  · refine hfin _ _ (Fin_ret1 rfl (Sub_refl (by simp [names])) ?_); simp only [cob, simprocAttr]
    have e : i = 14 := by omega
    subst e
    exact ⟨n, 9, by rw [List.length_map, List.length_take, Nat.min_eq_left (by omega)], rfl⟩
  · refine hfin _ _ (Fin_ret1 rfl (Sub_refl (by simp [names])) ?_); simp only [cob, simprocAttr]
    have e : i = l.length := by omega
    subst e
    rw [List.take_of_length_le (Nat.le_refl _), List.take_of_length_le (by omega : l.length ≤ 14)]
    exact ⟨n, 9, by rw [List.length_map], rfl⟩
theorem lines_c (G : Globs) (l : List Int) (hl : (l.length : Int) ≤ 9223372036854775807) (hs : ∀ x ∈ l, -9223372036854775808 ≤ x ∧ x ≤ 9223372036854775807) :
    PCalls Tryd.prog G 6 [.list 1 (l.map (pint .i64))] [] (fun res H => res = .list 1 (((l.take 14).map lineI).map pstr) ∧ H = []) := by
  have := (lines_r G l hl hs).frz_row fun res H h => h
  rw [List.map_map]
  exact this
end Go.PM

namespace Go.PM
/-- ... and makes no more changes than there are lines. -/
theorem run_len : ∀ (k : Nat) (i : Int) (cur : Option Chg) (a b : List (List UInt8)), (run k i cur a b).length ≤ 1 + a.length + b.length ∧ (cur = none → (run k i cur a b).length ≤ a.length + b.length)
  | 0, i, cur, a, b => by cases cur <;> simp [run] <;> omega
  | k + 1, i, cur, [], [] => by cases cur <;> simp [run]
  | k + 1, i, cur, x :: a, [] => by
    have := (run_len k (i + 1) (some ⟨(cur.getD ⟨i, 0, []⟩).at_, (cur.getD ⟨i, 0, []⟩).drop + 1, (cur.getD ⟨i, 0, []⟩).add⟩) a []).1
    rw [run]
    simp only [List.length_cons, List.length_nil] at this ⊢
    exact ⟨by omega, fun _ => by omega⟩
  | k + 1, i, cur, [], y :: b => by
    have := (run_len k i (some ⟨(cur.getD ⟨i, 0, []⟩).at_, (cur.getD ⟨i, 0, []⟩).drop, (cur.getD ⟨i, 0, []⟩).add ++ [y]⟩) [] b).1
    rw [run]
    simp only [List.length_cons, List.length_nil] at this ⊢
    exact ⟨by omega, fun _ => by omega⟩
  | k + 1, i, cur, x :: a, y :: b => by
    have h1 := (run_len k (i + 1) none a b).2 rfl
    have h2 := (run_len k (i + 1) (some ⟨(cur.getD ⟨i, 0, []⟩).at_, (cur.getD ⟨i, 0, []⟩).drop + 1, (cur.getD ⟨i, 0, []⟩).add⟩) a (y :: b)).1
    have h3 := (run_len k i (some ⟨(cur.getD ⟨i, 0, []⟩).at_, (cur.getD ⟨i, 0, []⟩).drop, (cur.getD ⟨i, 0, []⟩).add ++ [y]⟩) (x :: a) b).1
    rw [run]
    simp only [List.length_cons] at h1 h2 h3 ⊢
    split
    · have : cur.toList.length ≤ 1 := by cases cur <;> simp
      simp only [List.length_append]
      refine ⟨by omega, fun e => ?_⟩
      subst e
      simp
      omega
    · split
      · exact ⟨by omega, fun _ => by omega⟩
      · exact ⟨by omega, fun _ => by omega⟩
theorem diffL_len (a b : List (List UInt8)) : (diffL a b).length ≤ a.length + b.length := (run_len _ _ _ _ _).2 rfl
end Go.PM

namespace Go.PM
open Go.Proofs
attribute [local irreducible] W PCalls pcall pcallI WL
theorem four_bytes (a b c d : UInt8) : (((a.toUInt32 <<< UInt32.ofNat 24) ||| (b.toUInt32 <<< UInt32.ofNat 16)) ||| (c.toUInt32 <<< UInt32.ofNat 8)) ||| d.toUInt32 = [a, b, c, d].foldl accB 0 := by
  have e1 : ∀ x : UInt32, x <<< UInt32.ofNat 24 = ((x <<< UInt32.ofNat 8) <<< UInt32.ofNat 8) <<< UInt32.ofNat 8 := fun x => by
    rw [← UInt32.shiftLeft_add (by decide) (by decide) (by decide), ← UInt32.shiftLeft_add (by decide) (by decide) (by decide)]
    rfl
  have e2 : ∀ x : UInt32, x <<< UInt32.ofNat 16 = (x <<< UInt32.ofNat 8) <<< UInt32.ofNat 8 := fun x => by
    rw [← UInt32.shiftLeft_add (by decide) (by decide) (by decide)]
    rfl
  have e3 : (0 : UInt32) <<< UInt32.ofNat 8 = 0 := by decide
  simp only [List.foldl_cons, List.foldl_nil, accB, e3, UInt32.zero_or, UInt32.shiftLeft_or, e1, e2]
theorem wB_four (b : List UInt8) (t : Nat) (h : 4 * t + 3 < b.length) : wB b t = [b[4 * t], b[4 * t + 1], b[4 * t + 2], b[4 * t + 3]].foldl accB 0 := by
  have e : (b.drop (4 * t)).take 4 = [b[4 * t], b[4 * t + 1], b[4 * t + 2], b[4 * t + 3]] := by
    rw [List.drop_eq_getElem_cons (by omega), List.drop_eq_getElem_cons (by omega), List.drop_eq_getElem_cons (by omega), List.drop_eq_getElem_cons (by omega)]
    rfl
  rw [wB, e]
set_option maxRecDepth 100000 in
set_option maxHeartbeats 8000000 in
theorem words_c (G : Globs) (b : List UInt8) (hb : b.length = 64) : PCalls Tryd.prog G 96 [.list 1 (b.map pbyte)] [] (fun res H => res = .agg ((WLs b 64).map pw) ∧ H = []) := by
  (refine PCalls_f Tryd.func96 rfl Tryd.ntmps96 Tryd.results96 (by simp) fun fin hfin => ?_; have hnm : True := trivial; simp only [ev, Nat.reduceAdd, Nat.reduceMul, Nat.reduceSub, Nat.reduceLeDiff, Nat.reduceEqDiff, ↓reduceIte, reduceCtorEq, Nat.reduceLT, Nat.reducePow, Nat.reduceDiv, Nat.reduceMod, Nat.reduceBEq, Int.reduceLT, Int.reduceLE, Int.reduceToNat, Int.reduceAdd, Int.reduceSub, Int.reduceNeg])
  repeat' (first
    | (with_reducible apply W_seq_k; intro nx hnx)
    | (with_reducible first | refine wr 253 ?_ | refine wd (id := 5) 253 1 (.op 0 true (.op 1 true (.op 2 true (.op 3 true (.op 4 true (.op 5 true (.op 6 true (.op 7 true (.op 8 true (.op 9 true (.op 10 true (.op 11 true (.op 12 true (.op 13 true (.op 14 true (.op 15 true (.op 16 true (.op 17 true (.op 18 true (.op 19 true (.op 20 true (.op 21 true (.op 22 true (.op 23 true (.op 24 true (.op 25 true (.op 26 true (.op 27 true (.op 28 true (.op 29 true (.op 30 true (.op 31 true (.op 32 true (.op 33 true (.op 34 true (.op 35 false (.done))))))))))))))))))))))))))))))))))))) (by kernel_rfl) ?_ | refine wd (id := 9) 253 1 (.op 0 true (.op 1 true (.op 2 true (.op 3 true (.op 5 true (.op 6 true (.op 7 true (.op 8 true (.op 11 true (.op 12 true (.op 13 true (.op 14 true (.op 15 true (.op 4 true (.op 9 true (.op 10 true (.op 16 true (.op 17 true (.done))))))))))))))))))) (by kernel_rfl) ?_ | refine wd (id := 10) 253 1 (.op 0 true (.op 1 true (.op 2 true (.op 3 true (.op 5 true (.op 6 true (.op 7 true (.op 8 true (.op 11 true (.op 12 true (.op 13 true (.op 14 true (.op 15 true (.op 4 true (.op 9 true (.op 10 true (.op 16 true (.op 17 true (.done))))))))))))))))))) (by kernel_rfl) ?_ | refine wd (id := 11) 253 1 (.op 0 true (.op 1 true (.op 2 true (.op 3 true (.op 4 true (.op 5 true (.op 6 true (.op 7 true (.op 8 true (.op 9 true (.op 10 true (.op 11 true (.op 12 true (.op 13 true (.op 14 true (.op 15 false (.done))))))))))))))))) (by kernel_rfl) ?_)
    | ((with_reducible first | (apply WL_op; intro nx hnx) | refine Ev_out ?_ | refine wc ?_ | (apply popsD_op; intro nx hnx) | (refine popsD_alt ?_ ?_; intro nx hnx) | (refine pf hnm fun nm hnm => ?_; try simp only [fmb] at hnm) | (refine pm hnm fun nm hnm => ?_; try simp only [fmb] at hnm)); try (simp (maxSteps := 2000000) (disch := omega) only [ev, ↓evp, PV.cells, PV.one, PV.mem?, Value.cells, Nat.reduceAdd, Nat.reduceMul, Nat.reduceSub, Nat.reduceLeDiff, Nat.reduceEqDiff, ↓reduceIte, reduceCtorEq, Nat.reduceLT, Nat.reducePow, Nat.reduceDiv, Nat.reduceMod, Nat.reduceBEq, Int.reduceLT, Int.reduceLE, Int.reduceToNat, Int.reduceAdd, Int.reduceSub, Int.reduceNeg, hnm, Tryd.tf0, Tryd.tf3, Tryd.tf4, Tryd.tf5, Tryd.tf27, Tryd.tf74, Tryd.tf131, Tryd.tf132, Tryd.call97]))
    | ((with_reducible first | apply W_block | apply W_scope | apply WL_nil | apply W_label | apply W_skip | apply W_exit | apply W_ret | apply popsD_done | exact popsD_stop) <;> try simp only [kks, Nat.reduceAdd, Nat.reduceMul, Nat.reduceSub, Nat.reduceLeDiff, Nat.reduceEqDiff, ↓reduceIte, reduceCtorEq, Nat.reduceLT, Nat.reducePow, Nat.reduceDiv, Nat.reduceMod, Nat.reduceBEq, Int.reduceLT, Int.reduceLE, Int.reduceToNat, Int.reduceAdd, Int.reduceSub, Int.reduceNeg])
    | (with_reducible apply pg <;> (intro hc; (try simp only [hcb, Nat.reduceAdd, Nat.reduceMul, Nat.reduceSub, Nat.reduceLeDiff, Nat.reduceEqDiff, ↓reduceIte, reduceCtorEq, Nat.reduceLT, Nat.reducePow, Nat.reduceDiv, Nat.reduceMod, Nat.reduceBEq, Int.reduceLT, Int.reduceLE, Int.reduceToNat, Int.reduceAdd, Int.reduceSub, Int.reduceNeg, ne_eq, forall_const] at hc); first | (exfalso; omega) | exact absurd trivial hc | skip))
    | (with_reducible apply hnx; clear hnx nx)
    | (with_reducible refine And.intro (by omega) ?_)
    | (with_reducible refine And.intro ?_ ?_)
    | (clear hnx nx; with_reducible apply hnx; clear hnx nx)
    | (clear hnx nx; clear hnx nx; with_reducible apply hnx; clear hnx nx))
  rename_i N2 _
  obtain ⟨N3, hN3⟩ : ∃ N, N = nm := ⟨_, rfl⟩
  subst hN3
  have hN : N3 ≠ N2 := by simp only [ne_eq, hnm, not_false_eq_true]
  have hN1 : ¬ N3 = N2 := hN
  have hN4 : ¬ N2 = N3 := fun e => hN e.symm
  clear hnm
  have hnm : True := trivial
  refine W_loop_k (fun z τ => ∃ t : Nat, t ≤ 16 ∧ z = 16 - t ∧ τ = ⟨fr 101 [(0, .list 1 (b.map pbyte)), (2, .ptr N2 0), (3, .ptr N3 0), (4, pint .i64 t)], [(N3, ⟨132, false, 0, cW b t⟩), (N2, ⟨132, false, 0, cW b 0⟩)]⟩) 16 ⟨fr 101 [(0, .list 1 (b.map pbyte)), (2, .ptr N2 0), (3, .ptr N3 0), (4, pint .i64 (0 : Nat))], [(N3, ⟨132, false, 0, cW b 0⟩), (N2, ⟨132, false, 0, cW b 0⟩)]⟩ (by
    rw [cW_zero]
    refine Wk_fr (by simp only [wkb, Nat.reduceAdd, Nat.reduceMul, Nat.reduceSub, Nat.reduceLeDiff, Nat.reduceEqDiff, ↓reduceIte, reduceCtorEq, Nat.reduceLT, Nat.reducePow, Nat.reduceDiv, Nat.reduceMod, Nat.reduceBEq, Int.reduceLT, Int.reduceLE, Int.reduceToNat, Int.reduceAdd, Int.reduceSub, Int.reduceNeg]) ?_
    exact ⟨by simp, by simp [names, hN]⟩) ⟨0, by omega, by omega, rfl⟩ ?_
  rintro z τ ⟨t, ht, rfl, rfl⟩ lp hlp
  have hcl := cW_len b t
  by_cases ht1 : t < 16
  · have h0 : (4 * (t : Int)).toNat = 4 * t := by omega
    have h1 : (4 * (t : Int) + 1).toNat = 4 * t + 1 := by omega
    have h2 : (4 * (t : Int) + 2).toNat = 4 * t + 2 := by omega
    have h3 : (4 * (t : Int) + 3).toNat = 4 * t + 3 := by omega
    have hw4 := wB_four b t (by omega)
    obtain ⟨x0, hx0⟩ : ∃ x, x = b[4 * t] := ⟨_, rfl⟩
    obtain ⟨x1, hx1⟩ : ∃ x, x = b[4 * t + 1] := ⟨_, rfl⟩
    obtain ⟨x2, hx2⟩ : ∃ x, x = b[4 * t + 2] := ⟨_, rfl⟩
    obtain ⟨x3, hx3⟩ : ∃ x, x = b[4 * t + 3] := ⟨_, rfl⟩
    rw [← hx0, ← hx1, ← hx2, ← hx3, ← four_bytes] at hw4
    have g0 : b[4 * t]? = some x0 := by rw [hx0, List.getElem?_eq_getElem]
    have g1 : b[4 * t + 1]? = some x1 := by rw [hx1, List.getElem?_eq_getElem]
    have g2 : b[4 * t + 2]? = some x2 := by rw [hx2, List.getElem?_eq_getElem]
    have g3 : b[4 * t + 3]? = some x3 := by rw [hx3, List.getElem?_eq_getElem]
    have hx0 := hx0.symm
    have hx1 := hx1.symm
    have hx2 := hx2.symm
    have hx3 := hx3.symm
    have s0 := w_shl x0.toUInt32 24 (by omega)
    have s1 := w_shl x1.toUInt32 16 (by omega)
    have s2 := w_shl x2.toUInt32 8 (by omega)
    have b0 := w_byte x0
    have b1 := w_byte x1
    have b2 := w_byte x2
    have b3 := w_byte x3
    have hset := cW_set b t (by omega)
    rw [nxt, if_pos ht1, hw4] at hset
    repeat' (first
    | (with_reducible apply W_seq_k; intro nx hnx)
    | (with_reducible first | refine wr 253 ?_ | refine wd (id := 5) 253 1 (.op 0 true (.op 1 true (.op 2 true (.op 3 true (.op 4 true (.op 5 true (.op 6 true (.op 7 true (.op 8 true (.op 9 true (.op 10 true (.op 11 true (.op 12 true (.op 13 true (.op 14 true (.op 15 true (.op 16 true (.op 17 true (.op 18 true (.op 19 true (.op 20 true (.op 21 true (.op 22 true (.op 23 true (.op 24 true (.op 25 true (.op 26 true (.op 27 true (.op 28 true (.op 29 true (.op 30 true (.op 31 true (.op 32 true (.op 33 true (.op 34 true (.op 35 false (.done))))))))))))))))))))))))))))))))))))) (by kernel_rfl) ?_ | refine wd (id := 9) 253 1 (.op 0 true (.op 1 true (.op 2 true (.op 3 true (.op 5 true (.op 6 true (.op 7 true (.op 8 true (.op 11 true (.op 12 true (.op 13 true (.op 14 true (.op 15 true (.op 4 true (.op 9 true (.op 10 true (.op 16 true (.op 17 true (.done))))))))))))))))))) (by kernel_rfl) ?_ | refine wd (id := 10) 253 1 (.op 0 true (.op 1 true (.op 2 true (.op 3 true (.op 5 true (.op 6 true (.op 7 true (.op 8 true (.op 11 true (.op 12 true (.op 13 true (.op 14 true (.op 15 true (.op 4 true (.op 9 true (.op 10 true (.op 16 true (.op 17 true (.done))))))))))))))))))) (by kernel_rfl) ?_ | refine wd (id := 11) 253 1 (.op 0 true (.op 1 true (.op 2 true (.op 3 true (.op 4 true (.op 5 true (.op 6 true (.op 7 true (.op 8 true (.op 9 true (.op 10 true (.op 11 true (.op 12 true (.op 13 true (.op 14 true (.op 15 false (.done))))))))))))))))) (by kernel_rfl) ?_)
    | ((with_reducible first | (apply WL_op; intro nx hnx) | refine Ev_out ?_ | refine wc ?_ | (apply popsD_op; intro nx hnx) | (refine popsD_alt ?_ ?_; intro nx hnx) | (refine pf hnm fun nm hnm => ?_; try simp only [fmb] at hnm) | (refine pm hnm fun nm hnm => ?_; try simp only [fmb] at hnm)); try (simp (maxSteps := 2000000) (disch := omega) only [ev, ↓evp, PV.cells, PV.one, PV.mem?, Value.cells, Nat.reduceAdd, Nat.reduceMul, Nat.reduceSub, Nat.reduceLeDiff, Nat.reduceEqDiff, ↓reduceIte, reduceCtorEq, Nat.reduceLT, Nat.reducePow, Nat.reduceDiv, Nat.reduceMod, Nat.reduceBEq, Int.reduceLT, Int.reduceLE, Int.reduceToNat, Int.reduceAdd, Int.reduceSub, Int.reduceNeg, hnm, Tryd.tf0, Tryd.tf3, Tryd.tf4, Tryd.tf5, Tryd.tf27, Tryd.tf74, Tryd.tf131, Tryd.tf132, Tryd.call97, hN1, hN4, hcl, h0, h1, h2, h3, g0, g1, g2, g3, hx0, hx1, hx2, hx3, s0, s1, s2, b0, b1, b2, b3, w_or, hset]))
    | ((with_reducible first | apply W_block | apply W_scope | apply WL_nil | apply W_label | apply W_skip | apply W_exit | apply W_ret | apply popsD_done | exact popsD_stop) <;> try simp only [kks, Nat.reduceAdd, Nat.reduceMul, Nat.reduceSub, Nat.reduceLeDiff, Nat.reduceEqDiff, ↓reduceIte, reduceCtorEq, Nat.reduceLT, Nat.reducePow, Nat.reduceDiv, Nat.reduceMod, Nat.reduceBEq, Int.reduceLT, Int.reduceLE, Int.reduceToNat, Int.reduceAdd, Int.reduceSub, Int.reduceNeg])
    | (with_reducible apply pg <;> (intro hc; (try simp only [hcb, Nat.reduceAdd, Nat.reduceMul, Nat.reduceSub, Nat.reduceLeDiff, Nat.reduceEqDiff, ↓reduceIte, reduceCtorEq, Nat.reduceLT, Nat.reducePow, Nat.reduceDiv, Nat.reduceMod, Nat.reduceBEq, Int.reduceLT, Int.reduceLE, Int.reduceToNat, Int.reduceAdd, Int.reduceSub, Int.reduceNeg, ne_eq, forall_const] at hc); first | (exfalso; omega) | exact absurd trivial hc | skip))
    | (with_reducible apply hnx; clear hnx nx)
    | (with_reducible refine And.intro (by omega) ?_)
    | (with_reducible refine And.intro ?_ ?_)
    | (clear hnx nx; with_reducible apply hnx; clear hnx nx)
    | (clear hnx nx; clear hnx nx; with_reducible apply hnx; clear hnx nx))
    all_goals first
      | (exfalso
         omega)
      | (refine hlp _ (16 - (t + 1)) _ (by omega) ?_ ⟨t + 1, by omega, rfl, rfl⟩
         refine Wk_fr (by simp only [wkb, Nat.reduceAdd, Nat.reduceMul, Nat.reduceSub, Nat.reduceLeDiff, Nat.reduceEqDiff, ↓reduceIte, reduceCtorEq, Nat.reduceLT, Nat.reducePow, Nat.reduceDiv, Nat.reduceMod, Nat.reduceBEq, Int.reduceLT, Int.reduceLE, Int.reduceToNat, Int.reduceAdd, Int.reduceSub, Int.reduceNeg]) ?_
         exact ⟨by simp, by simp [names, hN]⟩)
  · have ht16 : t = 16 := by omega
    subst ht16
    repeat' (first
    | (with_reducible apply W_seq_k; intro nx hnx)
    | (with_reducible first | refine wr 253 ?_ | refine wd (id := 5) 253 1 (.op 0 true (.op 1 true (.op 2 true (.op 3 true (.op 4 true (.op 5 true (.op 6 true (.op 7 true (.op 8 true (.op 9 true (.op 10 true (.op 11 true (.op 12 true (.op 13 true (.op 14 true (.op 15 true (.op 16 true (.op 17 true (.op 18 true (.op 19 true (.op 20 true (.op 21 true (.op 22 true (.op 23 true (.op 24 true (.op 25 true (.op 26 true (.op 27 true (.op 28 true (.op 29 true (.op 30 true (.op 31 true (.op 32 true (.op 33 true (.op 34 true (.op 35 false (.done))))))))))))))))))))))))))))))))))))) (by kernel_rfl) ?_ | refine wd (id := 9) 253 1 (.op 0 true (.op 1 true (.op 2 true (.op 3 true (.op 5 true (.op 6 true (.op 7 true (.op 8 true (.op 11 true (.op 12 true (.op 13 true (.op 14 true (.op 15 true (.op 4 true (.op 9 true (.op 10 true (.op 16 true (.op 17 true (.done))))))))))))))))))) (by kernel_rfl) ?_ | refine wd (id := 10) 253 1 (.op 0 true (.op 1 true (.op 2 true (.op 3 true (.op 5 true (.op 6 true (.op 7 true (.op 8 true (.op 11 true (.op 12 true (.op 13 true (.op 14 true (.op 15 true (.op 4 true (.op 9 true (.op 10 true (.op 16 true (.op 17 true (.done))))))))))))))))))) (by kernel_rfl) ?_ | refine wd (id := 11) 253 1 (.op 0 true (.op 1 true (.op 2 true (.op 3 true (.op 4 true (.op 5 true (.op 6 true (.op 7 true (.op 8 true (.op 9 true (.op 10 true (.op 11 true (.op 12 true (.op 13 true (.op 14 true (.op 15 false (.done))))))))))))))))) (by kernel_rfl) ?_)
    | ((with_reducible first | (apply WL_op; intro nx hnx) | refine Ev_out ?_ | refine wc ?_ | (apply popsD_op; intro nx hnx) | (refine popsD_alt ?_ ?_; intro nx hnx) | (refine pf hnm fun nm hnm => ?_; try simp only [fmb] at hnm) | (refine pm hnm fun nm hnm => ?_; try simp only [fmb] at hnm)); try (simp (maxSteps := 2000000) (disch := omega) only [ev, ↓evp, PV.cells, PV.one, PV.mem?, Value.cells, Nat.reduceAdd, Nat.reduceMul, Nat.reduceSub, Nat.reduceLeDiff, Nat.reduceEqDiff, ↓reduceIte, reduceCtorEq, Nat.reduceLT, Nat.reducePow, Nat.reduceDiv, Nat.reduceMod, Nat.reduceBEq, Int.reduceLT, Int.reduceLE, Int.reduceToNat, Int.reduceAdd, Int.reduceSub, Int.reduceNeg, hnm, Tryd.tf0, Tryd.tf3, Tryd.tf4, Tryd.tf5, Tryd.tf27, Tryd.tf74, Tryd.tf131, Tryd.tf132, Tryd.call97, hN1, hN4, hcl]))
    | ((with_reducible first | apply W_block | apply W_scope | apply WL_nil | apply W_label | apply W_skip | apply W_exit | apply W_ret | apply popsD_done | exact popsD_stop) <;> try simp only [kks, Nat.reduceAdd, Nat.reduceMul, Nat.reduceSub, Nat.reduceLeDiff, Nat.reduceEqDiff, ↓reduceIte, reduceCtorEq, Nat.reduceLT, Nat.reducePow, Nat.reduceDiv, Nat.reduceMod, Nat.reduceBEq, Int.reduceLT, Int.reduceLE, Int.reduceToNat, Int.reduceAdd, Int.reduceSub, Int.reduceNeg])
    | (with_reducible apply pg <;> (intro hc; (try simp only [hcb, Nat.reduceAdd, Nat.reduceMul, Nat.reduceSub, Nat.reduceLeDiff, Nat.reduceEqDiff, ↓reduceIte, reduceCtorEq, Nat.reduceLT, Nat.reducePow, Nat.reduceDiv, Nat.reduceMod, Nat.reduceBEq, Int.reduceLT, Int.reduceLE, Int.reduceToNat, Int.reduceAdd, Int.reduceSub, Int.reduceNeg, ne_eq, forall_const] at hc); first | (exfalso; omega) | exact absurd trivial hc | skip))
    | (with_reducible apply hnx; clear hnx nx)
    | (with_reducible refine And.intro (by omega) ?_)
    | (with_reducible refine And.intro ?_ ?_)
    | (clear hnx nx; with_reducible apply hnx; clear hnx nx)
    | (clear hnx nx; clear hnx nx; with_reducible apply hnx; clear hnx nx))
    refine W_loop_k (fun z τ => ∃ t : Nat, 16 ≤ t ∧ t ≤ 64 ∧ z = 64 - t ∧ τ = ⟨fr 101 [(2, .ptr N2 0), (3, .ptr N3 0), (5, pint .i64 t)], [(N3, ⟨132, false, 0, cW b t⟩), (N2, ⟨132, false, 0, cW b 0⟩)]⟩) 48 ⟨fr 101 [(2, .ptr N2 0), (3, .ptr N3 0), (5, pint .i64 (16 : Nat))], [(N3, ⟨132, false, 0, cW b 16⟩), (N2, ⟨132, false, 0, cW b 0⟩)]⟩ (by
      refine Wk_fr (by simp only [wkb, Nat.reduceAdd, Nat.reduceMul, Nat.reduceSub, Nat.reduceLeDiff, Nat.reduceEqDiff, ↓reduceIte, reduceCtorEq, Nat.reduceLT, Nat.reducePow, Nat.reduceDiv, Nat.reduceMod, Nat.reduceBEq, Int.reduceLT, Int.reduceLE, Int.reduceToNat, Int.reduceAdd, Int.reduceSub, Int.reduceNeg]) ?_
      exact ⟨by simp, by simp [names, hN]⟩) ⟨16, by omega, by omega, by omega, rfl⟩ ?_
    rintro z τ ⟨t, ht0, ht, rfl, rfl⟩ lp2 hlp2
    have hcl := cW_len b t
    by_cases ht2 : t < 64
    · have g15 := cW_get b t (t - 15) (by omega)
      have g2 := cW_get b t (t - 2) (by omega)
      have g16 := cW_get b t (t - 16) (by omega)
      have g7 := cW_get b t (t - 7) (by omega)
      have hnx : nxt b (WLs b t) t = (WLs b t).getD (t - 16) 0 + S0 ((WLs b t).getD (t - 15) 0) + (WLs b t).getD (t - 7) 0 + S1 ((WLs b t).getD (t - 2) 0) := by rw [nxt, if_neg (by omega)]
      have hset := cW_set b t ht2
      obtain ⟨p, hp⟩ : ∃ p, p = (WLs b t).getD (t - 15) 0 := ⟨_, rfl⟩
      obtain ⟨q, hq⟩ : ∃ p, p = (WLs b t).getD (t - 2) 0 := ⟨_, rfl⟩
      obtain ⟨u, hu⟩ : ∃ p, p = (WLs b t).getD (t - 16) 0 := ⟨_, rfl⟩
      obtain ⟨v, hv⟩ : ∃ p, p = (WLs b t).getD (t - 7) 0 := ⟨_, rfl⟩
      rw [← hp, ← hq, ← hu, ← hv] at hnx
      rw [← hp] at g15
      rw [← hq] at g2
      rw [← hu] at g16
      rw [← hv] at g7
      rw [hnx] at hset
      have i15 : ((t : Int) - 15).toNat = t - 15 := by omega
      have i2 : ((t : Int) - 2).toNat = t - 2 := by omega
      have i16 : ((t : Int) - 16).toNat = t - 16 := by omega
      have i7 : ((t : Int) - 7).toNat = t - 7 := by omega
      have hr3 := w_shr p 3 (by omega)
      have hr10 := w_shr q 10 (by omega)
      have hS0 : R p 7 ^^^ R p 18 ^^^ (p >>> UInt32.ofNat 3) = S0 p := rfl
      have hS1 : R q 17 ^^^ R q 19 ^^^ (q >>> UInt32.ofNat 10) = S1 q := rfl
      have m1 : PCalls Tryd.prog G 97 [pw p, pint .i64 7] [] (fun res H => res = pw (R p 7) ∧ H = []) := rotr_c G p 7 (by decide) (by decide)
      have m2 : PCalls Tryd.prog G 97 [pw p, pint .i64 18] [] (fun res H => res = pw (R p 18) ∧ H = []) := rotr_c G p 18 (by decide) (by decide)
      have m3 : PCalls Tryd.prog G 97 [pw q, pint .i64 17] [] (fun res H => res = pw (R q 17) ∧ H = []) := rotr_c G q 17 (by decide) (by decide)
      have m4 : PCalls Tryd.prog G 97 [pw q, pint .i64 19] [] (fun res H => res = pw (R q 19) ∧ H = []) := rotr_c G q 19 (by decide) (by decide)
      repeat' (first
    | (with_reducible apply W_seq_k; intro nx hnx)
    | (with_reducible first | refine wr 253 ?_ | refine wd (id := 5) 253 1 (.op 0 true (.op 1 true (.op 2 true (.op 3 true (.op 4 true (.op 5 true (.op 6 true (.op 7 true (.op 8 true (.op 9 true (.op 10 true (.op 11 true (.op 12 true (.op 13 true (.op 14 true (.op 15 true (.op 16 true (.op 17 true (.op 18 true (.op 19 true (.op 20 true (.op 21 true (.op 22 true (.op 23 true (.op 24 true (.op 25 true (.op 26 true (.op 27 true (.op 28 true (.op 29 true (.op 30 true (.op 31 true (.op 32 true (.op 33 true (.op 34 true (.op 35 false (.done))))))))))))))))))))))))))))))))))))) (by kernel_rfl) ?_ | refine wd (id := 9) 253 1 (.op 0 true (.op 1 true (.op 2 true (.op 3 true (.op 5 true (.op 6 true (.op 7 true (.op 8 true (.op 11 true (.op 12 true (.op 13 true (.op 14 true (.op 15 true (.op 4 true (.op 9 true (.op 10 true (.op 16 true (.op 17 true (.done))))))))))))))))))) (by kernel_rfl) ?_ | refine wd (id := 10) 253 1 (.op 0 true (.op 1 true (.op 2 true (.op 3 true (.op 5 true (.op 6 true (.op 7 true (.op 8 true (.op 11 true (.op 12 true (.op 13 true (.op 14 true (.op 15 true (.op 4 true (.op 9 true (.op 10 true (.op 16 true (.op 17 true (.done))))))))))))))))))) (by kernel_rfl) ?_ | refine wd (id := 11) 253 1 (.op 0 true (.op 1 true (.op 2 true (.op 3 true (.op 4 true (.op 5 true (.op 6 true (.op 7 true (.op 8 true (.op 9 true (.op 10 true (.op 11 true (.op 12 true (.op 13 true (.op 14 true (.op 15 false (.done))))))))))))))))) (by kernel_rfl) ?_)
    | ((with_reducible first | (apply WL_op; intro nx hnx) | refine Ev_out ?_ | refine wc ?_ | (apply popsD_op; intro nx hnx) | (refine popsD_alt ?_ ?_; intro nx hnx) | (refine pf hnm fun nm hnm => ?_; try simp only [fmb] at hnm) | (refine pm hnm fun nm hnm => ?_; try simp only [fmb] at hnm)); try (simp (maxSteps := 2000000) (disch := omega) only [ev, ↓evp, PV.cells, PV.one, PV.mem?, Value.cells, Nat.reduceAdd, Nat.reduceMul, Nat.reduceSub, Nat.reduceLeDiff, Nat.reduceEqDiff, ↓reduceIte, reduceCtorEq, Nat.reduceLT, Nat.reducePow, Nat.reduceDiv, Nat.reduceMod, Nat.reduceBEq, Int.reduceLT, Int.reduceLE, Int.reduceToNat, Int.reduceAdd, Int.reduceSub, Int.reduceNeg, hnm, Tryd.tf0, Tryd.tf3, Tryd.tf4, Tryd.tf5, Tryd.tf27, Tryd.tf74, Tryd.tf131, Tryd.tf132, Tryd.call97, hN1, hN4, hcl, g15, g2, g16, g7, i15, i2, i16, i7, hr3, hr10, w_xor, w_add, hS0, hS1, hset]))
    | ((with_reducible first | apply W_block | apply W_scope | apply WL_nil | apply W_label | apply W_skip | apply W_exit | apply W_ret | apply popsD_done | exact popsD_stop) <;> try simp only [kks, Nat.reduceAdd, Nat.reduceMul, Nat.reduceSub, Nat.reduceLeDiff, Nat.reduceEqDiff, ↓reduceIte, reduceCtorEq, Nat.reduceLT, Nat.reducePow, Nat.reduceDiv, Nat.reduceMod, Nat.reduceBEq, Int.reduceLT, Int.reduceLE, Int.reduceToNat, Int.reduceAdd, Int.reduceSub, Int.reduceNeg])
    | (with_reducible apply pg <;> (intro hc; (try simp only [hcb, Nat.reduceAdd, Nat.reduceMul, Nat.reduceSub, Nat.reduceLeDiff, Nat.reduceEqDiff, ↓reduceIte, reduceCtorEq, Nat.reduceLT, Nat.reducePow, Nat.reduceDiv, Nat.reduceMod, Nat.reduceBEq, Int.reduceLT, Int.reduceLE, Int.reduceToNat, Int.reduceAdd, Int.reduceSub, Int.reduceNeg, ne_eq, forall_const] at hc); first | (exfalso; omega) | exact absurd trivial hc | skip))
    | (with_reducible apply hnx; clear hnx nx)
    | (with_reducible refine And.intro (by omega) ?_)
    | (with_reducible refine And.intro ?_ ?_)
    | (with_reducible refine pe (m1) ?_)
    | (with_reducible refine pe (m2) ?_)
    | (with_reducible refine pe (m3) ?_)
    | (with_reducible refine pe (m4) ?_)
    | (clear hnx nx; with_reducible apply hnx; clear hnx nx)
    | (clear hnx nx; clear hnx nx; with_reducible apply hnx; clear hnx nx))
      all_goals first
        | (exfalso
           omega)
        | (refine hlp2 _ (64 - (t + 1)) _ (by omega) ?_ ⟨t + 1, by omega, by omega, rfl, rfl⟩
           refine Wk_fr (by simp only [wkb, Nat.reduceAdd, Nat.reduceMul, Nat.reduceSub, Nat.reduceLeDiff, Nat.reduceEqDiff, ↓reduceIte, reduceCtorEq, Nat.reduceLT, Nat.reducePow, Nat.reduceDiv, Nat.reduceMod, Nat.reduceBEq, Int.reduceLT, Int.reduceLE, Int.reduceToNat, Int.reduceAdd, Int.reduceSub, Int.reduceNeg]) ?_
           exact ⟨by simp, by simp [names, hN]⟩)
    · have ht64 : t = 64 := by omega
      subst ht64
      have hcf := cW_full b
      have hone := all_one_pw (WLs b 64)
      have hwl := WLs_len b 64
      have hc0 := cW_len b 0
      have htk : List.take 64 ((WLs b 64).map pw) = (WLs b 64).map pw := List.take_of_length_le (by simp [hwl])
      have hdr : List.drop 64 (cW b 0) = [] := List.drop_of_length_le (by omega)
      rw [hcf]
      repeat' (first
    | (with_reducible apply W_seq_k; intro nx hnx)
    | (with_reducible first | refine wr 253 ?_ | refine wd (id := 5) 253 1 (.op 0 true (.op 1 true (.op 2 true (.op 3 true (.op 4 true (.op 5 true (.op 6 true (.op 7 true (.op 8 true (.op 9 true (.op 10 true (.op 11 true (.op 12 true (.op 13 true (.op 14 true (.op 15 true (.op 16 true (.op 17 true (.op 18 true (.op 19 true (.op 20 true (.op 21 true (.op 22 true (.op 23 true (.op 24 true (.op 25 true (.op 26 true (.op 27 true (.op 28 true (.op 29 true (.op 30 true (.op 31 true (.op 32 true (.op 33 true (.op 34 true (.op 35 false (.done))))))))))))))))))))))))))))))))))))) (by kernel_rfl) ?_ | refine wd (id := 9) 253 1 (.op 0 true (.op 1 true (.op 2 true (.op 3 true (.op 5 true (.op 6 true (.op 7 true (.op 8 true (.op 11 true (.op 12 true (.op 13 true (.op 14 true (.op 15 true (.op 4 true (.op 9 true (.op 10 true (.op 16 true (.op 17 true (.done))))))))))))))))))) (by kernel_rfl) ?_ | refine wd (id := 10) 253 1 (.op 0 true (.op 1 true (.op 2 true (.op 3 true (.op 5 true (.op 6 true (.op 7 true (.op 8 true (.op 11 true (.op 12 true (.op 13 true (.op 14 true (.op 15 true (.op 4 true (.op 9 true (.op 10 true (.op 16 true (.op 17 true (.done))))))))))))))))))) (by kernel_rfl) ?_ | refine wd (id := 11) 253 1 (.op 0 true (.op 1 true (.op 2 true (.op 3 true (.op 4 true (.op 5 true (.op 6 true (.op 7 true (.op 8 true (.op 9 true (.op 10 true (.op 11 true (.op 12 true (.op 13 true (.op 14 true (.op 15 false (.done))))))))))))))))) (by kernel_rfl) ?_)
    | ((with_reducible first | (apply WL_op; intro nx hnx) | refine Ev_out ?_ | refine wc ?_ | (apply popsD_op; intro nx hnx) | (refine popsD_alt ?_ ?_; intro nx hnx) | (refine pf hnm fun nm hnm => ?_; try simp only [fmb] at hnm) | (refine pm hnm fun nm hnm => ?_; try simp only [fmb] at hnm)); try (simp (maxSteps := 2000000) (disch := omega) only [ev, ↓evp, PV.cells, PV.one, PV.mem?, Value.cells, Nat.reduceAdd, Nat.reduceMul, Nat.reduceSub, Nat.reduceLeDiff, Nat.reduceEqDiff, ↓reduceIte, reduceCtorEq, Nat.reduceLT, Nat.reducePow, Nat.reduceDiv, Nat.reduceMod, Nat.reduceBEq, Int.reduceLT, Int.reduceLE, Int.reduceToNat, Int.reduceAdd, Int.reduceSub, Int.reduceNeg, hnm, Tryd.tf0, Tryd.tf3, Tryd.tf4, Tryd.tf5, Tryd.tf27, Tryd.tf74, Tryd.tf131, Tryd.tf132, Tryd.call97, hN1, hN4, hwl, htk, hone, hc0, hdr, Nat.min_self]))
    | ((with_reducible first | apply W_block | apply W_scope | apply WL_nil | apply W_label | apply W_skip | apply W_exit | apply W_ret | apply popsD_done | exact popsD_stop) <;> try simp only [kks, Nat.reduceAdd, Nat.reduceMul, Nat.reduceSub, Nat.reduceLeDiff, Nat.reduceEqDiff, ↓reduceIte, reduceCtorEq, Nat.reduceLT, Nat.reducePow, Nat.reduceDiv, Nat.reduceMod, Nat.reduceBEq, Int.reduceLT, Int.reduceLE, Int.reduceToNat, Int.reduceAdd, Int.reduceSub, Int.reduceNeg])
    | (with_reducible apply pg <;> (intro hc; (try simp only [hcb, Nat.reduceAdd, Nat.reduceMul, Nat.reduceSub, Nat.reduceLeDiff, Nat.reduceEqDiff, ↓reduceIte, reduceCtorEq, Nat.reduceLT, Nat.reducePow, Nat.reduceDiv, Nat.reduceMod, Nat.reduceBEq, Int.reduceLT, Int.reduceLE, Int.reduceToNat, Int.reduceAdd, Int.reduceSub, Int.reduceNeg, ne_eq, forall_const] at hc); first | (exfalso; omega) | exact absurd trivial hc | skip))
    | (with_reducible apply hnx; clear hnx nx)
    | (with_reducible refine And.intro (by omega) ?_)
    | (with_reducible refine And.intro ?_ ?_)
    | (clear hnx nx; with_reducible apply hnx; clear hnx nx)
    | (clear hnx nx; clear hnx nx; with_reducible apply hnx; clear hnx nx))
      refine hfin _ _ (Fin_cell (res := .agg ((WLs b 64).map pw)) Tryd.tf132 (n := N2) (off := 0) (o := ⟨132, false, 0, (WLs b 64).map pw⟩) (by simp only [fr_getD_cons, Nat.reduceEqDiff, Nat.reduceLT, ↓reduceIte]) (by simp [look, hN1]) ?_ (Sub_nil _) ⟨rfl, rfl⟩)
      simp [pload, hwl, htk, hone]
end Go.PM

namespace Go.PM
open Go.Proofs
attribute [local irreducible] W PCalls pcall pcallI WL
/-- The digits of a number to the base 256, the least one first. -/
def digsF : Nat → Nat → List UInt8
  | 0, _ => []
  | k + 1, m => if m = 0 then [] else UInt8.ofNat (m % 256) :: digsF k (m / 256)
def digs (m : Nat) : List UInt8 := digsF 9 m
/-- What is encoded of an integer. -/
def magn (n : Int) : Nat := if n < 0 then (-1 - n).toNat else n.toNat
def flipB (n : Int) (d : UInt8) : UInt8 := if n < 0 then 255 - d else d
/-- The encoding of an integer. -/
def intB (n : Int) : List UInt8 := (if n < 0 then UInt8.ofNat (127 - (digs (magn n)).length) else UInt8.ofNat (128 + (digs (magn n)).length)) :: (digs (magn n)).reverse.map (flipB n)
theorem wr8 (x : Int) (h0 : 0 ≤ x) (h1 : x < 256) : IntKind.u8.wrap x = x := by
  simp [IntKind.wrap, IntKind.bits, IntKind.signed]
  omega
theorem byte_of (k : Nat) (h : k < 256) : pint .u8 (k : Int) = pbyte (UInt8.ofNat k) := by
  have : (UInt8.ofNat k).toNat = k := UInt8.toNat_ofNat_of_lt' (by simpa using h)
  simp only [pbyte, this]
set_option maxRecDepth 100000 in
set_option maxHeartbeats 8000000 in
theorem rint_r (G : Globs) (n : Int) (hn : -9223372036854775808 ≤ n) (hn2 : n ≤ 9223372036854775807) :
    PCalls Tryd.prog G 51 [pint .i64 n] [] (fun res H => ∃ N, res = .row N 1 (intB n).length ∧ H = [(N, ⟨5, true, 1, (intB n).map pbyte⟩)]) := by
  have hm0 : magn n ≤ 9223372036854775807 := by
    unfold magn
    split <;> omega
  (refine PCalls_f Tryd.func51 rfl Tryd.ntmps51 Tryd.results51 (by simp) fun fin hfin => ?_; have hnm : True := trivial; simp only [ev, simprocAttr])
  repeat' (first
    | (with_reducible apply W_seq_k; intro nx hnx)
    | (with_reducible first | refine wr 509 ?_)
    | ((with_reducible first | (apply WL_op; intro nx hnx) | refine Ev_out ?_ | refine wc ?_ | (refine pf hnm fun nm hnm => ?_; try simp only [fmb] at hnm) | (refine pm hnm fun nm hnm => ?_; try simp only [fmb] at hnm)); try (simp (maxSteps := 2000000) (disch := omega) only [ev, ↓evp, PV.cells, PV.one, PV.mem?, Value.cells, simprocAttr, hnm, Tryd.tf0, Tryd.tf1, Tryd.tf3, Tryd.tf4, Tryd.tf5, Tryd.tf27]))
    | ((with_reducible first | apply W_block | apply W_scope | apply WL_nil | apply W_label | apply W_skip | apply W_exit | apply W_ret) <;> try simp only [kks, simprocAttr])
    | (with_reducible apply pg <;> (intro hc; (try simp only [hcb, simprocAttr, ne_eq, forall_const] at hc); first | (exfalso; omega) | exact absurd trivial hc | skip))
    | (with_reducible apply hnx; clear hnx nx)
    | (with_reducible refine And.intro (by omega) ?_)
    | (with_reducible refine And.intro ?_ ?_)
    | (clear hnx nx; with_reducible apply hnx; clear hnx nx)
    | (clear hnx nx; clear hnx nx; with_reducible apply hnx; clear hnx nx))
  all_goals
    refine W_adopt_f 4 5 1 (by simp only [fr_getD_cons, Nat.reduceEqDiff, Nat.reduceLT, ↓reduceIte]) fun D0 _ => ?_
    refine W_loop_k (fun k τ => ∃ (mm : Nat) (D : Int) (pre : List UInt8), k = mm ∧ mm ≤ 9223372036854775807 ∧ pre.length ≤ 8 ∧ mm < 256 ^ (8 - pre.length) ∧ pre ++ digsF (9 - pre.length) mm = digs (magn n) ∧
      τ = ⟨fr 59 [(0, pint .i64 n), (3, pint .i64 mm), (4, .row D 1 pre.length)], [(D, ⟨5, true, 1, pre.map pbyte⟩)]⟩) (magn n)
      ⟨fr 59 [(0, pint .i64 n), (3, pint .i64 (magn n)), (4, .row D0 1 0)], [(D0, ⟨5, true, 1, []⟩)]⟩ ?_ ⟨magn n, D0, [], rfl, hm0, by simp, by simp; omega, rfl, rfl⟩ ?_
  all_goals first
    | (have e : ((magn n : Nat) : Int) = -1 - n := by
         unfold magn
         rw [if_pos hc]
         omega
       rw [e]
       exact Wk_fr (by simp only [List.forall_mem_cons, List.not_mem_nil, false_implies, implies_true, and_true, true_and, and_self, fr_getD_cons, fr_getD_nil, Nat.reduceEqDiff, Nat.reduceLT, ↓reduceIte, Int.natCast_add, Int.cast_ofNat_Int, Int.natCast_zero]) ⟨by simp, by simp [names]⟩)
    | (have e : ((magn n : Nat) : Int) = n := by
         unfold magn
         rw [if_neg hc]
         omega
       rw [e]
       exact Wk_fr (by simp only [List.forall_mem_cons, List.not_mem_nil, false_implies, implies_true, and_true, true_and, and_self, fr_getD_cons, fr_getD_nil, Nat.reduceEqDiff, Nat.reduceLT, ↓reduceIte, Int.natCast_add, Int.cast_ofNat_Int, Int.natCast_zero]) ⟨by simp, by simp [names]⟩)
    | skip
  all_goals
    rintro k τ ⟨mm, D, pre, rfl, hmm, hp8, hlt, hpre, rfl⟩ lp hlp
    have htm : ((k : Nat) : Int).tmod 256 = ((k % 256 : Nat) : Int) := by rw [Int.tmod_eq_emod_of_nonneg (by omega)]; omega
    have htd : ((k : Nat) : Int).tdiv 256 = ((k / 256 : Nat) : Int) := by rw [Int.tdiv_eq_ediv_of_nonneg (by omega)]; omega
    have hw8 : IntKind.u8.wrap ((k % 256 : Nat) : Int) = ((k % 256 : Nat) : Int) := wr8 _ (by omega) (by omega)
    have hw8a : IntKind.u8.wrap (127 - (pre.length : Int)) = ((127 - pre.length : Nat) : Int) := by rw [wr8 _ (by omega) (by omega)]; omega
    have hw8b : IntKind.u8.wrap (128 + (pre.length : Int)) = ((128 + pre.length : Nat) : Int) := by rw [wr8 _ (by omega) (by omega)]; omega
    repeat' (first
    | (with_reducible apply W_seq_k; intro nx hnx)
    | (with_reducible first | refine wr 509 ?_)
    | ((with_reducible first | (apply WL_op; intro nx hnx) | refine Ev_out ?_ | refine wc ?_ | (refine pf hnm fun nm hnm => ?_; try simp only [fmb] at hnm) | (refine pm hnm fun nm hnm => ?_; try simp only [fmb] at hnm)); try (simp (maxSteps := 2000000) (disch := omega) only [ev, ↓evp, PV.cells, PV.one, PV.mem?, Value.cells, simprocAttr, hnm, Tryd.tf0, Tryd.tf1, Tryd.tf3, Tryd.tf4, Tryd.tf5, Tryd.tf27, htm, htd, hw8, hw8a, hw8b]))
    | ((with_reducible first | apply W_block | apply W_scope | apply WL_nil | apply W_label | apply W_skip | apply W_exit | apply W_ret) <;> try simp only [kks, simprocAttr])
    | (with_reducible apply pg <;> (intro hc; (try simp only [hcb, simprocAttr, ne_eq, forall_const] at hc); first | (exfalso; omega) | exact absurd trivial hc | skip))
    | (with_reducible apply hnx; clear hnx nx)
    | (with_reducible refine And.intro (by omega) ?_)
    | (with_reducible refine And.intro ?_ ?_)
    | (clear hnx nx; with_reducible apply hnx; clear hnx nx)
    | (clear hnx nx; clear hnx nx; with_reducible apply hnx; clear hnx nx))
  all_goals first
    | (have hp7 : pre.length < 8 := by
         rcases Nat.lt_or_ge pre.length 8 with h | h
         · exact h
         · rw [show 8 - pre.length = 0 by omega] at hlt
           omega
       have hstep : pre ++ [UInt8.ofNat (k % 256)] ++ digsF (9 - (pre.length + 1)) (k / 256) = digs (magn n) := by
         rw [← hpre, show 9 - pre.length = (9 - (pre.length + 1)) + 1 by omega, digsF, if_neg (by omega)]
         simp
       have hlt2 : k / 256 < 256 ^ (8 - (pre.length + 1)) := by
         rw [show 8 - pre.length = (8 - (pre.length + 1)) + 1 by omega, Nat.pow_succ] at hlt
         exact Nat.div_lt_of_lt_mul (by rw [Nat.mul_comm]; exact hlt)
       rw [byte_of (k % 256) (by omega)]
       refine hlp _ (k / 256) _ (by omega) ?_ ⟨k / 256, nm, pre ++ [UInt8.ofNat (k % 256)], rfl, by omega, by simp; omega, by simpa using hlt2, by simpa using hstep, rfl⟩
       exact Wk_fr (by simp only [List.forall_mem_cons, List.not_mem_nil, false_implies, implies_true, and_true, true_and, and_self, fr_getD_cons, fr_getD_nil, Nat.reduceEqDiff, Nat.reduceLT, ↓reduceIte, Int.natCast_add, Int.cast_ofNat_Int, Int.natCast_zero, List.length_append, List.length_cons, List.length_nil, Nat.zero_add]) ⟨by simp, by simp [names]⟩)
    | skip
  all_goals
    have hk0 : k = 0 := by omega
    subst hk0
    have hds : pre = digs (magn n) := by
      rw [show 9 - pre.length = (8 - pre.length) + 1 by omega, digsF, if_pos rfl, List.append_nil] at hpre
      exact hpre
    have hOD : nm ≠ D := of_eq_false hnm.2.2.1
    obtain ⟨hd, hhd⟩ : ∃ hd : UInt8, intB n = hd :: pre.reverse.map (flipB n) ∧ (n < 0 → pint .u8 ((127 - pre.length : Nat) : Int) = pbyte hd) ∧ (¬ n < 0 → pint .u8 ((128 + pre.length : Nat) : Int) = pbyte hd) := by
      by_cases h : n < 0
      · exact ⟨UInt8.ofNat (127 - pre.length), by rw [intB, if_pos h, ← hds], fun _ => byte_of _ (by omega), fun h' => absurd h h'⟩
      · exact ⟨UInt8.ofNat (128 + pre.length), by rw [intB, if_neg h, ← hds], fun h' => absurd h' h, fun _ => byte_of _ (by omega)⟩
    obtain ⟨hint, hneg, hpos⟩ := hhd
    refine W_loop_k (fun kk τ => ∃ (q : Nat) (O : Int), q ≤ pre.length ∧ kk = pre.length - q ∧ O ≠ D ∧ τ = ⟨fr 59 [(0, pint .i64 n), (4, .row D 1 pre.length), (6, .row O 1 (q + 1)), (7, pint .i64 ((pre.length : Int) - 1 - q))], [(O, ⟨5, true, 1, (hd :: (pre.reverse.take q).map (flipB n)).map pbyte⟩), (D, ⟨5, true, 1, pre.map pbyte⟩)]⟩) pre.length
      ⟨fr 59 [(0, pint .i64 n), (4, .row D 1 pre.length), (6, .row nm 1 1), (7, pint .i64 ((pre.length : Int) - 1 - (0 : Nat)))], [(nm, ⟨5, true, 1, [pbyte hd]⟩), (D, ⟨5, true, 1, pre.map pbyte⟩)]⟩
      (Wk_fr (by simp only [List.forall_mem_cons, List.not_mem_nil, false_implies, implies_true, and_true, true_and, and_self, fr_getD_cons, fr_getD_nil, Nat.reduceEqDiff, Nat.reduceLT, ↓reduceIte, Int.natCast_add, Int.cast_ofNat_Int, Int.natCast_zero, List.length_append, List.length_cons, List.length_nil, Nat.zero_add, Int.sub_zero]) ⟨fun x hx => (by
        simp only [List.mem_cons, List.not_mem_nil, or_false] at hx ⊢
        rcases hx with rfl | rfl
        · first
          | (rw [hneg (by omega)]; exact .inl rfl)
          | (rw [hpos (by omega)]; exact .inl rfl)
        · exact .inr (.inr rfl)), by simp only [names, List.map_cons, List.map_nil]; simp [hOD]⟩) ⟨0, nm, by omega, by omega, hOD, by simp⟩ ?_
    rintro kk τ ⟨q, O, hq, rfl, hO, rfl⟩ lp2 hlp2
    have hO1 : ¬ O = D := hO
    have hO2 : ¬ D = O := fun e => hO e.symm
    have hnm : True := trivial
    by_cases hqp : q < pre.length
    · obtain ⟨j, hj⟩ : ∃ j : Nat, j = pre.length - 1 - q := ⟨_, rfl⟩
      have hz : (pre.length : Int) - 1 - q = j := by omega
      have hpj : pre[j]? = some pre[j] := List.getElem?_eq_getElem (by omega)
      have hx := (pre[j]).toNat_lt
      have hx8 : IntKind.u8.wrap (255 - ((pre[j].toNat : Nat) : Int)) = ((255 - pre[j].toNat : Nat) : Int) := by rw [wr8 _ (by omega) (by omega)]; omega
      have htk : pre.reverse.take (q + 1) = pre.reverse.take q ++ [pre[j]] := by
        rw [List.take_add_one, List.getElem?_reverse (by omega), show pre.length - 1 - q = j by omega, hpj]
        rfl
      rw [hz]
      repeat' (first
    | (with_reducible apply W_seq_k; intro nx hnx)
    | (with_reducible first | refine wr 509 ?_)
    | ((with_reducible first | (apply WL_op; intro nx hnx) | refine Ev_out ?_ | refine wc ?_ | (refine pf hnm fun nm hnm => ?_; try simp only [fmb] at hnm) | (refine pm hnm fun nm hnm => ?_; try simp only [fmb] at hnm)); try (simp (maxSteps := 2000000) (disch := omega) only [ev, ↓evp, PV.cells, PV.one, PV.mem?, Value.cells, simprocAttr, hnm, Tryd.tf0, Tryd.tf1, Tryd.tf3, Tryd.tf4, Tryd.tf5, Tryd.tf27, hpj, hO1, hO2, hx8]))
    | ((with_reducible first | apply W_block | apply W_scope | apply WL_nil | apply W_label | apply W_skip | apply W_exit | apply W_ret) <;> try simp only [kks, simprocAttr])
    | (with_reducible apply pg <;> (intro hc; (try simp only [hcb, simprocAttr, ne_eq, forall_const] at hc); first | (exfalso; omega) | exact absurd trivial hc | skip))
    | (with_reducible apply hnx; clear hnx nx)
    | (with_reducible refine And.intro (by omega) ?_)
    | (with_reducible refine And.intro ?_ ?_)
    | (clear hnx nx; with_reducible apply hnx; clear hnx nx)
    | (clear hnx nx; clear hnx nx; with_reducible apply hnx; clear hnx nx))
      all_goals first
        | (simp
           omega)
        | (have hb : (if n < 0 then pint .u8 ((255 - pre[j].toNat : Nat) : Int) else pbyte pre[j]) = pbyte (flipB n pre[j]) := by
             unfold flipB
             by_cases hneg2 : n < 0
             · rw [if_pos hneg2, if_pos hneg2]
               have : (255 - pre[j]).toNat = 255 - pre[j].toNat := UInt8.toNat_sub_of_le _ _ (UInt8.le_iff_toNat_le.2 (by simp; omega))
               simp only [pbyte, this]
             · rw [if_neg hneg2, if_neg hneg2]
           first
           | rw [if_pos (by omega)] at hb
           | rw [if_neg (by omega)] at hb
           have hz2 : (j : Int) - 1 = (pre.length : Int) - 1 - ((q + 1 : Nat) : Int) := by omega
           have hnD : nm ≠ D := by simp only [ne_eq, hnm, not_false_eq_true]
           rw [hz2]
           refine hlp2 _ (pre.length - (q + 1)) _ (by omega) ?_ ⟨q + 1, nm, by omega, rfl, hnD, rfl⟩
           refine Wk_fr (by simp only [List.forall_mem_cons, List.not_mem_nil, false_implies, implies_true, and_true, true_and, and_self, fr_getD_cons, fr_getD_nil, Nat.reduceEqDiff, Nat.reduceLT, ↓reduceIte, Int.natCast_add, Int.cast_ofNat_Int, Int.natCast_zero, List.length_append, List.length_cons, List.length_nil, Nat.zero_add, Int.sub_zero]) ⟨fun x hx => ?_, by simp only [names, List.map_cons, List.map_nil]; simp [hnD]⟩
           simp only [List.mem_cons, List.not_mem_nil, or_false] at hx ⊢
           rcases hx with rfl | rfl
           · left
             rw [htk]
             simp only [List.map_cons, List.map_append, List.map_nil, hb]
           · exact .inr (.inr rfl))
    · repeat' (first
    | (with_reducible apply W_seq_k; intro nx hnx)
    | (with_reducible first | refine wr 509 ?_)
    | ((with_reducible first | (apply WL_op; intro nx hnx) | refine Ev_out ?_ | refine wc ?_ | (refine pf hnm fun nm hnm => ?_; try simp only [fmb] at hnm) | (refine pm hnm fun nm hnm => ?_; try simp only [fmb] at hnm)); try (simp (maxSteps := 2000000) (disch := omega) only [ev, ↓evp, PV.cells, PV.one, PV.mem?, Value.cells, simprocAttr, hnm, Tryd.tf0, Tryd.tf1, Tryd.tf3, Tryd.tf4, Tryd.tf5, Tryd.tf27, hO1, hO2]))
    | ((with_reducible first | apply W_block | apply W_scope | apply WL_nil | apply W_label | apply W_skip | apply W_exit | apply W_ret) <;> try simp only [kks, simprocAttr])
    | (with_reducible apply pg <;> (intro hc; (try simp only [hcb, simprocAttr, ne_eq, forall_const] at hc); first | (exfalso; omega) | exact absurd trivial hc | skip))
    | (with_reducible apply hnx; clear hnx nx)
    | (with_reducible refine And.intro (by omega) ?_)
    | (with_reducible refine And.intro ?_ ?_)
    | (clear hnx nx; with_reducible apply hnx; clear hnx nx)
    | (clear hnx nx; clear hnx nx; with_reducible apply hnx; clear hnx nx))
      refine hfin _ _ (Fin_ret1 rfl (H := [(O, ⟨5, true, 1, (hd :: (pre.reverse.take q).map (flipB n)).map pbyte⟩)]) ⟨by simp, by simp [names]⟩ ?_)
      simp only [fr_getD_cons, fr_getD_nil, Nat.reduceEqDiff, Nat.reduceLT, ↓reduceIte]
      have hqe : q = pre.length := by omega
      rw [hint]
      refine ⟨O, ?_, ?_⟩
      · simp [hqe]
      · rw [List.take_of_length_le (by simp; omega)]
theorem rint_c (G : Globs) (n : Int) (hn : -9223372036854775808 ≤ n) (hn2 : n ≤ 9223372036854775807) :
    PCalls Tryd.prog G 51 [pint .i64 n] [] (fun res H => res = .list 1 ((intB n).map pbyte) ∧ H = []) := by
  have := (rint_r G n hn hn2).frz_row (xs := (intB n).map pbyte) fun res H h => by
    obtain ⟨N, h1, h2⟩ := h
    exact ⟨N, 5, by rw [List.length_map]; exact h1, h2⟩
  exact this
end Go.PM

namespace Go.PM
open Go.Proofs
attribute [local irreducible] W PCalls pcall pcallI WL
theorem digsF_pow : ∀ (k j m : Nat), j ≤ k → ((digsF k m).length ≤ j ↔ m < 256 ^ j ∨ (k = j ∧ 256 ^ j ≤ m))
  | 0, j, m, hj => by
    have : j = 0 := by omega
    subst this
    simp [digsF]
    omega
  | k + 1, 0, m, _ => by
    rw [digsF]
    split
    · rename_i h
      simp [h]
    · rename_i h
      simp
      omega
  | k + 1, j + 1, m, hj => by
    rw [digsF]
    split
    · rename_i h
      subst h
      simp
      exact Nat.pos_of_ne_zero (by simp)
    · rename_i h
      have ih := digsF_pow k j (m / 256) (by omega)
      rw [List.length_cons, Nat.pow_succ]
      have h1 : m / 256 < 256 ^ j ↔ m < 256 ^ j * 256 := by rw [Nat.div_lt_iff_lt_mul (by omega)]
      have h2 : 256 ^ j ≤ m / 256 ↔ 256 ^ j * 256 ≤ m := by rw [Nat.le_div_iff_mul_le (by omega)]
      rw [← h1, ← h2]
      constructor
      · intro hl
        rcases ih.1 (by omega) with h | ⟨h3, h4⟩
        · exact .inl h
        · exact .inr ⟨by omega, h4⟩
      · intro hl
        have := ih.2 (by
          rcases hl with h | ⟨h3, h4⟩
          · exact .inl h
          · exact .inr ⟨by omega, h4⟩)
        omega
theorem digs_pow (j m : Nat) (hj : j ≤ 8) : (digs m).length ≤ j ↔ m < 256 ^ j := by
  have := digsF_pow 9 j m (by omega)
  unfold digs
  rw [this]
  constructor
  · rintro (h | ⟨h, _⟩)
    · exact h
    · omega
  · exact .inl
theorem digsF_get : ∀ (k i m : Nat) (h : i < (digsF k m).length), (digsF k m)[i] = UInt8.ofNat (m / 256 ^ i % 256)
  | 0, i, m, h => by simp [digsF] at h
  | k + 1, i, m, h => by
    by_cases hm : m = 0
    · subst hm
      simp [digsF] at h
    · have e : digsF (k + 1) m = UInt8.ofNat (m % 256) :: digsF k (m / 256) := by rw [digsF, if_neg hm]
      cases i with
      | zero => simp [e]
      | succ i =>
        have h' : i < (digsF k (m / 256)).length := by
          rw [e, List.length_cons] at h
          omega
        have ih := digsF_get k i (m / 256) h'
        simp only [e, List.getElem_cons_succ]
        rw [ih, Nat.div_div_eq_div_mul, Nat.pow_succ, Nat.mul_comm 256]
end Go.PM

namespace Go.PM
open Go.Proofs
attribute [local irreducible] W PCalls pcall pcallI WL
theorem shr_nat (m : Nat) (x : Int) (k : Nat) (hx : x = k) (hk : k ≤ 8) : ((m : Nat) : Int).fdiv (2 ^ min (8 * x).toNat IntKind.u64.bits) = ((m / 256 ^ k : Nat) : Int) := by
  subst hx
  have h1 : min (8 * (k : Int)).toNat IntKind.u64.bits = 8 * k := by
    simp only [IntKind.bits]
    omega
  rw [h1, Int.fdiv_eq_ediv_of_nonneg _ (by exact_mod_cast Nat.zero_le _), show ((2 : Int) ^ (8 * k)) = ((256 ^ k : Nat) : Int) by
    rw [Int.pow_mul]
    norm_cast]
  rfl
theorem wrap_u64 (n : Int) (hn : -9223372036854775808 ≤ n) (hn2 : n ≤ 9223372036854775807) : IntKind.u64.wrap n = if n < 0 then 18446744073709551616 + n else n := by
  simp [IntKind.wrap, IntKind.bits, IntKind.signed]
  split <;> omega
theorem neg_magn (n : Int) (hn : -9223372036854775808 ≤ n) (h : n < 0) : bits .xor .u64 (if IntKind.u64.signed = true then -1 else IntKind.u64.max) (IntKind.u64.wrap n) = ((magn n : Nat) : Int) := by
  rw [wrap_u64 n hn (by omega), if_pos h]
  have e1 : (if IntKind.u64.signed = true then (-1 : Int) else IntKind.u64.max) = ((2 ^ 64 - 1 : Nat) : Int) := by decide
  have e2 : (18446744073709551616 + n) = ((18446744073709551616 + n).toNat : Int) := by omega
  rw [e1, e2, bits_xor_u64_nat _ _ (by decide) (by omega), Go.Lib.xor_ones64 _ (by omega)]
  unfold magn
  rw [if_pos h]
  omega
theorem pos_magn (n : Int) (hn2 : n ≤ 9223372036854775807) (h : ¬ n < 0) : IntKind.u64.wrap n = ((magn n : Nat) : Int) := by
  rw [wrap_u64 n (by omega) hn2, if_neg h]
  unfold magn
  rw [if_neg h]
  omega
theorem xor255 : ∀ b : _root_.Fin 256, bits .xor .u8 ((b.val : Nat) : Int) 255 = ((255 - b.val : Nat) : Int) := by decide +kernel
theorem xor000 : ∀ b : _root_.Fin 256, bits .xor .u8 ((b.val : Nat) : Int) 0 = ((b.val : Nat) : Int) := by decide +kernel
theorem wr8mod (m : Nat) : IntKind.u8.wrap (m : Int) = ((m % 256 : Nat) : Int) := by
  simp [IntKind.wrap, IntKind.bits, IntKind.signed]
/-- What flips the digits. -/
def flipI (n : Int) : Int := if n < 0 then 255 else 0
theorem flip_xor (n : Int) (b : Nat) (h : b < 256) : pint .u8 (bits .xor .u8 ((b : Nat) : Int) (flipI n)) = pbyte (flipB n (UInt8.ofNat b)) := by
  unfold flipI flipB
  split
  · rw [xor255 ⟨b, h⟩, byte_of _ (by simp only; omega)]
    congr 1
    apply UInt8.toNat_inj.1
    rw [UInt8.toNat_sub_of_le _ _ (UInt8.le_iff_toNat_le.2 (by simp; omega))]
    simp
    omega
  · rw [xor000 ⟨b, h⟩, byte_of _ h]
theorem head_xor (n : Int) (k : Nat) (h : k ≤ 8) : pint .u8 (bits .xor .u8 (IntKind.u8.wrap (128 + (k : Int))) (flipI n)) = pbyte (if n < 0 then UInt8.ofNat (127 - k) else UInt8.ofNat (128 + k)) := by
  have e : (128 + (k : Int)) = ((128 + k : Nat) : Int) := by omega
  rw [e, wr8mod, Nat.mod_eq_of_lt (by omega)]
  unfold flipI
  split
  · rw [xor255 ⟨128 + k, by omega⟩, byte_of _ (by simp only; omega)]
    congr 2
    simp only
    omega
  · rw [xor000 ⟨128 + k, by omega⟩, byte_of _ (by omega)]
set_option maxRecDepth 100000 in
set_option maxHeartbeats 8000000 in
theorem wint_r (G : Globs) (n : Int) (hn : -9223372036854775808 ≤ n) (hn2 : n ≤ 9223372036854775807) :
    PCalls Tryd.prog G 23 [pint .i64 n] [] (fun res H => ∃ N, res = .row N 1 (intB n).length ∧ H = [(N, ⟨5, true, 1, (intB n).map pbyte⟩)]) := by
  have hm0 : magn n ≤ 9223372036854775807 := by
    unfold magn
    split <;> omega
  have hx0 : ((magn n : Nat) : Int) ≤ 9223372036854775807 := by omega
  (refine PCalls_f Tryd.func23 rfl Tryd.ntmps23 Tryd.results23 (by simp) fun fin hfin => ?_; have hnm : True := trivial; simp only [ev, simprocAttr])
  repeat' (first
    | (with_reducible apply W_seq_k; intro nx hnx)
    | (with_reducible first | refine wr 253 ?_)
    | ((with_reducible first | (apply WL_op; intro nx hnx) | refine Ev_out ?_ | refine wc ?_ | (refine pf hnm fun nm hnm => ?_; try simp only [fmb] at hnm) | (refine pm hnm fun nm hnm => ?_; try simp only [fmb] at hnm)); try (simp (maxSteps := 2000000) (disch := omega) only [ev, ↓evp, PV.cells, PV.one, PV.mem?, Value.cells, simprocAttr, hnm, Tryd.tf1, Tryd.tf3, Tryd.tf4, Tryd.tf5, Tryd.tf27, Tryd.tf77]))
    | ((with_reducible first | apply W_block | apply W_scope | apply WL_nil | apply W_label | apply W_skip | apply W_exit | apply W_ret) <;> try simp only [kks, simprocAttr])
    | (with_reducible apply pg <;> (intro hc; (try simp only [hcb, simprocAttr, ne_eq, forall_const] at hc); first | (exfalso; omega) | exact absurd trivial hc | skip))
    | (with_reducible apply hnx; clear hnx nx)
    | (with_reducible refine And.intro (by omega) ?_)
    | (with_reducible refine And.intro ?_ ?_)
    | (clear hnx nx; with_reducible apply hnx; clear hnx nx)
    | (clear hnx nx; clear hnx nx; with_reducible apply hnx; clear hnx nx))
  all_goals
    refine W_loop_k (fun kk τ => ∃ k : Nat, k ≤ 8 ∧ kk = k ∧ magn n < 256 ^ k ∧ τ = ⟨fr 47 [(0, pint .i64 n), (3, pint .u64 (magn n)), (4, pint .u8 (flipI n)), (5, pint .i64 k)], []⟩) 8 ⟨fr 47 [(0, pint .i64 n), (3, pint .u64 (magn n)), (4, pint .u8 (flipI n)), (5, pint .i64 (8 : Nat))], []⟩ ?_ ⟨8, by omega, rfl, by omega, rfl⟩ ?_
  all_goals first
    | (rw [show flipI n = 255 from if_pos hc, ← neg_magn n hn hc]
       exact Wk_fr (by simp only [wkb, simprocAttr]) (Sub_nil _))
    | (rw [show flipI n = 0 from if_neg hc, ← pos_magn n hn2 hc]
       exact Wk_fr (by simp only [wkb, simprocAttr]) (Sub_nil _))
    | skip
  all_goals
    rintro kk τ ⟨k, hk, rfl, hlt, rfl⟩ lp hlp
    have hs := shr_nat (magn n) ((kk : Int) - 1) (kk - 1)
    have hs2 : 0 < kk → ((magn n : Nat) : Int).fdiv (2 ^ min (8 * ((kk : Int) - 1)).toNat IntKind.u64.bits) = ((magn n / 256 ^ (kk - 1) : Nat) : Int) := fun h => hs (by omega) (by omega)
    clear hs
    repeat' (first
    | (with_reducible apply W_seq_k; intro nx hnx)
    | (with_reducible first | refine wr 253 ?_)
    | ((with_reducible first | (apply WL_op; intro nx hnx) | refine Ev_out ?_ | refine wc ?_ | (refine pf hnm fun nm hnm => ?_; try simp only [fmb] at hnm) | (refine pm hnm fun nm hnm => ?_; try simp only [fmb] at hnm)); try (simp (maxSteps := 2000000) (disch := omega) only [ev, ↓evp, PV.cells, PV.one, PV.mem?, Value.cells, simprocAttr, hnm, Tryd.tf1, Tryd.tf3, Tryd.tf4, Tryd.tf5, Tryd.tf27, Tryd.tf77, hs2, head_xor]))
    | ((with_reducible first | apply W_block | apply W_scope | apply WL_nil | apply W_label | apply W_skip | apply W_exit | apply W_ret) <;> try simp only [kks, simprocAttr])
    | (with_reducible apply pg <;> (intro hc; (try simp only [hcb, simprocAttr, ne_eq, forall_const] at hc); first | (exfalso; omega) | exact absurd trivial hc | skip))
    | (with_reducible apply hnx; clear hnx nx)
    | (with_reducible refine And.intro (by omega) ?_)
    | (with_reducible refine And.intro ?_ ?_)
    | (clear hnx nx; with_reducible apply hnx; clear hnx nx)
    | (clear hnx nx; clear hnx nx; with_reducible apply hnx; clear hnx nx))
  all_goals first
    | (refine hlp _ (kk - 1) _ (by omega) ?_ ⟨kk - 1, by omega, rfl, ?_, rfl⟩
       · rw [show ((kk - 1 : Nat) : Int) = (kk : Int) - 1 by omega]
         exact Wk_fr (by simp only [wkb, simprocAttr]) (Sub_nil _)
       · have h2 : magn n / 256 ^ (kk - 1) = 0 := Nat.eq_zero_of_not_pos fun h => hc (Int.natCast_pos.2 h)
         exact (Nat.div_eq_zero_iff_lt (Nat.pow_pos (by omega))).1 h2)
    | skip
  all_goals
    have hkl : (digs (magn n)).length = kk := by
      have h1 := (digs_pow kk (magn n) hk).2 hlt
      rcases Nat.eq_zero_or_pos kk with h | h
      · omega
      · rcases Nat.lt_or_ge (digs (magn n)).length kk with h3 | h3
        · exfalso
          have h2 := (digs_pow (kk - 1) (magn n) (by omega)).1 (by omega)
          have h4 := Nat.div_eq_of_lt h2
          first
          | (have h5 : 0 < ((magn n / 256 ^ (kk - 1) : Nat) : Int) := by assumption
             rw [h4] at h5
             exact absurd h5 (by decide))
          | (have h5 : ¬ 0 < (kk : Int) := by assumption
             omega)
        · omega
    obtain ⟨ds, hds⟩ : ∃ ds, ds = digs (magn n) := ⟨_, rfl⟩
    obtain ⟨hd, hhd⟩ : ∃ hd : UInt8, hd = (if n < 0 then UInt8.ofNat (127 - kk) else UInt8.ofNat (128 + kk)) := ⟨_, rfl⟩
    rw [← hds] at hkl
    have hint : intB n = hd :: ds.reverse.map (flipB n) := by
      unfold intB
      rw [← hds, hkl, hhd]
    rw [← hhd]
    clear hhd hs2 hlp lp
    refine W_loop_k (fun z τ => ∃ (q : Nat) (O : Int), q ≤ kk ∧ z = kk - q ∧ τ = ⟨fr 47 [(3, pint .u64 (magn n)), (4, pint .u8 (flipI n)), (6, .row O 1 (q + 1)), (7, pint .i64 ((kk : Int) - 1 - q))], [(O, ⟨5, true, 1, (hd :: (ds.reverse.take q).map (flipB n)).map pbyte⟩)]⟩) kk
      ⟨fr 47 [(3, pint .u64 (magn n)), (4, pint .u8 (flipI n)), (6, .row nm 1 1), (7, pint .i64 ((kk : Int) - 1 - (0 : Nat)))], [(nm, ⟨5, true, 1, [pbyte hd]⟩)]⟩
      (by exact Wk_fr (by simp only [wkb, simprocAttr, Int.sub_zero]) ⟨by simp, by simp [names]⟩) ⟨0, nm, by omega, by omega, by simp⟩ ?_
    rintro z τ ⟨q, O, hq, rfl, rfl⟩ lp2 hlp2
    by_cases hqp : q < kk
    · obtain ⟨j, hj⟩ : ∃ j : Nat, j = kk - 1 - q := ⟨_, rfl⟩
      have hz : (kk : Int) - 1 - q = j := by omega
      have hdj : j < ds.length := by omega
      have hs := shr_nat (magn n) (j : Int) j rfl (by omega)
      have hw := wr8mod (magn n / 256 ^ j)
      have hx := flip_xor n (magn n / 256 ^ j % 256) (Nat.mod_lt _ (by omega))
      have hdg : UInt8.ofNat (magn n / 256 ^ j % 256) = ds[j] := by
        subst hds
        exact (digsF_get 9 j (magn n) hdj).symm
      have htk : ds.reverse.take (q + 1) = ds.reverse.take q ++ [ds[j]] := by
        rw [List.take_add_one, List.getElem?_reverse (by omega), show ds.length - 1 - q = j by omega, List.getElem?_eq_getElem hdj]
        rfl
      rw [hdg] at hx
      rw [hz]
      repeat' (first
    | (with_reducible apply W_seq_k; intro nx hnx)
    | (with_reducible first | refine wr 253 ?_)
    | ((with_reducible first | (apply WL_op; intro nx hnx) | refine Ev_out ?_ | refine wc ?_ | (refine pf hnm fun nm hnm => ?_; try simp only [fmb] at hnm) | (refine pm hnm fun nm hnm => ?_; try simp only [fmb] at hnm)); try (simp (maxSteps := 2000000) (disch := omega) only [ev, ↓evp, PV.cells, PV.one, PV.mem?, Value.cells, simprocAttr, hnm, Tryd.tf1, Tryd.tf3, Tryd.tf4, Tryd.tf5, Tryd.tf27, Tryd.tf77, hs, hw, hx]))
    | ((with_reducible first | apply W_block | apply W_scope | apply WL_nil | apply W_label | apply W_skip | apply W_exit | apply W_ret) <;> try simp only [kks, simprocAttr])
    | (with_reducible apply pg <;> (intro hc; (try simp only [hcb, simprocAttr, ne_eq, forall_const] at hc); first | (exfalso; omega) | exact absurd trivial hc | skip))
    | (with_reducible apply hnx; clear hnx nx)
    | (with_reducible refine And.intro (by omega) ?_)
    | (with_reducible refine And.intro ?_ ?_)
    | (clear hnx nx; with_reducible apply hnx; clear hnx nx)
    | (clear hnx nx; clear hnx nx; with_reducible apply hnx; clear hnx nx))
      all_goals first
        | (exfalso
           omega)
        | (simp
           omega)
        | (have hz2 : (j : Int) - 1 = (kk : Int) - 1 - ((q + 1 : Nat) : Int) := by omega
           rw [hz2]
           refine hlp2 _ (kk - (q + 1)) _ (by omega) ?_ ⟨q + 1, nm, by omega, rfl, rfl⟩
           refine Wk_fr (by simp only [wkb, simprocAttr, List.length_append, List.length_cons, List.length_nil, Nat.zero_add]) ?_
           refine ⟨fun x hx => ?_, by simp [names]⟩
           simp only [List.mem_cons, List.not_mem_nil, or_false] at hx ⊢
           subst hx
           left
           rw [htk]
           simp only [List.map_cons, List.map_append, List.map_nil, List.cons_append])
    · repeat' (first
    | (with_reducible apply W_seq_k; intro nx hnx)
    | (with_reducible first | refine wr 253 ?_)
    | ((with_reducible first | (apply WL_op; intro nx hnx) | refine Ev_out ?_ | refine wc ?_ | (refine pf hnm fun nm hnm => ?_; try simp only [fmb] at hnm) | (refine pm hnm fun nm hnm => ?_; try simp only [fmb] at hnm)); try (simp (maxSteps := 2000000) (disch := omega) only [ev, ↓evp, PV.cells, PV.one, PV.mem?, Value.cells, simprocAttr, hnm, Tryd.tf1, Tryd.tf3, Tryd.tf4, Tryd.tf5, Tryd.tf27, Tryd.tf77]))
    | ((with_reducible first | apply W_block | apply W_scope | apply WL_nil | apply W_label | apply W_skip | apply W_exit | apply W_ret) <;> try simp only [kks, simprocAttr])
    | (with_reducible apply pg <;> (intro hc; (try simp only [hcb, simprocAttr, ne_eq, forall_const] at hc); first | (exfalso; omega) | exact absurd trivial hc | skip))
    | (with_reducible apply hnx; clear hnx nx)
    | (with_reducible refine And.intro (by omega) ?_)
    | (with_reducible refine And.intro ?_ ?_)
    | (clear hnx nx; with_reducible apply hnx; clear hnx nx)
    | (clear hnx nx; clear hnx nx; with_reducible apply hnx; clear hnx nx))
      refine hfin _ _ (Fin_ret1 rfl (Sub_refl (by simp [names])) ?_); simp only [cob, simprocAttr]
      have hqe : q = kk := by omega
      rw [hint]
      refine ⟨O, ?_, ?_⟩
      · simp [hqe, hkl]
      · rw [List.take_of_length_le (by simp; omega)]
        rfl
theorem wint_c (G : Globs) (n : Int) (hn : -9223372036854775808 ≤ n) (hn2 : n ≤ 9223372036854775807) :
    PCalls Tryd.prog G 23 [pint .i64 n] [] (fun res H => res = .list 1 ((intB n).map pbyte) ∧ H = []) := by
  have := (wint_r G n hn hn2).frz_row (xs := (intB n).map pbyte) fun res H h => by
    obtain ⟨N, h1, h2⟩ := h
    exact ⟨N, 5, by rw [List.length_map]; exact h1, h2⟩
  exact this
end Go.PM

namespace Go.PM
open Go.Proofs
attribute [local irreducible] W PCalls pcall pcallI WL
@[reducible] def t3 (x : Int × Nat × Int) : PV := .tuple [pint .i64 x.1, pint .i64 x.2.1, pint .i64 x.2.2]
end Go.PM

namespace Go.PM
open Go.Proofs
theorem digs_len (m : Nat) (h : m < 9223372036854775808) : (digs m).length ≤ 8 := (digs_pow 8 m (by omega)).2 (by omega)
def hdB (n : Int) (k : Nat) : UInt8 := if n < 0 then UInt8.ofNat (127 - k) else UInt8.ofNat (128 + k)
theorem intB_eq (n : Int) : intB n = hdB n (digs (magn n)).length :: (digs (magn n)).reverse.map (flipB n) := rfl
abbrev inR (n : Int) : Prop := -9223372036854775808 ≤ n ∧ n ≤ 9223372036854775807
theorem magn_lt {n : Int} (h : inR n) : magn n < 9223372036854775808 := by
  unfold magn
  split <;> omega
theorem intB_len (n : Int) : (intB n).length = (digs (magn n)).length + 1 := by simp [intB_eq]
theorem intB_len9 {n : Int} (h : inR n) : 1 ≤ (intB n).length ∧ (intB n).length ≤ 9 := by
  have := digs_len _ (magn_lt h)
  rw [intB_len]
  omega
end Go.PM

namespace Go.PM
open Go.Proofs
attribute [local irreducible] W PCalls pcall pcallI WL
def bytesB (s : List UInt8) : List UInt8 := intB s.length ++ s
/-- The encoding of a list, given that of an element. -/
def encL {α : Type} (enc : α → List UInt8) (l : List α) : List UInt8 := intB l.length ++ l.flatMap enc
abbrev RowB (x : List UInt8) (res : PV) (H : Heap) : Prop := ∃ N, res = .row N 1 x.length ∧ H = [(N, ⟨5, true, 1, x.map pbyte⟩)]
theorem RowB.frz {G : Globs} {f : FuncId} {args : List PV} {x : List UInt8} (h : PCalls Tryd.prog G f args [] (RowB x)) : PCalls Tryd.prog G f args [] (fun res H => res = .list 1 (x.map pbyte) ∧ H = []) :=
  h.frz_row (xs := x.map pbyte) fun res H h => by
    obtain ⟨N, h1, h2⟩ := h
    exact ⟨N, 5, by rw [List.length_map]; exact h1, h2⟩
theorem flat_pb (l : List UInt8) : flat (l.map pbyte) = l.map pbyte := by
  induction l with
  | nil => rfl
  | cons x l ih =>
    simp only [flat, List.map_cons, List.flatMap_cons] at ih ⊢
    rw [ih]
    rfl
def preE {α : Type} (enc : α → List UInt8) (l : List α) (i : Nat) : List UInt8 := intB l.length ++ (l.take i).flatMap enc
theorem preE_zero {α : Type} (enc : α → List UInt8) (l : List α) : preE enc l 0 = intB l.length := by simp [preE]
theorem preE_succ {α : Type} (enc : α → List UInt8) (l : List α) (i : Nat) (h : i < l.length) : preE enc l (i + 1) = preE enc l i ++ enc l[i] := by
  rw [preE, List.take_add_one, List.getElem?_eq_getElem h, Option.toList_some, List.flatMap_append, ← List.append_assoc, List.flatMap_singleton]
  rfl
theorem preE_all {α : Type} (enc : α → List UInt8) (l : List α) (i : Nat) (h : l.length ≤ i) : preE enc l i = encL enc l := by
  rw [preE, List.take_of_length_le h]
  rfl
theorem preE_le {α : Type} (enc : α → List UInt8) (l : List α) (i : Nat) : (preE enc l i).length ≤ (encL enc l).length := by
  have h : encL enc l = preE enc l i ++ (l.drop i).flatMap enc := by
    rw [encL, preE, List.append_assoc, ← List.flatMap_append, List.take_append_drop]
  rw [h, List.length_append]
  omega
set_option maxRecDepth 100000 in
set_option maxHeartbeats 8000000 in
theorem wbytes_r (G : Globs) (s : List UInt8) (hs : s.length ≤ 4294967296) : PCalls Tryd.prog G 26 [pstr s] [] (RowB (bytesB s)) := by
  have h9 := intB_len9 (n := s.length) ⟨by omega, by omega⟩
  (refine PCalls_f Tryd.func26 rfl Tryd.ntmps26 Tryd.results26 (by simp) fun fin hfin => ?_; have hnm : True := trivial; simp only [ev, simprocAttr])
  repeat' (first
    | (with_reducible apply W_seq_k; intro nx hnx)
    | (with_reducible first | refine wr 5 ?_)
    | ((with_reducible first | (apply WL_op; intro nx hnx) | refine Ev_out ?_ | refine wc ?_ | (refine pf hnm fun nm hnm => ?_; try simp only [fmb] at hnm) | (refine pm hnm fun nm hnm => ?_; try simp only [fmb] at hnm)); try (simp (maxSteps := 2000000) (disch := omega) only [ev, ↓evp, PV.cells, PV.one, PV.mem?, Value.cells, simprocAttr, hnm, Tryd.tf3, Tryd.tf5, Tryd.tf9, Tryd.tf27, Tryd.call23]))
    | ((with_reducible first | apply W_block | apply W_scope | apply WL_nil | apply W_label | apply W_skip | apply W_exit | apply W_ret) <;> try simp only [kks, simprocAttr])
    | (with_reducible apply hnx; clear hnx nx)
    | (with_reducible refine And.intro (by omega) ?_)
    | (with_reducible refine And.intro ?_ ?_)
    | (clear hnx nx; with_reducible apply hnx; clear hnx nx)
    | (clear hnx nx; clear hnx nx; with_reducible apply hnx; clear hnx nx))
  refine pcall_k (wint_r G s.length (by omega) (by omega)) ?_
  rintro _ _ ⟨N, rfl, rfl⟩ -
  refine Ev_in ?_
  repeat' (first
    | (with_reducible apply W_seq_k; intro nx hnx)
    | (with_reducible first | refine wr 5 ?_)
    | ((with_reducible first | (apply WL_op; intro nx hnx) | refine Ev_out ?_ | refine wc ?_ | (refine pf hnm fun nm hnm => ?_; try simp only [fmb] at hnm) | (refine pm hnm fun nm hnm => ?_; try simp only [fmb] at hnm)); try (simp (maxSteps := 2000000) (disch := omega) only [ev, ↓evp, PV.cells, PV.one, PV.mem?, Value.cells, simprocAttr, hnm, Tryd.tf3, Tryd.tf5, Tryd.tf9, Tryd.tf27, Tryd.call23]))
    | ((with_reducible first | apply W_block | apply W_scope | apply WL_nil | apply W_label | apply W_skip | apply W_exit | apply W_ret) <;> try simp only [kks, simprocAttr])
    | (with_reducible apply hnx; clear hnx nx)
    | (with_reducible refine And.intro (by omega) ?_)
    | (with_reducible refine And.intro ?_ ?_)
    | (clear hnx nx; with_reducible apply hnx; clear hnx nx)
    | (clear hnx nx; clear hnx nx; with_reducible apply hnx; clear hnx nx))
  all_goals first
    | exact rfl
    | (rw [bytes_length]
       omega)
    | (refine hfin _ _ (Fin_ret1 rfl (Sub_refl (by simp [names])) ?_); simp only [cob, simprocAttr]
       refine ⟨nm, ?_, ?_⟩
       · simp [bytesB, bytes_length]
       · simp only [bytesB, bytes, flat_pb, List.map_append])
theorem wbytes_c (G : Globs) (s : List UInt8) (hs : s.length ≤ 4294967296) : PCalls Tryd.prog G 26 [pstr s] [] (fun res H => res = .list 1 ((bytesB s).map pbyte) ∧ H = []) := RowB.frz (wbytes_r G s hs)
set_option maxRecDepth 100000 in
set_option maxHeartbeats 8000000 in
theorem rbytes_r (G : Globs) (s : List UInt8) (hs : s.length ≤ 4294967296) : PCalls Tryd.prog G 49 [pstr s] [] (RowB (bytesB s)) := by
  have h9 := intB_len9 (n := s.length) ⟨by omega, by omega⟩
  (refine PCalls_f Tryd.func49 rfl Tryd.ntmps49 Tryd.results49 (by simp) fun fin hfin => ?_; have hnm : True := trivial; simp only [ev, simprocAttr])
  repeat' (first
    | (with_reducible apply W_seq_k; intro nx hnx)
    | (with_reducible first | refine wr 5 ?_)
    | ((with_reducible first | (apply WL_op; intro nx hnx) | refine Ev_out ?_ | refine wc ?_ | (refine pf hnm fun nm hnm => ?_; try simp only [fmb] at hnm) | (refine pm hnm fun nm hnm => ?_; try simp only [fmb] at hnm)); try (simp (maxSteps := 2000000) (disch := omega) only [ev, ↓evp, PV.cells, PV.one, PV.mem?, Value.cells, simprocAttr, hnm, Tryd.tf3, Tryd.tf5, Tryd.tf9, Tryd.tf27, Tryd.call51]))
    | ((with_reducible first | apply W_block | apply W_scope | apply WL_nil | apply W_label | apply W_skip | apply W_exit | apply W_ret) <;> try simp only [kks, simprocAttr])
    | (with_reducible apply hnx; clear hnx nx)
    | (with_reducible refine And.intro (by omega) ?_)
    | (with_reducible refine And.intro ?_ ?_)
    | (clear hnx nx; with_reducible apply hnx; clear hnx nx)
    | (clear hnx nx; clear hnx nx; with_reducible apply hnx; clear hnx nx))
  refine pcall_k (rint_r G s.length (by omega) (by omega)) ?_
  rintro _ _ ⟨N, rfl, rfl⟩ -
  refine Ev_in ?_
  repeat' (first
    | (with_reducible apply W_seq_k; intro nx hnx)
    | (with_reducible first | refine wr 5 ?_)
    | ((with_reducible first | (apply WL_op; intro nx hnx) | refine Ev_out ?_ | refine wc ?_ | (refine pf hnm fun nm hnm => ?_; try simp only [fmb] at hnm) | (refine pm hnm fun nm hnm => ?_; try simp only [fmb] at hnm)); try (simp (maxSteps := 2000000) (disch := omega) only [ev, ↓evp, PV.cells, PV.one, PV.mem?, Value.cells, simprocAttr, hnm, Tryd.tf3, Tryd.tf5, Tryd.tf9, Tryd.tf27, Tryd.call51]))
    | ((with_reducible first | apply W_block | apply W_scope | apply WL_nil | apply W_label | apply W_skip | apply W_exit | apply W_ret) <;> try simp only [kks, simprocAttr])
    | (with_reducible apply hnx; clear hnx nx)
    | (with_reducible refine And.intro (by omega) ?_)
    | (with_reducible refine And.intro ?_ ?_)
    | (clear hnx nx; with_reducible apply hnx; clear hnx nx)
    | (clear hnx nx; clear hnx nx; with_reducible apply hnx; clear hnx nx))
  all_goals first
    | exact rfl
    | (rw [bytes_length]
       omega)
    | (refine hfin _ _ (Fin_ret1 rfl (Sub_refl (by simp [names])) ?_); simp only [cob, simprocAttr]
       refine ⟨nm, ?_, ?_⟩
       · simp [bytesB, bytes_length]
       · simp only [bytesB, bytes, flat_pb, List.map_append])
theorem rbytes_c (G : Globs) (s : List UInt8) (hs : s.length ≤ 4294967296) : PCalls Tryd.prog G 49 [pstr s] [] (fun res H => res = .list 1 ((bytesB s).map pbyte) ∧ H = []) := RowB.frz (rbytes_r G s hs)
set_option maxRecDepth 100000 in
set_option maxHeartbeats 8000000 in
theorem wints_r (G : Globs) (l : List (Int)) (hv : ∀ n ∈ l, inR n) (hl : (encL intB l).length ≤ 4294967296) (hl2 : l.length ≤ 4294967296) : PCalls Tryd.prog G 82 [.list 1 (l.map (pint .i64))] [] (RowB (encL intB l)) := by
  (refine PCalls_f Tryd.func82 rfl Tryd.ntmps82 Tryd.results82 (by simp) fun fin hfin => ?_; have hnm : True := trivial; simp only [ev, simprocAttr])
  repeat' (first
    | (with_reducible apply W_seq_k; intro nx hnx)
    | (with_reducible first | refine wr 3629 ?_)
    | ((with_reducible first | (apply WL_op; intro nx hnx) | refine Ev_out ?_ | refine wc ?_ | (refine pf hnm fun nm hnm => ?_; try simp only [fmb] at hnm) | (refine pm hnm fun nm hnm => ?_; try simp only [fmb] at hnm)); try (simp (maxSteps := 2000000) (disch := omega) only [ev, ↓evp, PV.cells, PV.one, PV.mem?, Value.cells, simprocAttr, hnm, Tryd.tf0, Tryd.tf3, Tryd.tf5, Tryd.tf22, Tryd.tf27, Tryd.call23]))
    | ((with_reducible first | apply W_block | apply W_scope | apply WL_nil | apply W_label | apply W_skip | apply W_exit | apply W_ret) <;> try simp only [kks, simprocAttr])
    | (with_reducible apply pg <;> (intro hc; (try simp only [hcb, simprocAttr, ne_eq, forall_const] at hc); first | (exfalso; omega) | exact absurd trivial hc | skip))
    | (with_reducible apply hnx; clear hnx nx)
    | (with_reducible refine And.intro (by omega) ?_)
    | (with_reducible refine And.intro ?_ ?_)
    | (clear hnx nx; with_reducible apply hnx; clear hnx nx)
    | (clear hnx nx; clear hnx nx; with_reducible apply hnx; clear hnx nx))
  refine pcall_k (wint_r G l.length (by omega) (by omega)) ?_
  rintro _ _ ⟨N0, rfl, rfl⟩ -
  refine Ev_in ?_
  repeat' (first
    | (with_reducible apply W_seq_k; intro nx hnx)
    | (with_reducible first | refine wr 3629 ?_)
    | ((with_reducible first | (apply WL_op; intro nx hnx) | refine Ev_out ?_ | refine wc ?_ | (refine pf hnm fun nm hnm => ?_; try simp only [fmb] at hnm) | (refine pm hnm fun nm hnm => ?_; try simp only [fmb] at hnm)); try (simp (maxSteps := 2000000) (disch := omega) only [ev, ↓evp, PV.cells, PV.one, PV.mem?, Value.cells, simprocAttr, hnm, Tryd.tf0, Tryd.tf3, Tryd.tf5, Tryd.tf22, Tryd.tf27, Tryd.call23]))
    | ((with_reducible first | apply W_block | apply W_scope | apply WL_nil | apply W_label | apply W_skip | apply W_exit | apply W_ret) <;> try simp only [kks, simprocAttr])
    | (with_reducible apply pg <;> (intro hc; (try simp only [hcb, simprocAttr, ne_eq, forall_const] at hc); first | (exfalso; omega) | exact absurd trivial hc | skip))
    | (with_reducible apply hnx; clear hnx nx)
    | (with_reducible refine And.intro (by omega) ?_)
    | (with_reducible refine And.intro ?_ ?_)
    | (clear hnx nx; with_reducible apply hnx; clear hnx nx)
    | (clear hnx nx; clear hnx nx; with_reducible apply hnx; clear hnx nx))
  refine W_loop_k (fun z τ => ∃ (i : Nat) (N : Int), i ≤ l.length ∧ z = l.length - i ∧ τ = ⟨fr 21 [(3, .row N 1 (preE intB l i).length), (9, .list 1 (l.map (pint .i64))), (10, pint .i64 l.length), (11, pint .i64 i)], [(N, ⟨5, true, 1, (preE intB l i).map pbyte⟩)]⟩) l.length ⟨fr 21 [(3, .row N0 1 (preE intB l 0).length), (9, .list 1 (l.map (pint .i64))), (10, pint .i64 l.length), (11, pint .i64 (0 : Nat))], [(N0, ⟨5, true, 1, (preE intB l 0).map pbyte⟩)]⟩ (by
    rw [preE_zero]
    exact Wk_fr (by simp only [wkb, simprocAttr]) ⟨by simp, by simp [names]⟩) ⟨0, N0, by omega, by omega, rfl⟩ ?_
  rintro z τ ⟨i, N, hi', rfl, rfl⟩ lp hlp
  have hle := preE_le intB l (i + 1)
  by_cases hi : i < l.length
  · rw [preE_succ intB l i hi, List.length_append] at hle
    repeat' (first
    | (with_reducible apply W_seq_k; intro nx hnx)
    | (with_reducible first | refine wr 3629 ?_)
    | ((with_reducible first | (apply WL_op; intro nx hnx) | refine Ev_out ?_ | refine wc ?_ | (refine pf hnm fun nm hnm => ?_; try simp only [fmb] at hnm) | (refine pm hnm fun nm hnm => ?_; try simp only [fmb] at hnm)); try (simp (maxSteps := 2000000) (disch := omega) only [ev, ↓evp, PV.cells, PV.one, PV.mem?, Value.cells, simprocAttr, hnm, Tryd.tf0, Tryd.tf3, Tryd.tf5, Tryd.tf22, Tryd.tf27, Tryd.call23]))
    | ((with_reducible first | apply W_block | apply W_scope | apply WL_nil | apply W_label | apply W_skip | apply W_exit | apply W_ret) <;> try simp only [kks, simprocAttr])
    | (with_reducible apply pg <;> (intro hc; (try simp only [hcb, simprocAttr, ne_eq, forall_const] at hc); first | (exfalso; omega) | exact absurd trivial hc | skip))
    | (with_reducible apply hnx; clear hnx nx)
    | (with_reducible refine And.intro (by omega) ?_)
    | (with_reducible refine And.intro ?_ ?_)
    | (clear hnx nx; with_reducible apply hnx; clear hnx nx)
    | (clear hnx nx; clear hnx nx; with_reducible apply hnx; clear hnx nx))
    all_goals first
      | (exfalso
         omega)
      | skip
    refine pcall_k (wint_c G l[i] (hv _ (List.getElem_mem hi)).1 (hv _ (List.getElem_mem hi)).2) ?_
    rintro _ _ ⟨rfl, rfl⟩ -
    refine Ev_in ?_
    repeat' (first
    | (with_reducible apply W_seq_k; intro nx hnx)
    | (with_reducible first | refine wr 3629 ?_)
    | ((with_reducible first | (apply WL_op; intro nx hnx) | refine Ev_out ?_ | refine wc ?_ | (refine pf hnm fun nm hnm => ?_; try simp only [fmb] at hnm) | (refine pm hnm fun nm hnm => ?_; try simp only [fmb] at hnm)); try (simp (maxSteps := 2000000) (disch := omega) only [ev, ↓evp, PV.cells, PV.one, PV.mem?, Value.cells, simprocAttr, hnm, Tryd.tf0, Tryd.tf3, Tryd.tf5, Tryd.tf22, Tryd.tf27, Tryd.call23, flat_pb]))
    | ((with_reducible first | apply W_block | apply W_scope | apply WL_nil | apply W_label | apply W_skip | apply W_exit | apply W_ret) <;> try simp only [kks, simprocAttr])
    | (with_reducible apply pg <;> (intro hc; (try simp only [hcb, simprocAttr, ne_eq, forall_const] at hc); first | (exfalso; omega) | exact absurd trivial hc | skip))
    | (with_reducible apply hnx; clear hnx nx)
    | (with_reducible refine And.intro (by omega) ?_)
    | (with_reducible refine And.intro ?_ ?_)
    | (clear hnx nx; with_reducible apply hnx; clear hnx nx)
    | (clear hnx nx; clear hnx nx; with_reducible apply hnx; clear hnx nx))
    all_goals first
      | (refine hlp _ (l.length - (i + 1)) _ (by omega) ?_ ⟨i + 1, nm, by omega, rfl, rfl⟩
         rw [preE_succ intB l i hi, List.length_append, List.map_append]
         exact Wk_fr (by simp only [wkb, simprocAttr]) ⟨by simp, by simp [names]⟩)
  · repeat' (first
    | (with_reducible apply W_seq_k; intro nx hnx)
    | (with_reducible first | refine wr 3629 ?_)
    | ((with_reducible first | (apply WL_op; intro nx hnx) | refine Ev_out ?_ | refine wc ?_ | (refine pf hnm fun nm hnm => ?_; try simp only [fmb] at hnm) | (refine pm hnm fun nm hnm => ?_; try simp only [fmb] at hnm)); try (simp (maxSteps := 2000000) (disch := omega) only [ev, ↓evp, PV.cells, PV.one, PV.mem?, Value.cells, simprocAttr, hnm, Tryd.tf0, Tryd.tf3, Tryd.tf5, Tryd.tf22, Tryd.tf27, Tryd.call23]))
    | ((with_reducible first | apply W_block | apply W_scope | apply WL_nil | apply W_label | apply W_skip | apply W_exit | apply W_ret) <;> try simp only [kks, simprocAttr])
    | (with_reducible apply pg <;> (intro hc; (try simp only [hcb, simprocAttr, ne_eq, forall_const] at hc); first | (exfalso; omega) | exact absurd trivial hc | skip))
    | (with_reducible apply hnx; clear hnx nx)
    | (with_reducible refine And.intro (by omega) ?_)
    | (with_reducible refine And.intro ?_ ?_)
    | (clear hnx nx; with_reducible apply hnx; clear hnx nx)
    | (clear hnx nx; clear hnx nx; with_reducible apply hnx; clear hnx nx))
    all_goals first
      | (exfalso
         omega)
      | (refine hfin _ _ (Fin_ret1 rfl (Sub_refl (by simp [names])) ?_); simp only [cob, simprocAttr]
         rw [preE_all intB l i (by omega)]
         exact ⟨N, rfl, rfl⟩)
theorem wints_c (G : Globs) (l : List (Int)) (hv : ∀ n ∈ l, inR n) (hl : (encL intB l).length ≤ 4294967296) (hl2 : l.length ≤ 4294967296) : PCalls Tryd.prog G 82 [.list 1 (l.map (pint .i64))] [] (fun res H => res = .list 1 ((encL intB l).map pbyte) ∧ H = []) := RowB.frz (wints_r G l hv hl hl2)
set_option maxRecDepth 100000 in
set_option maxHeartbeats 8000000 in
theorem rints_r (G : Globs) (l : List (Int)) (hv : ∀ n ∈ l, inR n) (hl : (encL intB l).length ≤ 4294967296) (hl2 : l.length ≤ 4294967296) : PCalls Tryd.prog G 92 [.list 1 (l.map (pint .i64))] [] (RowB (encL intB l)) := by
  (refine PCalls_f Tryd.func92 rfl Tryd.ntmps92 Tryd.results92 (by simp) fun fin hfin => ?_; have hnm : True := trivial; simp only [ev, simprocAttr])
  repeat' (first
    | (with_reducible apply W_seq_k; intro nx hnx)
    | (with_reducible first | refine wr 29 ?_)
    | ((with_reducible first | (apply WL_op; intro nx hnx) | refine Ev_out ?_ | refine wc ?_ | (refine pf hnm fun nm hnm => ?_; try simp only [fmb] at hnm) | (refine pm hnm fun nm hnm => ?_; try simp only [fmb] at hnm)); try (simp (maxSteps := 2000000) (disch := omega) only [ev, ↓evp, PV.cells, PV.one, PV.mem?, Value.cells, simprocAttr, hnm, Tryd.tf0, Tryd.tf3, Tryd.tf4, Tryd.tf5, Tryd.tf22, Tryd.tf27, Tryd.call51]))
    | ((with_reducible first | apply W_block | apply W_scope | apply WL_nil | apply W_label | apply W_skip | apply W_exit | apply W_ret) <;> try simp only [kks, simprocAttr])
    | (with_reducible apply pg <;> (intro hc; (try simp only [hcb, simprocAttr, ne_eq, forall_const] at hc); first | (exfalso; omega) | exact absurd trivial hc | skip))
    | (with_reducible apply hnx; clear hnx nx)
    | (with_reducible refine And.intro (by omega) ?_)
    | (with_reducible refine And.intro ?_ ?_)
    | (clear hnx nx; with_reducible apply hnx; clear hnx nx)
    | (clear hnx nx; clear hnx nx; with_reducible apply hnx; clear hnx nx))
  refine pcall_k (rint_r G l.length (by omega) (by omega)) ?_
  rintro _ _ ⟨N0, rfl, rfl⟩ -
  refine Ev_in ?_
  repeat' (first
    | (with_reducible apply W_seq_k; intro nx hnx)
    | (with_reducible first | refine wr 29 ?_)
    | ((with_reducible first | (apply WL_op; intro nx hnx) | refine Ev_out ?_ | refine wc ?_ | (refine pf hnm fun nm hnm => ?_; try simp only [fmb] at hnm) | (refine pm hnm fun nm hnm => ?_; try simp only [fmb] at hnm)); try (simp (maxSteps := 2000000) (disch := omega) only [ev, ↓evp, PV.cells, PV.one, PV.mem?, Value.cells, simprocAttr, hnm, Tryd.tf0, Tryd.tf3, Tryd.tf4, Tryd.tf5, Tryd.tf22, Tryd.tf27, Tryd.call51]))
    | ((with_reducible first | apply W_block | apply W_scope | apply WL_nil | apply W_label | apply W_skip | apply W_exit | apply W_ret) <;> try simp only [kks, simprocAttr])
    | (with_reducible apply pg <;> (intro hc; (try simp only [hcb, simprocAttr, ne_eq, forall_const] at hc); first | (exfalso; omega) | exact absurd trivial hc | skip))
    | (with_reducible apply hnx; clear hnx nx)
    | (with_reducible refine And.intro (by omega) ?_)
    | (with_reducible refine And.intro ?_ ?_)
    | (clear hnx nx; with_reducible apply hnx; clear hnx nx)
    | (clear hnx nx; clear hnx nx; with_reducible apply hnx; clear hnx nx))
  refine W_loop_k (fun z τ => ∃ (i : Nat) (N : Int), i ≤ l.length ∧ z = l.length - i ∧ τ = ⟨fr 22 [(3, .row N 1 (preE intB l i).length), (0, .list 1 (l.map (pint .i64))), (4, pint .i64 i)], [(N, ⟨5, true, 1, (preE intB l i).map pbyte⟩)]⟩) l.length ⟨fr 22 [(3, .row N0 1 (preE intB l 0).length), (0, .list 1 (l.map (pint .i64))), (4, pint .i64 (0 : Nat))], [(N0, ⟨5, true, 1, (preE intB l 0).map pbyte⟩)]⟩ (by
    rw [preE_zero]
    exact Wk_fr (by simp only [wkb, simprocAttr]) ⟨by simp, by simp [names]⟩) ⟨0, N0, by omega, by omega, rfl⟩ ?_
  rintro z τ ⟨i, N, hi', rfl, rfl⟩ lp hlp
  have hle := preE_le intB l (i + 1)
  by_cases hi : i < l.length
  · rw [preE_succ intB l i hi, List.length_append] at hle
    repeat' (first
    | (with_reducible apply W_seq_k; intro nx hnx)
    | (with_reducible first | refine wr 29 ?_)
    | ((with_reducible first | (apply WL_op; intro nx hnx) | refine Ev_out ?_ | refine wc ?_ | (refine pf hnm fun nm hnm => ?_; try simp only [fmb] at hnm) | (refine pm hnm fun nm hnm => ?_; try simp only [fmb] at hnm)); try (simp (maxSteps := 2000000) (disch := omega) only [ev, ↓evp, PV.cells, PV.one, PV.mem?, Value.cells, simprocAttr, hnm, Tryd.tf0, Tryd.tf3, Tryd.tf4, Tryd.tf5, Tryd.tf22, Tryd.tf27, Tryd.call51]))
    | ((with_reducible first | apply W_block | apply W_scope | apply WL_nil | apply W_label | apply W_skip | apply W_exit | apply W_ret) <;> try simp only [kks, simprocAttr])
    | (with_reducible apply pg <;> (intro hc; (try simp only [hcb, simprocAttr, ne_eq, forall_const] at hc); first | (exfalso; omega) | exact absurd trivial hc | skip))
    | (with_reducible apply hnx; clear hnx nx)
    | (with_reducible refine And.intro (by omega) ?_)
    | (with_reducible refine And.intro ?_ ?_)
    | (clear hnx nx; with_reducible apply hnx; clear hnx nx)
    | (clear hnx nx; clear hnx nx; with_reducible apply hnx; clear hnx nx))
    all_goals first
      | (exfalso
         omega)
      | skip
    refine pcall_k (rint_c G l[i] (hv _ (List.getElem_mem hi)).1 (hv _ (List.getElem_mem hi)).2) ?_
    rintro _ _ ⟨rfl, rfl⟩ -
    refine Ev_in ?_
    repeat' (first
    | (with_reducible apply W_seq_k; intro nx hnx)
    | (with_reducible first | refine wr 29 ?_)
    | ((with_reducible first | (apply WL_op; intro nx hnx) | refine Ev_out ?_ | refine wc ?_ | (refine pf hnm fun nm hnm => ?_; try simp only [fmb] at hnm) | (refine pm hnm fun nm hnm => ?_; try simp only [fmb] at hnm)); try (simp (maxSteps := 2000000) (disch := omega) only [ev, ↓evp, PV.cells, PV.one, PV.mem?, Value.cells, simprocAttr, hnm, Tryd.tf0, Tryd.tf3, Tryd.tf4, Tryd.tf5, Tryd.tf22, Tryd.tf27, Tryd.call51, flat_pb]))
    | ((with_reducible first | apply W_block | apply W_scope | apply WL_nil | apply W_label | apply W_skip | apply W_exit | apply W_ret) <;> try simp only [kks, simprocAttr])
    | (with_reducible apply pg <;> (intro hc; (try simp only [hcb, simprocAttr, ne_eq, forall_const] at hc); first | (exfalso; omega) | exact absurd trivial hc | skip))
    | (with_reducible apply hnx; clear hnx nx)
    | (with_reducible refine And.intro (by omega) ?_)
    | (with_reducible refine And.intro ?_ ?_)
    | (clear hnx nx; with_reducible apply hnx; clear hnx nx)
    | (clear hnx nx; clear hnx nx; with_reducible apply hnx; clear hnx nx))
    all_goals first
      | (refine hlp _ (l.length - (i + 1)) _ (by omega) ?_ ⟨i + 1, nm, by omega, rfl, rfl⟩
         rw [preE_succ intB l i hi, List.length_append, List.map_append]
         exact Wk_fr (by simp only [wkb, simprocAttr]) ⟨by simp, by simp [names]⟩)
  · repeat' (first
    | (with_reducible apply W_seq_k; intro nx hnx)
    | (with_reducible first | refine wr 29 ?_)
    | ((with_reducible first | (apply WL_op; intro nx hnx) | refine Ev_out ?_ | refine wc ?_ | (refine pf hnm fun nm hnm => ?_; try simp only [fmb] at hnm) | (refine pm hnm fun nm hnm => ?_; try simp only [fmb] at hnm)); try (simp (maxSteps := 2000000) (disch := omega) only [ev, ↓evp, PV.cells, PV.one, PV.mem?, Value.cells, simprocAttr, hnm, Tryd.tf0, Tryd.tf3, Tryd.tf4, Tryd.tf5, Tryd.tf22, Tryd.tf27, Tryd.call51]))
    | ((with_reducible first | apply W_block | apply W_scope | apply WL_nil | apply W_label | apply W_skip | apply W_exit | apply W_ret) <;> try simp only [kks, simprocAttr])
    | (with_reducible apply pg <;> (intro hc; (try simp only [hcb, simprocAttr, ne_eq, forall_const] at hc); first | (exfalso; omega) | exact absurd trivial hc | skip))
    | (with_reducible apply hnx; clear hnx nx)
    | (with_reducible refine And.intro (by omega) ?_)
    | (with_reducible refine And.intro ?_ ?_)
    | (clear hnx nx; with_reducible apply hnx; clear hnx nx)
    | (clear hnx nx; clear hnx nx; with_reducible apply hnx; clear hnx nx))
    all_goals first
      | (exfalso
         omega)
      | (refine hfin _ _ (Fin_ret1 rfl (Sub_refl (by simp [names])) ?_); simp only [cob, simprocAttr]
         rw [preE_all intB l i (by omega)]
         exact ⟨N, rfl, rfl⟩)
theorem rints_c (G : Globs) (l : List (Int)) (hv : ∀ n ∈ l, inR n) (hl : (encL intB l).length ≤ 4294967296) (hl2 : l.length ≤ 4294967296) : PCalls Tryd.prog G 92 [.list 1 (l.map (pint .i64))] [] (fun res H => res = .list 1 ((encL intB l).map pbyte) ∧ H = []) := RowB.frz (rints_r G l hv hl hl2)
end Go.PM

namespace Go.PM
open Go.Proofs
attribute [local irreducible] W PCalls pcall pcallI WL
def be8 (m : Nat) : List UInt8 := (List.range 8).map fun i => UInt8.ofNat (m / 256 ^ (7 - i) % 256)
/-- The number of zero bytes that are put behind n bytes and one. -/
def zN (n : Nat) : Nat := (119 - n % 64) % 64
def padT (n : Nat) : List UInt8 := 128 :: (List.replicate (zN n) 0 ++ be8 (8 * n))
def H0 : List UInt32 := [1779033703, 3144134277, 1013904242, 2773480762, 1359893119, 2600822924, 528734635, 1541459225]
/-- The state behind k blocks. -/
def blk (s : List UInt32) (b : List UInt8) : Nat → List UInt32
  | 0 => s
  | k + 1 => comp (blk s b k) ((b.drop (64 * k)).take 64)
/-- A byte of the state. -/
def oB (s : List UInt32) (i : Nat) : UInt8 := UInt8.ofNat ((s.getD (i / 4) 0).toNat / 256 ^ (3 - i % 4) % 256)
def outB (s : List UInt32) : List UInt8 := (List.range 32).map (oB s)
def sha (b : List UInt8) : List UInt8 := outB (blk H0 (b ++ padT b.length) ((b.length + (padT b.length).length) / 64))
theorem be8_len (m : Nat) : (be8 m).length = 8 := by simp [be8]
theorem be8_take (m i : Nat) (h : i < 8) : (be8 m).take (i + 1) = (be8 m).take i ++ [UInt8.ofNat (m / 256 ^ (7 - i) % 256)] := by
  rw [List.take_add_one]
  congr 1
  simp [be8, h]
theorem padT_len (n : Nat) : (padT n).length = zN n + 9 := by
  simp only [padT, List.length_cons, List.length_append, List.length_replicate, be8_len]
theorem zN_mod (n : Nat) : (n + (zN n + 9)) % 64 = 0 := by
  unfold zN
  omega
theorem zN_lt (n : Nat) : zN n < 64 := Nat.mod_lt _ (by omega)
theorem zN_stop (n z : Nat) (h : z ≤ zN n) (h2 : (n + 1 + z) % 64 = 56) : z = zN n := by
  unfold zN at *
  omega
theorem zN_go (n : Nat) : (n + 1 + zN n) % 64 = 56 := by
  unfold zN
  omega
theorem blk_len (s : List UInt32) (b : List UInt8) (h : s.length = 8) : ∀ k, (blk s b k).length = 8
  | 0 => h
  | k + 1 => comp_len _ _ (blk_len s b h k)
theorem outB_len (s : List UInt32) : (outB s).length = 32 := by simp [outB]
theorem sha_len (b : List UInt8) : (sha b).length = 32 := outB_len _
theorem H0_len : H0.length = 8 := rfl
theorem shr8 (m : Nat) (x : Int) (k : Nat) (hx : x = (8 * k : Nat)) (hk : k ≤ 8) : ((m : Nat) : Int).fdiv (2 ^ min x.toNat IntKind.u64.bits) = ((m / 256 ^ k : Nat) : Int) := by
  subst hx
  have h1 : min (((8 * k : Nat)) : Int).toNat IntKind.u64.bits = 8 * k := by
    simp only [IntKind.bits]
    omega
  rw [h1, Int.fdiv_eq_ediv_of_nonneg _ (by exact_mod_cast Nat.zero_le _), show ((2 : Int) ^ (8 * k)) = ((256 ^ k : Nat) : Int) by
    rw [Int.pow_mul]
    norm_cast]
  rfl
theorem shr4 (m : Nat) (x : Int) (k : Nat) (hx : x = (8 * k : Nat)) (hk : k ≤ 4) : ((m : Nat) : Int).fdiv (2 ^ min x.toNat IntKind.u32.bits) = ((m / 256 ^ k : Nat) : Int) := by
  subst hx
  have h1 : min (((8 * k : Nat)) : Int).toNat IntKind.u32.bits = 8 * k := by
    simp only [IntKind.bits]
    omega
  rw [h1, Int.fdiv_eq_ediv_of_nonneg _ (by exact_mod_cast Nat.zero_le _), show ((2 : Int) ^ (8 * k)) = ((256 ^ k : Nat) : Int) by
    rw [Int.pow_mul]
    norm_cast]
  rfl
theorem byte_mod (m : Nat) : pint .u8 (IntKind.u8.wrap (m : Int)) = pbyte (UInt8.ofNat (m % 256)) := by
  rw [wr8mod, byte_of _ (Nat.mod_lt _ (by omega))]
theorem wrn64 (m : Nat) (h : m < 18446744073709551616) : IntKind.u64.wrap (m : Int) = (m : Int) := by
  simp [IntKind.wrap, IntKind.bits, IntKind.signed]
  omega
set_option maxRecDepth 100000 in
set_option maxHeartbeats 8000000 in
theorem padded_r (G : Globs) (b : List UInt8) (hb : b.length ≤ 4294967296) : PCalls Tryd.prog G 95 [.list 1 (b.map pbyte)] [] (RowB (b ++ padT b.length)) := by
  have hz := zN_lt b.length
  have h128 : pint .u8 128 = pbyte 128 := rfl
  have h00 : pint .u8 0 = pbyte 0 := rfl
  (refine PCalls_f Tryd.func95 rfl Tryd.ntmps95 Tryd.results95 (by simp) fun fin hfin => ?_; have hnm : True := trivial; simp only [ev, Nat.reduceAdd, Nat.reduceMul, Nat.reduceSub, Nat.reduceLeDiff, Nat.reduceEqDiff, ↓reduceIte, reduceCtorEq, Nat.reduceLT, Nat.reducePow, Nat.reduceDiv, Nat.reduceMod, Nat.reduceBEq, Int.reduceLT, Int.reduceLE, Int.reduceToNat, Int.reduceAdd, Int.reduceSub, Int.reduceNeg])
  repeat' (first
    | (with_reducible apply W_seq_k; intro nx hnx)
    | (with_reducible first | refine wr 61 ?_)
    | ((with_reducible first | (apply WL_op; intro nx hnx) | refine Ev_out ?_ | refine wc ?_ | (refine pf hnm fun nm hnm => ?_; try simp only [fmb] at hnm) | (refine pm hnm fun nm hnm => ?_; try simp only [fmb] at hnm) | (refine pmaybe_k ?_; intro bn hbn)); try (simp (maxSteps := 2000000) (disch := omega) only [ev, ↓evp, PV.cells, PV.one, PV.mem?, Value.cells, Nat.reduceAdd, Nat.reduceMul, Nat.reduceSub, Nat.reduceLeDiff, Nat.reduceEqDiff, ↓reduceIte, reduceCtorEq, Nat.reduceLT, Nat.reducePow, Nat.reduceDiv, Nat.reduceMod, Nat.reduceBEq, Int.reduceLT, Int.reduceLE, Int.reduceToNat, Int.reduceAdd, Int.reduceSub, Int.reduceNeg, hnm, Tryd.tf0, Tryd.tf1, Tryd.tf3, Tryd.tf4, Tryd.tf5, Tryd.tf27, Tryd.tf77, flat_pb]))
    | ((with_reducible first | apply W_block | apply W_scope | apply WL_nil | apply W_label | apply W_skip | apply W_exit | apply W_ret) <;> try simp only [kks, Nat.reduceAdd, Nat.reduceMul, Nat.reduceSub, Nat.reduceLeDiff, Nat.reduceEqDiff, ↓reduceIte, reduceCtorEq, Nat.reduceLT, Nat.reducePow, Nat.reduceDiv, Nat.reduceMod, Nat.reduceBEq, Int.reduceLT, Int.reduceLE, Int.reduceToNat, Int.reduceAdd, Int.reduceSub, Int.reduceNeg])
    | (with_reducible apply pg <;> (intro hc; (try simp only [hcb, Nat.reduceAdd, Nat.reduceMul, Nat.reduceSub, Nat.reduceLeDiff, Nat.reduceEqDiff, ↓reduceIte, reduceCtorEq, Nat.reduceLT, Nat.reducePow, Nat.reduceDiv, Nat.reduceMod, Nat.reduceBEq, Int.reduceLT, Int.reduceLE, Int.reduceToNat, Int.reduceAdd, Int.reduceSub, Int.reduceNeg, ne_eq, forall_const] at hc); first | (exfalso; omega) | exact absurd trivial hc | skip))
    | (with_reducible apply hnx; clear hnx nx)
    | (with_reducible refine And.intro (by omega) ?_)
    | (with_reducible refine And.intro ?_ ?_)
    | (clear hnx nx; with_reducible apply hnx; clear hnx nx)
    | (clear hnx nx; clear hnx nx; with_reducible apply hnx; clear hnx nx))
  refine W_loop_k (fun k τ => ∃ (z : Nat) (N : Int) (o : List UInt8), z ≤ zN b.length ∧ k = zN b.length - z ∧ o = b ++ 128 :: List.replicate z 0 ∧ τ = ⟨fr 37 [(0, .list 1 (b.map pbyte)), (3, .row N 1 o.length)], [(N, ⟨5, true, 1, o.map pbyte⟩)]⟩) (zN b.length) ⟨fr 37 [(0, .list 1 (b.map pbyte)), (3, .row nm 1 (b ++ [128]).length)], [(nm, ⟨5, true, 1, (b ++ [128]).map pbyte⟩)]⟩ (by
    rw [List.length_append, List.map_append]
    exact Wk_fr (by simp only [wkb, Nat.reduceAdd, Nat.reduceMul, Nat.reduceSub, Nat.reduceLeDiff, Nat.reduceEqDiff, ↓reduceIte, reduceCtorEq, Nat.reduceLT, Nat.reducePow, Nat.reduceDiv, Nat.reduceMod, Nat.reduceBEq, Int.reduceLT, Int.reduceLE, Int.reduceToNat, Int.reduceAdd, Int.reduceSub, Int.reduceNeg, List.length_cons, List.length_nil, Nat.zero_add]) ⟨by simp, by simp [names]⟩) ⟨0, nm, b ++ [128], by omega, by omega, rfl, rfl⟩ ?_
  rintro k τ ⟨z, N, o, hzz, rfl, ho, rfl⟩ lp hlp
  have hol : o.length = b.length + 1 + z := by
    rw [ho]
    simp
    omega
  have htm : ((o.length : Nat) : Int).tmod 64 = ((o.length % 64 : Nat) : Int) := by rw [Int.tmod_eq_emod_of_nonneg (by omega)]; omega
  have hw1 := wrn64 b.length (by omega)
  have hw2 : IntKind.u64.wrap (8 * (b.length : Int)) = ((8 * b.length : Nat) : Int) := by
    rw [show 8 * (b.length : Int) = ((8 * b.length : Nat) : Int) by omega]
    exact wrn64 _ (by omega)
  by_cases hst : (b.length + 1 + z) % 64 = 56
  · have hze := zN_stop _ _ hzz hst
    have hs2 : o.length % 64 = 56 := by omega
    repeat' (first
    | (with_reducible apply W_seq_k; intro nx hnx)
    | (with_reducible first | refine wr 61 ?_)
    | ((with_reducible first | (apply WL_op; intro nx hnx) | refine Ev_out ?_ | refine wc ?_ | (refine pf hnm fun nm hnm => ?_; try simp only [fmb] at hnm) | (refine pm hnm fun nm hnm => ?_; try simp only [fmb] at hnm) | (refine pmaybe_k ?_; intro bn hbn)); try (simp (maxSteps := 2000000) (disch := omega) only [ev, ↓evp, PV.cells, PV.one, PV.mem?, Value.cells, Nat.reduceAdd, Nat.reduceMul, Nat.reduceSub, Nat.reduceLeDiff, Nat.reduceEqDiff, ↓reduceIte, reduceCtorEq, Nat.reduceLT, Nat.reducePow, Nat.reduceDiv, Nat.reduceMod, Nat.reduceBEq, Int.reduceLT, Int.reduceLE, Int.reduceToNat, Int.reduceAdd, Int.reduceSub, Int.reduceNeg, hnm, Tryd.tf0, Tryd.tf1, Tryd.tf3, Tryd.tf4, Tryd.tf5, Tryd.tf27, Tryd.tf77, htm, hs2, hw1, hw2]))
    | ((with_reducible first | apply W_block | apply W_scope | apply WL_nil | apply W_label | apply W_skip | apply W_exit | apply W_ret) <;> try simp only [kks, Nat.reduceAdd, Nat.reduceMul, Nat.reduceSub, Nat.reduceLeDiff, Nat.reduceEqDiff, ↓reduceIte, reduceCtorEq, Nat.reduceLT, Nat.reducePow, Nat.reduceDiv, Nat.reduceMod, Nat.reduceBEq, Int.reduceLT, Int.reduceLE, Int.reduceToNat, Int.reduceAdd, Int.reduceSub, Int.reduceNeg])
    | (with_reducible apply pg <;> (intro hc; (try simp only [hcb, Nat.reduceAdd, Nat.reduceMul, Nat.reduceSub, Nat.reduceLeDiff, Nat.reduceEqDiff, ↓reduceIte, reduceCtorEq, Nat.reduceLT, Nat.reducePow, Nat.reduceDiv, Nat.reduceMod, Nat.reduceBEq, Int.reduceLT, Int.reduceLE, Int.reduceToNat, Int.reduceAdd, Int.reduceSub, Int.reduceNeg, ne_eq, forall_const] at hc); first | (exfalso; omega) | exact absurd trivial hc | skip))
    | (with_reducible apply hnx; clear hnx nx)
    | (with_reducible refine And.intro (by omega) ?_)
    | (with_reducible refine And.intro ?_ ?_)
    | (clear hnx nx; with_reducible apply hnx; clear hnx nx)
    | (clear hnx nx; clear hnx nx; with_reducible apply hnx; clear hnx nx))
    all_goals first
      | (exfalso
         omega)
      | skip
    obtain ⟨m, hm⟩ : ∃ m, m = 8 * b.length := ⟨_, rfl⟩
    rw [← hm]
    refine W_loop_k (fun k τ => ∃ (i : Nat) (N : Int) (u : List UInt8), i ≤ 8 ∧ k = 8 - i ∧ u = o ++ (be8 m).take i ∧ τ = ⟨fr 37 [(3, .row N 1 u.length), (4, pint .u64 m), (5, pint .i64 i)], [(N, ⟨5, true, 1, u.map pbyte⟩)]⟩) 8 ⟨fr 37 [(3, .row N 1 o.length), (4, pint .u64 m), (5, pint .i64 (0 : Nat))], [(N, ⟨5, true, 1, o.map pbyte⟩)]⟩ (by
      exact Wk_fr (by simp only [wkb, Nat.reduceAdd, Nat.reduceMul, Nat.reduceSub, Nat.reduceLeDiff, Nat.reduceEqDiff, ↓reduceIte, reduceCtorEq, Nat.reduceLT, Nat.reducePow, Nat.reduceDiv, Nat.reduceMod, Nat.reduceBEq, Int.reduceLT, Int.reduceLE, Int.reduceToNat, Int.reduceAdd, Int.reduceSub, Int.reduceNeg]) ⟨by simp, by simp [names]⟩) ⟨0, N, o, by omega, by omega, by simp, rfl⟩ ?_
    rintro k τ ⟨i, N2, u, hi, rfl, hu, rfl⟩ lp2 hlp2
    have hul : u.length = b.length + 1 + z + i := by
      rw [hu]
      simp [be8_len, hol]
      omega
    by_cases hi8 : i < 8
    · have hsh := shr8 m (56 - 8 * (i : Int)) (7 - i) (by omega) (by omega)
      have hby := byte_mod (m / 256 ^ (7 - i))
      have htk := be8_take m i hi8
      repeat' (first
    | (with_reducible apply W_seq_k; intro nx hnx)
    | (with_reducible first | refine wr 61 ?_)
    | ((with_reducible first | (apply WL_op; intro nx hnx) | refine Ev_out ?_ | refine wc ?_ | (refine pf hnm fun nm hnm => ?_; try simp only [fmb] at hnm) | (refine pm hnm fun nm hnm => ?_; try simp only [fmb] at hnm) | (refine pmaybe_k ?_; intro bn hbn)); try (simp (maxSteps := 2000000) (disch := omega) only [ev, ↓evp, PV.cells, PV.one, PV.mem?, Value.cells, Nat.reduceAdd, Nat.reduceMul, Nat.reduceSub, Nat.reduceLeDiff, Nat.reduceEqDiff, ↓reduceIte, reduceCtorEq, Nat.reduceLT, Nat.reducePow, Nat.reduceDiv, Nat.reduceMod, Nat.reduceBEq, Int.reduceLT, Int.reduceLE, Int.reduceToNat, Int.reduceAdd, Int.reduceSub, Int.reduceNeg, hnm, Tryd.tf0, Tryd.tf1, Tryd.tf3, Tryd.tf4, Tryd.tf5, Tryd.tf27, Tryd.tf77, hsh, hby]))
    | ((with_reducible first | apply W_block | apply W_scope | apply WL_nil | apply W_label | apply W_skip | apply W_exit | apply W_ret) <;> try simp only [kks, Nat.reduceAdd, Nat.reduceMul, Nat.reduceSub, Nat.reduceLeDiff, Nat.reduceEqDiff, ↓reduceIte, reduceCtorEq, Nat.reduceLT, Nat.reducePow, Nat.reduceDiv, Nat.reduceMod, Nat.reduceBEq, Int.reduceLT, Int.reduceLE, Int.reduceToNat, Int.reduceAdd, Int.reduceSub, Int.reduceNeg])
    | (with_reducible apply pg <;> (intro hc; (try simp only [hcb, Nat.reduceAdd, Nat.reduceMul, Nat.reduceSub, Nat.reduceLeDiff, Nat.reduceEqDiff, ↓reduceIte, reduceCtorEq, Nat.reduceLT, Nat.reducePow, Nat.reduceDiv, Nat.reduceMod, Nat.reduceBEq, Int.reduceLT, Int.reduceLE, Int.reduceToNat, Int.reduceAdd, Int.reduceSub, Int.reduceNeg, ne_eq, forall_const] at hc); first | (exfalso; omega) | exact absurd trivial hc | skip))
    | (with_reducible apply hnx; clear hnx nx)
    | (with_reducible refine And.intro (by omega) ?_)
    | (with_reducible refine And.intro ?_ ?_)
    | (clear hnx nx; with_reducible apply hnx; clear hnx nx)
    | (clear hnx nx; clear hnx nx; with_reducible apply hnx; clear hnx nx))
      all_goals first
        | (exfalso
           omega)
        | (refine hlp2 _ (8 - (i + 1)) _ (by omega) ?_ ⟨i + 1, nm, u ++ [UInt8.ofNat (m / 256 ^ (7 - i) % 256)], by omega, rfl, by rw [hu, htk, List.append_assoc], rfl⟩
           rw [List.length_append, List.map_append]
           exact Wk_fr (by simp only [wkb, Nat.reduceAdd, Nat.reduceMul, Nat.reduceSub, Nat.reduceLeDiff, Nat.reduceEqDiff, ↓reduceIte, reduceCtorEq, Nat.reduceLT, Nat.reducePow, Nat.reduceDiv, Nat.reduceMod, Nat.reduceBEq, Int.reduceLT, Int.reduceLE, Int.reduceToNat, Int.reduceAdd, Int.reduceSub, Int.reduceNeg, List.length_cons, List.length_nil, Nat.zero_add]) ⟨by simp, by simp [names]⟩)
    · have hi9 : i = 8 := by omega
      subst hi9
      repeat' (first
    | (with_reducible apply W_seq_k; intro nx hnx)
    | (with_reducible first | refine wr 61 ?_)
    | ((with_reducible first | (apply WL_op; intro nx hnx) | refine Ev_out ?_ | refine wc ?_ | (refine pf hnm fun nm hnm => ?_; try simp only [fmb] at hnm) | (refine pm hnm fun nm hnm => ?_; try simp only [fmb] at hnm) | (refine pmaybe_k ?_; intro bn hbn)); try (simp (maxSteps := 2000000) (disch := omega) only [ev, ↓evp, PV.cells, PV.one, PV.mem?, Value.cells, Nat.reduceAdd, Nat.reduceMul, Nat.reduceSub, Nat.reduceLeDiff, Nat.reduceEqDiff, ↓reduceIte, reduceCtorEq, Nat.reduceLT, Nat.reducePow, Nat.reduceDiv, Nat.reduceMod, Nat.reduceBEq, Int.reduceLT, Int.reduceLE, Int.reduceToNat, Int.reduceAdd, Int.reduceSub, Int.reduceNeg, hnm, Tryd.tf0, Tryd.tf1, Tryd.tf3, Tryd.tf4, Tryd.tf5, Tryd.tf27, Tryd.tf77]))
    | ((with_reducible first | apply W_block | apply W_scope | apply WL_nil | apply W_label | apply W_skip | apply W_exit | apply W_ret) <;> try simp only [kks, Nat.reduceAdd, Nat.reduceMul, Nat.reduceSub, Nat.reduceLeDiff, Nat.reduceEqDiff, ↓reduceIte, reduceCtorEq, Nat.reduceLT, Nat.reducePow, Nat.reduceDiv, Nat.reduceMod, Nat.reduceBEq, Int.reduceLT, Int.reduceLE, Int.reduceToNat, Int.reduceAdd, Int.reduceSub, Int.reduceNeg])
    | (with_reducible apply pg <;> (intro hc; (try simp only [hcb, Nat.reduceAdd, Nat.reduceMul, Nat.reduceSub, Nat.reduceLeDiff, Nat.reduceEqDiff, ↓reduceIte, reduceCtorEq, Nat.reduceLT, Nat.reducePow, Nat.reduceDiv, Nat.reduceMod, Nat.reduceBEq, Int.reduceLT, Int.reduceLE, Int.reduceToNat, Int.reduceAdd, Int.reduceSub, Int.reduceNeg, ne_eq, forall_const] at hc); first | (exfalso; omega) | exact absurd trivial hc | skip))
    | (with_reducible apply hnx; clear hnx nx)
    | (with_reducible refine And.intro (by omega) ?_)
    | (with_reducible refine And.intro ?_ ?_)
    | (clear hnx nx; with_reducible apply hnx; clear hnx nx)
    | (clear hnx nx; clear hnx nx; with_reducible apply hnx; clear hnx nx))
      all_goals first
        | (exfalso
           omega)
        | skip
      refine hfin _ _ (Fin_ret1 rfl (Sub_refl (by simp [names])) ?_); simp only [cob, Nat.reduceAdd, Nat.reduceMul, Nat.reduceSub, Nat.reduceLeDiff, Nat.reduceEqDiff, ↓reduceIte, reduceCtorEq, Nat.reduceLT, Nat.reducePow, Nat.reduceDiv, Nat.reduceMod, Nat.reduceBEq, Int.reduceLT, Int.reduceLE, Int.reduceToNat, Int.reduceAdd, Int.reduceSub, Int.reduceNeg]
      have hfu : u = b ++ padT b.length := by
        rw [hu, ho, hze, List.take_of_length_le (by rw [be8_len]; omega), padT, hm]
        simp
      rw [hfu]
      exact ⟨N2, rfl, rfl⟩
  · have hz1 : z < zN b.length := by
      rcases Nat.lt_or_ge z (zN b.length) with h | h
      · exact h
      · exact absurd (by rw [Nat.le_antisymm hzz h]; exact zN_go _) hst
    have hoz : o ++ [0] = b ++ 128 :: List.replicate (z + 1) 0 := by
      rw [ho, List.replicate_succ', List.append_assoc]
      rfl
    have hsz : (o.length % 64 : Nat) ≠ 56 := by rw [hol]; exact hst
    repeat' (first
    | (with_reducible apply W_seq_k; intro nx hnx)
    | (with_reducible first | refine wr 61 ?_)
    | ((with_reducible first | (apply WL_op; intro nx hnx) | refine Ev_out ?_ | refine wc ?_ | (refine pf hnm fun nm hnm => ?_; try simp only [fmb] at hnm) | (refine pm hnm fun nm hnm => ?_; try simp only [fmb] at hnm) | (refine pmaybe_k ?_; intro bn hbn)); try (simp (maxSteps := 2000000) (disch := omega) only [ev, ↓evp, PV.cells, PV.one, PV.mem?, Value.cells, Nat.reduceAdd, Nat.reduceMul, Nat.reduceSub, Nat.reduceLeDiff, Nat.reduceEqDiff, ↓reduceIte, reduceCtorEq, Nat.reduceLT, Nat.reducePow, Nat.reduceDiv, Nat.reduceMod, Nat.reduceBEq, Int.reduceLT, Int.reduceLE, Int.reduceToNat, Int.reduceAdd, Int.reduceSub, Int.reduceNeg, hnm, Tryd.tf0, Tryd.tf1, Tryd.tf3, Tryd.tf4, Tryd.tf5, Tryd.tf27, Tryd.tf77, htm]))
    | ((with_reducible first | apply W_block | apply W_scope | apply WL_nil | apply W_label | apply W_skip | apply W_exit | apply W_ret) <;> try simp only [kks, Nat.reduceAdd, Nat.reduceMul, Nat.reduceSub, Nat.reduceLeDiff, Nat.reduceEqDiff, ↓reduceIte, reduceCtorEq, Nat.reduceLT, Nat.reducePow, Nat.reduceDiv, Nat.reduceMod, Nat.reduceBEq, Int.reduceLT, Int.reduceLE, Int.reduceToNat, Int.reduceAdd, Int.reduceSub, Int.reduceNeg])
    | (with_reducible apply pg <;> (intro hc; (try simp only [hcb, Nat.reduceAdd, Nat.reduceMul, Nat.reduceSub, Nat.reduceLeDiff, Nat.reduceEqDiff, ↓reduceIte, reduceCtorEq, Nat.reduceLT, Nat.reducePow, Nat.reduceDiv, Nat.reduceMod, Nat.reduceBEq, Int.reduceLT, Int.reduceLE, Int.reduceToNat, Int.reduceAdd, Int.reduceSub, Int.reduceNeg, ne_eq, forall_const] at hc); first | (exfalso; omega) | exact absurd trivial hc | skip))
    | (with_reducible apply hnx; clear hnx nx)
    | (with_reducible refine And.intro (by omega) ?_)
    | (with_reducible refine And.intro ?_ ?_)
    | (clear hnx nx; with_reducible apply hnx; clear hnx nx)
    | (clear hnx nx; clear hnx nx; with_reducible apply hnx; clear hnx nx))
    all_goals first
      | (exfalso
         omega)
      | (refine hlp _ (zN b.length - (z + 1)) _ (by omega) ?_ ⟨z + 1, nm, o ++ [0], by omega, rfl, hoz, rfl⟩
         rw [List.length_append, List.map_append]
         exact Wk_fr (by simp only [wkb, Nat.reduceAdd, Nat.reduceMul, Nat.reduceSub, Nat.reduceLeDiff, Nat.reduceEqDiff, ↓reduceIte, reduceCtorEq, Nat.reduceLT, Nat.reducePow, Nat.reduceDiv, Nat.reduceMod, Nat.reduceBEq, Int.reduceLT, Int.reduceLE, Int.reduceToNat, Int.reduceAdd, Int.reduceSub, Int.reduceNeg, List.length_cons, List.length_nil, Nat.zero_add]) ⟨by simp, by simp [names]⟩)
theorem padded_c (G : Globs) (b : List UInt8) (hb : b.length ≤ 4294967296) : PCalls Tryd.prog G 95 [.list 1 (b.map pbyte)] [] (fun res H => res = .list 1 ((b ++ padT b.length).map pbyte) ∧ H = []) := RowB.frz (padded_r G b hb)
end Go.PM

namespace Go.PM
open Go.Proofs
attribute [local irreducible] W PCalls pcall pcallI WL
def oC (s : List UInt32) (i : Nat) : List PV := tab 32 fun m => if m < i then pbyte (oB s m) else pint .u8 0
theorem oC_len (s : List UInt32) (i : Nat) : (oC s i).length = 32 := tab_len _ _
theorem oC_zero (s : List UInt32) : oC s 0 = List.replicate 32 (pint .u8 0) := by
  rw [oC, tab_congr (g := fun _ => pint .u8 0) (fun i _ => by simp)]
  simp [tab, List.range_succ]
theorem oC_set (s : List UInt32) (i : Nat) (h : i < 32) : List.take i (oC s i) ++ [pbyte (oB s i)] ++ List.drop (i + 1) (oC s i) = oC s (i + 1) := by
  rw [oC, tab_set h, oC]
  refine tab_congr fun m _ => ?_
  by_cases h1 : m = i
  · subst h1
    rw [if_pos rfl, if_pos (by omega)]
  · rw [if_neg h1]
    rcases Nat.lt_or_ge m i with h2 | h2
    · rw [if_pos h2, if_pos (by omega)]
    · rw [if_neg (by omega), if_neg (by omega)]
theorem oC_full (s : List UInt32) : oC s 32 = (outB s).map pbyte := by
  rw [oC, outB, List.map_map]
  unfold tab
  refine List.map_congr_left fun m hm => ?_
  rw [if_pos (List.mem_range.1 hm)]
  rfl
attribute [irreducible] oC
theorem blk_whole (b : List UInt8) : ∃ n, (b ++ padT b.length).length = 64 * n ∧ sha b = outB (blk H0 (b ++ padT b.length) n) := by
  have h := zN_mod b.length
  refine ⟨(b.length + (padT b.length).length) / 64, ?_, rfl⟩
  rw [List.length_append, padT_len]
  omega
set_option maxRecDepth 100000 in
set_option maxHeartbeats 8000000 in
theorem rsum_c (G : Globs) (hG : G 1 = .iptr (KS.map pw) 0) (b : List UInt8) (hb : b.length ≤ 4294967296) : PCalls Tryd.prog G 90 [.list 1 (b.map pbyte)] [] (fun res H => res = .agg ((sha b).map pbyte) ∧ H = []) := by
  obtain ⟨n, hpl, hsha⟩ := blk_whole b
  have hpad := padded_c G b hb
  have hpl2 : (b ++ padT b.length).length = b.length + (zN b.length + 9) := by rw [List.length_append, padT_len]
  have hzn := zN_lt b.length
  obtain ⟨p, hp⟩ : ∃ p, p = b ++ padT b.length := ⟨_, rfl⟩
  rw [← hp] at hpl hpl2 hsha hpad
  have hb0 : blk H0 p 0 = [1779033703, 3144134277, 1013904242, 2773480762, 1359893119, 2600822924, 528734635, 1541459225] := rfl
  have hbl := blk_len H0 p H0_len
  have hbs : ∀ k, blk H0 p (k + 1) = comp (blk H0 p k) ((p.drop (64 * k)).take 64) := fun _ => rfl
  have hk1 := all_one_pw KS
  have hkl := KS_len
  have hkt : List.take 64 (KS.map pw) = KS.map pw := List.take_of_length_le (by rw [List.length_map]; decide)
  rw [hsha]
  generalize blk H0 p = B at *
  have hrs : ∀ w s t, rds w s (t + 1) = rnd (KS.getD t 0) (w.getD t 0) (rds w s t) := fun _ _ _ => rfl
  generalize hks : KS = ks at *
  (refine PCalls_f Tryd.func90 rfl Tryd.ntmps90 Tryd.results90 (by simp) fun fin hfin => ?_; have hnm : True := trivial; simp only [ev, Nat.reduceAdd, Nat.reduceMul, Nat.reduceSub, Nat.reduceLeDiff, Nat.reduceEqDiff, ↓reduceIte, reduceCtorEq, Nat.reduceLT, Nat.reducePow, Nat.reduceDiv, Nat.reduceMod, Nat.reduceBEq, Int.reduceLT, Int.reduceLE, Int.reduceToNat, Int.reduceAdd, Int.reduceSub, Int.reduceNeg])
  repeat' (first
    | (with_reducible apply W_seq_k; intro nx hnx)
    | (with_reducible first | refine wr 1048573 ?_ | refine wd (id := 7) 1048573 1 (.op 0 true (.op 1 true (.op 2 true (.op 3 true (.op 4 true (.op 5 true (.op 6 true (.op 7 true (.op 8 true (.op 9 true (.op 10 true (.op 11 true (.op 12 true (.op 13 true (.op 14 true (.op 15 true (.op 16 true (.op 17 true (.op 18 true (.op 19 true (.op 20 true (.op 21 true (.op 22 true (.op 23 true (.done))))))))))))))))))))))))) (by kernel_rfl) ?_ | refine wd (id := 11) 1048573 1 (.op 0 true (.op 1 true (.op 3 true (.op 6 true (.op 10 true (.op 11 true (.op 12 true (.op 13 true (.op 14 true (.op 15 true (.op 16 true (.op 17 true (.op 19 true (.op 20 true (.op 21 true (.op 23 true (.op 24 true (.op 25 true (.op 2 true (.op 4 true (.op 5 true (.op 7 true (.op 8 true (.op 9 true (.op 18 true (.op 22 true (.op 26 true (.op 27 true (.done))))))))))))))))))))))))))))) (by kernel_rfl) ?_)
    | ((with_reducible first | (apply WL_op; intro nx hnx) | refine Ev_out ?_ | refine wc ?_ | (apply popsD_op; intro nx hnx) | (refine popsD_alt ?_ ?_; intro nx hnx) | (refine pf hnm fun nm hnm => ?_; try simp only [fmb] at hnm) | (refine pm hnm fun nm hnm => ?_; try simp only [fmb] at hnm)); try (simp (maxSteps := 2000000) (disch := omega) only [ev, ↓evp, PV.cells, PV.one, PV.mem?, Value.cells, Nat.reduceAdd, Nat.reduceMul, Nat.reduceSub, Nat.reduceLeDiff, Nat.reduceEqDiff, ↓reduceIte, reduceCtorEq, Nat.reduceLT, Nat.reducePow, Nat.reduceDiv, Nat.reduceMod, Nat.reduceBEq, Int.reduceLT, Int.reduceLE, Int.reduceToNat, Int.reduceAdd, Int.reduceSub, Int.reduceNeg, hnm, Tryd.tf0, Tryd.tf3, Tryd.tf4, Tryd.tf5, Tryd.tf27, Tryd.tf74, Tryd.tf75, Tryd.tf82, Tryd.tf132, Tryd.call95, Tryd.call96, Tryd.call97]))
    | ((with_reducible first | apply W_block | apply W_scope | apply WL_nil | apply W_label | apply W_skip | apply W_exit | apply W_ret | apply popsD_done | exact popsD_stop) <;> try simp only [kks, Nat.reduceAdd, Nat.reduceMul, Nat.reduceSub, Nat.reduceLeDiff, Nat.reduceEqDiff, ↓reduceIte, reduceCtorEq, Nat.reduceLT, Nat.reducePow, Nat.reduceDiv, Nat.reduceMod, Nat.reduceBEq, Int.reduceLT, Int.reduceLE, Int.reduceToNat, Int.reduceAdd, Int.reduceSub, Int.reduceNeg])
    | (with_reducible apply pg <;> (intro hc; (try simp only [hcb, Nat.reduceAdd, Nat.reduceMul, Nat.reduceSub, Nat.reduceLeDiff, Nat.reduceEqDiff, ↓reduceIte, reduceCtorEq, Nat.reduceLT, Nat.reducePow, Nat.reduceDiv, Nat.reduceMod, Nat.reduceBEq, Int.reduceLT, Int.reduceLE, Int.reduceToNat, Int.reduceAdd, Int.reduceSub, Int.reduceNeg, ne_eq, forall_const] at hc); first | (exfalso; omega) | exact absurd trivial hc | skip))
    | (with_reducible apply hnx; clear hnx nx)
    | (with_reducible refine And.intro (by omega) ?_)
    | (with_reducible refine And.intro ?_ ?_)
    | (clear hnx nx; with_reducible apply hnx; clear hnx nx)
    | (clear hnx nx; clear hnx nx; with_reducible apply hnx; clear hnx nx))
  refine pcall_k hpad ?_
  rintro _ _ ⟨rfl, rfl⟩ -
  refine Ev_in ?_
  repeat' (first
    | (with_reducible apply W_seq_k; intro nx hnx)
    | (with_reducible first | refine wr 1048573 ?_ | refine wd (id := 7) 1048573 1 (.op 0 true (.op 1 true (.op 2 true (.op 3 true (.op 4 true (.op 5 true (.op 6 true (.op 7 true (.op 8 true (.op 9 true (.op 10 true (.op 11 true (.op 12 true (.op 13 true (.op 14 true (.op 15 true (.op 16 true (.op 17 true (.op 18 true (.op 19 true (.op 20 true (.op 21 true (.op 22 true (.op 23 true (.done))))))))))))))))))))))))) (by kernel_rfl) ?_ | refine wd (id := 11) 1048573 1 (.op 0 true (.op 1 true (.op 3 true (.op 6 true (.op 10 true (.op 11 true (.op 12 true (.op 13 true (.op 14 true (.op 15 true (.op 16 true (.op 17 true (.op 19 true (.op 20 true (.op 21 true (.op 23 true (.op 24 true (.op 25 true (.op 2 true (.op 4 true (.op 5 true (.op 7 true (.op 8 true (.op 9 true (.op 18 true (.op 22 true (.op 26 true (.op 27 true (.done))))))))))))))))))))))))))))) (by kernel_rfl) ?_)
    | ((with_reducible first | (apply WL_op; intro nx hnx) | refine Ev_out ?_ | refine wc ?_ | (apply popsD_op; intro nx hnx) | (refine popsD_alt ?_ ?_; intro nx hnx) | (refine pf hnm fun nm hnm => ?_; try simp only [fmb] at hnm) | (refine pm hnm fun nm hnm => ?_; try simp only [fmb] at hnm)); try (simp (maxSteps := 2000000) (disch := omega) only [ev, ↓evp, PV.cells, PV.one, PV.mem?, Value.cells, Nat.reduceAdd, Nat.reduceMul, Nat.reduceSub, Nat.reduceLeDiff, Nat.reduceEqDiff, ↓reduceIte, reduceCtorEq, Nat.reduceLT, Nat.reducePow, Nat.reduceDiv, Nat.reduceMod, Nat.reduceBEq, Int.reduceLT, Int.reduceLE, Int.reduceToNat, Int.reduceAdd, Int.reduceSub, Int.reduceNeg, hnm, Tryd.tf0, Tryd.tf3, Tryd.tf4, Tryd.tf5, Tryd.tf27, Tryd.tf74, Tryd.tf75, Tryd.tf82, Tryd.tf132, Tryd.call95, Tryd.call96, Tryd.call97]))
    | ((with_reducible first | apply W_block | apply W_scope | apply WL_nil | apply W_label | apply W_skip | apply W_exit | apply W_ret | apply popsD_done | exact popsD_stop) <;> try simp only [kks, Nat.reduceAdd, Nat.reduceMul, Nat.reduceSub, Nat.reduceLeDiff, Nat.reduceEqDiff, ↓reduceIte, reduceCtorEq, Nat.reduceLT, Nat.reducePow, Nat.reduceDiv, Nat.reduceMod, Nat.reduceBEq, Int.reduceLT, Int.reduceLE, Int.reduceToNat, Int.reduceAdd, Int.reduceSub, Int.reduceNeg])
    | (with_reducible apply pg <;> (intro hc; (try simp only [hcb, Nat.reduceAdd, Nat.reduceMul, Nat.reduceSub, Nat.reduceLeDiff, Nat.reduceEqDiff, ↓reduceIte, reduceCtorEq, Nat.reduceLT, Nat.reducePow, Nat.reduceDiv, Nat.reduceMod, Nat.reduceBEq, Int.reduceLT, Int.reduceLE, Int.reduceToNat, Int.reduceAdd, Int.reduceSub, Int.reduceNeg, ne_eq, forall_const] at hc); first | (exfalso; omega) | exact absurd trivial hc | skip))
    | (with_reducible apply hnx; clear hnx nx)
    | (with_reducible refine And.intro (by omega) ?_)
    | (with_reducible refine And.intro ?_ ?_)
    | (clear hnx nx; with_reducible apply hnx; clear hnx nx)
    | (clear hnx nx; clear hnx nx; with_reducible apply hnx; clear hnx nx))
  rename_i N2 _
  obtain ⟨N3, hN3⟩ : ∃ N, N = nm := ⟨_, rfl⟩
  subst hN3
  have hN : N3 ≠ N2 := by simp only [ne_eq, hnm, not_false_eq_true]
  have hN1 : ¬ N3 = N2 := hN
  have hN4 : ¬ N2 = N3 := fun e => hN e.symm
  clear hnm
  have hnm : True := trivial
  refine W_loop_k (fun z τ => ∃ (i a : Nat) (s0 s1 s2 s3 s4 s5 s6 s7 : UInt32), i ≤ n ∧ a = 64 * i ∧ z = n - i ∧ B i = [s0, s1, s2, s3, s4, s5, s6, s7] ∧ τ = ⟨fr 164 [(2, .ptr N2 0), (3, .ptr N3 0), (4, .list 1 (p.map pbyte)), (5, pint .i64 a)], [(N3, ⟨75, false, 0, [pw s0, pw s1, pw s2, pw s3, pw s4, pw s5, pw s6, pw s7]⟩), (N2, ⟨82, false, 0, oC (B n) 0⟩)]⟩) n
    ⟨fr 164 [(2, .ptr N2 0), (3, .ptr N3 0), (4, .list 1 (p.map pbyte)), (5, pint .i64 (0 : Nat))], [(N3, ⟨75, false, 0, [pw 1779033703, pw 3144134277, pw 1013904242, pw 2773480762, pw 1359893119, pw 2600822924, pw 528734635, pw 1541459225]⟩), (N2, ⟨82, false, 0, oC (B n) 0⟩)]⟩ (by
    rw [oC_zero]
    refine Wk_fr (by simp only [wkb, Nat.reduceAdd, Nat.reduceMul, Nat.reduceSub, Nat.reduceLeDiff, Nat.reduceEqDiff, ↓reduceIte, reduceCtorEq, Nat.reduceLT, Nat.reducePow, Nat.reduceDiv, Nat.reduceMod, Nat.reduceBEq, Int.reduceLT, Int.reduceLE, Int.reduceToNat, Int.reduceAdd, Int.reduceSub, Int.reduceNeg]) ?_
    exact ⟨by simp, by simp [names, hN]⟩) ⟨0, 0, _, _, _, _, _, _, _, _, by omega, by omega, by omega, hb0, rfl⟩ ?_
  rintro z τ ⟨i, a, s0, s1, s2, s3, s4, s5, s6, s7, hi, ha, rfl, hbi, rfl⟩ lp hlp
  by_cases hin : i < n
  · have hmid : List.drop a (List.take (a + 64) (p.map pbyte)) = ((p.drop a).take 64).map pbyte := by
      rw [List.drop_take, List.map_take, List.map_drop, show a + 64 - a = 64 by omega]
    have h1 : ((a : Int) + 64).toNat = a + 64 := by omega
    have hnxt := hbs i
    rw [← ha, hbi] at hnxt
    obtain ⟨c, hcd⟩ : ∃ c, c = (p.drop a).take 64 := ⟨_, rfl⟩
    have hc4 : c.length = 64 := by rw [hcd, List.length_take, List.length_drop]; omega
    rw [← hcd] at hmid hnxt
    have hcomp : comp [s0, s1, s2, s3, s4, s5, s6, s7] c = List.zipWith (· + ·) [s0, s1, s2, s3, s4, s5, s6, s7] (rds (WLs c 64) [s0, s1, s2, s3, s4, s5, s6, s7] 64) := rfl
    have hwl := WLs_len c 64
    have hwds := words_c G c hc4
    obtain ⟨w, hw⟩ : ∃ w, w = WLs c 64 := ⟨_, rfl⟩
    rw [← hw] at hwl hcomp hwds
    have hwm : (w.map pw).length = 64 := by rw [List.length_map, hwl]
    have hwt : List.take 64 (w.map pw) = w.map pw := List.take_of_length_le (by omega)
    have hw1 := all_one_pw w
    have hr0 : rds w [s0, s1, s2, s3, s4, s5, s6, s7] 0 = [s0, s1, s2, s3, s4, s5, s6, s7] := rfl
    repeat' (first
    | (with_reducible apply W_seq_k; intro nx hnx)
    | (with_reducible first | refine wr 1048573 ?_ | refine wd (id := 7) 1048573 1 (.op 0 true (.op 1 true (.op 2 true (.op 3 true (.op 4 true (.op 5 true (.op 6 true (.op 7 true (.op 8 true (.op 9 true (.op 10 true (.op 11 true (.op 12 true (.op 13 true (.op 14 true (.op 15 true (.op 16 true (.op 17 true (.op 18 true (.op 19 true (.op 20 true (.op 21 true (.op 22 true (.op 23 true (.done))))))))))))))))))))))))) (by kernel_rfl) ?_ | refine wd (id := 11) 1048573 1 (.op 0 true (.op 1 true (.op 3 true (.op 6 true (.op 10 true (.op 11 true (.op 12 true (.op 13 true (.op 14 true (.op 15 true (.op 16 true (.op 17 true (.op 19 true (.op 20 true (.op 21 true (.op 23 true (.op 24 true (.op 25 true (.op 2 true (.op 4 true (.op 5 true (.op 7 true (.op 8 true (.op 9 true (.op 18 true (.op 22 true (.op 26 true (.op 27 true (.done))))))))))))))))))))))))))))) (by kernel_rfl) ?_)
    | ((with_reducible first | (apply WL_op; intro nx hnx) | refine Ev_out ?_ | refine wc ?_ | (apply popsD_op; intro nx hnx) | (refine popsD_alt ?_ ?_; intro nx hnx) | (refine pf hnm fun nm hnm => ?_; try simp only [fmb] at hnm) | (refine pm hnm fun nm hnm => ?_; try simp only [fmb] at hnm)); try (simp (maxSteps := 2000000) (disch := omega) only [ev, ↓evp, PV.cells, PV.one, PV.mem?, Value.cells, Nat.reduceAdd, Nat.reduceMul, Nat.reduceSub, Nat.reduceLeDiff, Nat.reduceEqDiff, ↓reduceIte, reduceCtorEq, Nat.reduceLT, Nat.reducePow, Nat.reduceDiv, Nat.reduceMod, Nat.reduceBEq, Int.reduceLT, Int.reduceLE, Int.reduceToNat, Int.reduceAdd, Int.reduceSub, Int.reduceNeg, hnm, Tryd.tf0, Tryd.tf3, Tryd.tf4, Tryd.tf5, Tryd.tf27, Tryd.tf74, Tryd.tf75, Tryd.tf82, Tryd.tf132, Tryd.call95, Tryd.call96, Tryd.call97, h1, hmid, hN1, hN4]))
    | ((with_reducible first | apply W_block | apply W_scope | apply WL_nil | apply W_label | apply W_skip | apply W_exit | apply W_ret | apply popsD_done | exact popsD_stop) <;> try simp only [kks, Nat.reduceAdd, Nat.reduceMul, Nat.reduceSub, Nat.reduceLeDiff, Nat.reduceEqDiff, ↓reduceIte, reduceCtorEq, Nat.reduceLT, Nat.reducePow, Nat.reduceDiv, Nat.reduceMod, Nat.reduceBEq, Int.reduceLT, Int.reduceLE, Int.reduceToNat, Int.reduceAdd, Int.reduceSub, Int.reduceNeg])
    | (with_reducible apply pg <;> (intro hc; (try simp only [hcb, Nat.reduceAdd, Nat.reduceMul, Nat.reduceSub, Nat.reduceLeDiff, Nat.reduceEqDiff, ↓reduceIte, reduceCtorEq, Nat.reduceLT, Nat.reducePow, Nat.reduceDiv, Nat.reduceMod, Nat.reduceBEq, Int.reduceLT, Int.reduceLE, Int.reduceToNat, Int.reduceAdd, Int.reduceSub, Int.reduceNeg, ne_eq, forall_const] at hc); first | (exfalso; omega) | exact absurd trivial hc | skip))
    | (with_reducible apply hnx; clear hnx nx)
    | (with_reducible refine And.intro (by omega) ?_)
    | (with_reducible refine And.intro ?_ ?_)
    | (clear hnx nx; with_reducible apply hnx; clear hnx nx)
    | (clear hnx nx; clear hnx nx; with_reducible apply hnx; clear hnx nx))
    all_goals first
      | (exfalso
         omega)
      | skip
    refine pcall_k hwds ?_
    rintro _ _ ⟨rfl, rfl⟩ -
    refine Ev_in ?_
    repeat' (first
    | (with_reducible apply W_seq_k; intro nx hnx)
    | (with_reducible first | refine wr 1048573 ?_ | refine wd (id := 7) 1048573 1 (.op 0 true (.op 1 true (.op 2 true (.op 3 true (.op 4 true (.op 5 true (.op 6 true (.op 7 true (.op 8 true (.op 9 true (.op 10 true (.op 11 true (.op 12 true (.op 13 true (.op 14 true (.op 15 true (.op 16 true (.op 17 true (.op 18 true (.op 19 true (.op 20 true (.op 21 true (.op 22 true (.op 23 true (.done))))))))))))))))))))))))) (by kernel_rfl) ?_ | refine wd (id := 11) 1048573 1 (.op 0 true (.op 1 true (.op 3 true (.op 6 true (.op 10 true (.op 11 true (.op 12 true (.op 13 true (.op 14 true (.op 15 true (.op 16 true (.op 17 true (.op 19 true (.op 20 true (.op 21 true (.op 23 true (.op 24 true (.op 25 true (.op 2 true (.op 4 true (.op 5 true (.op 7 true (.op 8 true (.op 9 true (.op 18 true (.op 22 true (.op 26 true (.op 27 true (.done))))))))))))))))))))))))))))) (by kernel_rfl) ?_)
    | ((with_reducible first | (apply WL_op; intro nx hnx) | refine Ev_out ?_ | refine wc ?_ | (apply popsD_op; intro nx hnx) | (refine popsD_alt ?_ ?_; intro nx hnx) | (refine pf hnm fun nm hnm => ?_; try simp only [fmb] at hnm) | (refine pm hnm fun nm hnm => ?_; try simp only [fmb] at hnm)); try (simp (maxSteps := 2000000) (disch := omega) only [ev, ↓evp, PV.cells, PV.one, PV.mem?, Value.cells, Nat.reduceAdd, Nat.reduceMul, Nat.reduceSub, Nat.reduceLeDiff, Nat.reduceEqDiff, ↓reduceIte, reduceCtorEq, Nat.reduceLT, Nat.reducePow, Nat.reduceDiv, Nat.reduceMod, Nat.reduceBEq, Int.reduceLT, Int.reduceLE, Int.reduceToNat, Int.reduceAdd, Int.reduceSub, Int.reduceNeg, hnm, Tryd.tf0, Tryd.tf3, Tryd.tf4, Tryd.tf5, Tryd.tf27, Tryd.tf74, Tryd.tf75, Tryd.tf82, Tryd.tf132, Tryd.call95, Tryd.call96, Tryd.call97, hN1, hN4, hwm, hwl, hwt, hw1]))
    | ((with_reducible first | apply W_block | apply W_scope | apply WL_nil | apply W_label | apply W_skip | apply W_exit | apply W_ret | apply popsD_done | exact popsD_stop) <;> try simp only [kks, Nat.reduceAdd, Nat.reduceMul, Nat.reduceSub, Nat.reduceLeDiff, Nat.reduceEqDiff, ↓reduceIte, reduceCtorEq, Nat.reduceLT, Nat.reducePow, Nat.reduceDiv, Nat.reduceMod, Nat.reduceBEq, Int.reduceLT, Int.reduceLE, Int.reduceToNat, Int.reduceAdd, Int.reduceSub, Int.reduceNeg])
    | (with_reducible apply pg <;> (intro hc; (try simp only [hcb, Nat.reduceAdd, Nat.reduceMul, Nat.reduceSub, Nat.reduceLeDiff, Nat.reduceEqDiff, ↓reduceIte, reduceCtorEq, Nat.reduceLT, Nat.reducePow, Nat.reduceDiv, Nat.reduceMod, Nat.reduceBEq, Int.reduceLT, Int.reduceLE, Int.reduceToNat, Int.reduceAdd, Int.reduceSub, Int.reduceNeg, ne_eq, forall_const] at hc); first | (exfalso; omega) | exact absurd trivial hc | skip))
    | (with_reducible apply hnx; clear hnx nx)
    | (with_reducible refine And.intro (by omega) ?_)
    | (with_reducible refine And.intro ?_ ?_)
    | (clear hnx nx; with_reducible apply hnx; clear hnx nx)
    | (clear hnx nx; clear hnx nx; with_reducible apply hnx; clear hnx nx))
    have hnd : [nm, N3, N2].Nodup := by simp [hnm, hN1]
    refine W_loop_k (fun z τ => ∃ (t : Nat) (v0 v1 v2 v3 e0 e1 e2 e3 : UInt32), t ≤ 64 ∧ z = 64 - t ∧ rds w [s0, s1, s2, s3, s4, s5, s6, s7] t = [v0, v1, v2, v3, e0, e1, e2, e3] ∧ τ = ⟨fr 164 [(15, pint .i64 t), (14, pw e3), (13, pw e2), (12, pw e1), (11, pw e0), (10, pw v3), (9, pw v2), (8, pw v1), (7, pw v0), (6, .ptr nm 0), (2, .ptr N2 0), (3, .ptr N3 0), (4, .list 1 (p.map pbyte)), (5, pint .i64 a)],
      [(nm, ⟨132, false, 0, w.map pw⟩), (N3, ⟨75, false, 0, [pw s0, pw s1, pw s2, pw s3, pw s4, pw s5, pw s6, pw s7]⟩), (N2, ⟨82, false, 0, oC (B n) 0⟩)]⟩) 64
      ⟨fr 164 [(15, pint .i64 (0 : Nat)), (14, pw s7), (13, pw s6), (12, pw s5), (11, pw s4), (10, pw s3), (9, pw s2), (8, pw s1), (7, pw s0), (6, .ptr nm 0), (2, .ptr N2 0), (3, .ptr N3 0), (4, .list 1 (p.map pbyte)), (5, pint .i64 a)],
      [(nm, ⟨132, false, 0, w.map pw⟩), (N3, ⟨75, false, 0, [pw s0, pw s1, pw s2, pw s3, pw s4, pw s5, pw s6, pw s7]⟩), (N2, ⟨82, false, 0, oC (B n) 0⟩)]⟩ (by
      refine Wk_fr (by simp only [wkb, Nat.reduceAdd, Nat.reduceMul, Nat.reduceSub, Nat.reduceLeDiff, Nat.reduceEqDiff, ↓reduceIte, reduceCtorEq, Nat.reduceLT, Nat.reducePow, Nat.reduceDiv, Nat.reduceMod, Nat.reduceBEq, Int.reduceLT, Int.reduceLE, Int.reduceToNat, Int.reduceAdd, Int.reduceSub, Int.reduceNeg]) ?_
      exact Sub_refl hnd) ⟨0, s0, s1, s2, s3, s4, s5, s6, s7, by omega, by omega, hr0, rfl⟩ ?_
    rintro z τ ⟨t, v0, v1, v2, v3, e0, e1, e2, e3, ht, rfl, hrt, rfl⟩ lp2 hlp2
    by_cases ht2 : t < 64
    · have hst := hrs w [s0, s1, s2, s3, s4, s5, s6, s7] t
      rw [hrt] at hst
      obtain ⟨k, hk⟩ : ∃ k, k = ks.getD t 0 := ⟨_, rfl⟩
      obtain ⟨u, hu⟩ : ∃ u, u = w.getD t 0 := ⟨_, rfl⟩
      rw [← hk, ← hu] at hst
      have hkg : ks[t]'(by omega) = k := by rw [hk]; simp [hkl, ht2]
      have hkq : ks[t]? = some k := by rw [List.getElem?_eq_getElem (by omega), hkg]
      have hug : w[t]? = some u := by rw [hu, List.getElem?_eq_getElem (by omega)]; simp [hwl, ht2]
      have hug2 : w[t]'(by omega) = u := by rw [hu]; simp [hwl, ht2]
      obtain ⟨X, hX⟩ : ∃ X, X = xW e0 e1 e2 e3 k u := ⟨_, rfl⟩
      obtain ⟨Y, hY⟩ : ∃ Y, Y = yW v0 v1 v2 := ⟨_, rfl⟩
      have hst : rds w [s0, s1, s2, s3, s4, s5, s6, s7] (t + 1) = [X + Y, v0, v1, v2, v3 + X, e0, e1, e2] := by
        rw [hst, rnd, ← hX, ← hY]
      have hx : e3 + (R e0 6 ^^^ R e0 11 ^^^ R e0 25) + (e0 &&& e1 ^^^ (e0 ^^^ 4294967295) &&& e2) + k + u = X := by rw [hX, xW, chW, Mx]
      have hy : (R v0 2 ^^^ R v0 13 ^^^ R v0 22) + (v0 &&& v1 ^^^ v0 &&& v2 ^^^ v1 &&& v2) = Y := by rw [hY, yW, maW, Mx]
      have hf : bits .xor .u32 (e0.toNat : Int) 4294967295 = ((e0 ^^^ 4294967295).toNat : Int) := w_xor e0 4294967295
      have m1 : PCalls Tryd.prog G 97 [pw e0, pint .i64 6] [] (fun res H => res = pw (R e0 6) ∧ H = []) := rotr_c G e0 6 (by decide) (by decide)
      have m2 : PCalls Tryd.prog G 97 [pw e0, pint .i64 11] [] (fun res H => res = pw (R e0 11) ∧ H = []) := rotr_c G e0 11 (by decide) (by decide)
      have m3 : PCalls Tryd.prog G 97 [pw e0, pint .i64 25] [] (fun res H => res = pw (R e0 25) ∧ H = []) := rotr_c G e0 25 (by decide) (by decide)
      have m4 : PCalls Tryd.prog G 97 [pw v0, pint .i64 2] [] (fun res H => res = pw (R v0 2) ∧ H = []) := rotr_c G v0 2 (by decide) (by decide)
      have m5 : PCalls Tryd.prog G 97 [pw v0, pint .i64 13] [] (fun res H => res = pw (R v0 13) ∧ H = []) := rotr_c G v0 13 (by decide) (by decide)
      have m6 : PCalls Tryd.prog G 97 [pw v0, pint .i64 22] [] (fun res H => res = pw (R v0 22) ∧ H = []) := rotr_c G v0 22 (by decide) (by decide)
      repeat' (first
    | (with_reducible apply W_seq_k; intro nx hnx)
    | (with_reducible first | refine wr 1048573 ?_ | refine wd (id := 7) 1048573 1 (.op 0 true (.op 1 true (.op 2 true (.op 3 true (.op 4 true (.op 5 true (.op 6 true (.op 7 true (.op 8 true (.op 9 true (.op 10 true (.op 11 true (.op 12 true (.op 13 true (.op 14 true (.op 15 true (.op 16 true (.op 17 true (.op 18 true (.op 19 true (.op 20 true (.op 21 true (.op 22 true (.op 23 true (.done))))))))))))))))))))))))) (by kernel_rfl) ?_ | refine wd (id := 11) 1048573 1 (.op 0 true (.op 1 true (.op 3 true (.op 6 true (.op 10 true (.op 11 true (.op 12 true (.op 13 true (.op 14 true (.op 15 true (.op 16 true (.op 17 true (.op 19 true (.op 20 true (.op 21 true (.op 23 true (.op 24 true (.op 25 true (.op 2 true (.op 4 true (.op 5 true (.op 7 true (.op 8 true (.op 9 true (.op 18 true (.op 22 true (.op 26 true (.op 27 true (.done))))))))))))))))))))))))))))) (by kernel_rfl) ?_)
    | ((with_reducible first | (apply WL_op; intro nx hnx) | refine Ev_out ?_ | refine wc ?_ | (apply popsD_op; intro nx hnx) | (refine popsD_alt ?_ ?_; intro nx hnx) | (refine pf hnm fun nm hnm => ?_; try simp only [fmb] at hnm) | (refine pm hnm fun nm hnm => ?_; try simp only [fmb] at hnm)); try (simp (maxSteps := 2000000) (disch := omega) only [ev, ↓evp, PV.cells, PV.one, PV.mem?, Value.cells, Nat.reduceAdd, Nat.reduceMul, Nat.reduceSub, Nat.reduceLeDiff, Nat.reduceEqDiff, ↓reduceIte, reduceCtorEq, Nat.reduceLT, Nat.reducePow, Nat.reduceDiv, Nat.reduceMod, Nat.reduceBEq, Int.reduceLT, Int.reduceLE, Int.reduceToNat, Int.reduceAdd, Int.reduceSub, Int.reduceNeg, hnm, Tryd.tf0, Tryd.tf3, Tryd.tf4, Tryd.tf5, Tryd.tf27, Tryd.tf74, Tryd.tf75, Tryd.tf82, Tryd.tf132, Tryd.call95, Tryd.call96, Tryd.call97, hG, hwm, hwl, hwt, hw1, hk1, hkt, hkl, hkg, hkq, hug, hug2, w_and, w_xor, hf, w_add, hx, hy]))
    | ((with_reducible first | apply W_block | apply W_scope | apply WL_nil | apply W_label | apply W_skip | apply W_exit | apply W_ret | apply popsD_done | exact popsD_stop) <;> try simp only [kks, Nat.reduceAdd, Nat.reduceMul, Nat.reduceSub, Nat.reduceLeDiff, Nat.reduceEqDiff, ↓reduceIte, reduceCtorEq, Nat.reduceLT, Nat.reducePow, Nat.reduceDiv, Nat.reduceMod, Nat.reduceBEq, Int.reduceLT, Int.reduceLE, Int.reduceToNat, Int.reduceAdd, Int.reduceSub, Int.reduceNeg])
    | (with_reducible apply pg <;> (intro hc; (try simp only [hcb, Nat.reduceAdd, Nat.reduceMul, Nat.reduceSub, Nat.reduceLeDiff, Nat.reduceEqDiff, ↓reduceIte, reduceCtorEq, Nat.reduceLT, Nat.reducePow, Nat.reduceDiv, Nat.reduceMod, Nat.reduceBEq, Int.reduceLT, Int.reduceLE, Int.reduceToNat, Int.reduceAdd, Int.reduceSub, Int.reduceNeg, ne_eq, forall_const] at hc); first | (exfalso; omega) | exact absurd trivial hc | skip))
    | (with_reducible apply hnx; clear hnx nx)
    | (with_reducible refine And.intro (by omega) ?_)
    | (with_reducible refine And.intro ?_ ?_)
    | (with_reducible refine pe (m1) ?_)
    | (with_reducible refine pe (m2) ?_)
    | (with_reducible refine pe (m3) ?_)
    | (with_reducible refine pe (m4) ?_)
    | (with_reducible refine pe (m5) ?_)
    | (with_reducible refine pe (m6) ?_)
    | (clear hnx nx; with_reducible apply hnx; clear hnx nx)
    | (clear hnx nx; clear hnx nx; with_reducible apply hnx; clear hnx nx))
      all_goals first
        | (exfalso
           omega)
        | skip
      refine hlp2 _ (64 - (t + 1)) _ (by omega) ?_ ⟨t + 1, X + Y, v0, v1, v2, v3 + X, e0, e1, e2, by omega, rfl, hst, rfl⟩
      refine Wk_fr (by simp only [wkb, Nat.reduceAdd, Nat.reduceMul, Nat.reduceSub, Nat.reduceLeDiff, Nat.reduceEqDiff, ↓reduceIte, reduceCtorEq, Nat.reduceLT, Nat.reducePow, Nat.reduceDiv, Nat.reduceMod, Nat.reduceBEq, Int.reduceLT, Int.reduceLE, Int.reduceToNat, Int.reduceAdd, Int.reduceSub, Int.reduceNeg]) ?_
      exact Sub_refl hnd
    · have ht64 : t = 64 := by omega
      subst ht64
      rw [hrt] at hcomp
      rw [hcomp] at hnxt
      simp only [List.zipWith_cons_cons, List.zipWith_nil_left] at hnxt
      repeat' (first
    | (with_reducible apply W_seq_k; intro nx hnx)
    | (with_reducible first | refine wr 1048573 ?_ | refine wd (id := 7) 1048573 1 (.op 0 true (.op 1 true (.op 2 true (.op 3 true (.op 4 true (.op 5 true (.op 6 true (.op 7 true (.op 8 true (.op 9 true (.op 10 true (.op 11 true (.op 12 true (.op 13 true (.op 14 true (.op 15 true (.op 16 true (.op 17 true (.op 18 true (.op 19 true (.op 20 true (.op 21 true (.op 22 true (.op 23 true (.done))))))))))))))))))))))))) (by kernel_rfl) ?_ | refine wd (id := 11) 1048573 1 (.op 0 true (.op 1 true (.op 3 true (.op 6 true (.op 10 true (.op 11 true (.op 12 true (.op 13 true (.op 14 true (.op 15 true (.op 16 true (.op 17 true (.op 19 true (.op 20 true (.op 21 true (.op 23 true (.op 24 true (.op 25 true (.op 2 true (.op 4 true (.op 5 true (.op 7 true (.op 8 true (.op 9 true (.op 18 true (.op 22 true (.op 26 true (.op 27 true (.done))))))))))))))))))))))))))))) (by kernel_rfl) ?_)
    | ((with_reducible first | (apply WL_op; intro nx hnx) | refine Ev_out ?_ | refine wc ?_ | (apply popsD_op; intro nx hnx) | (refine popsD_alt ?_ ?_; intro nx hnx) | (refine pf hnm fun nm hnm => ?_; try simp only [fmb] at hnm) | (refine pm hnm fun nm hnm => ?_; try simp only [fmb] at hnm)); try (simp (maxSteps := 2000000) (disch := omega) only [ev, ↓evp, PV.cells, PV.one, PV.mem?, Value.cells, Nat.reduceAdd, Nat.reduceMul, Nat.reduceSub, Nat.reduceLeDiff, Nat.reduceEqDiff, ↓reduceIte, reduceCtorEq, Nat.reduceLT, Nat.reducePow, Nat.reduceDiv, Nat.reduceMod, Nat.reduceBEq, Int.reduceLT, Int.reduceLE, Int.reduceToNat, Int.reduceAdd, Int.reduceSub, Int.reduceNeg, hnm, Tryd.tf0, Tryd.tf3, Tryd.tf4, Tryd.tf5, Tryd.tf27, Tryd.tf74, Tryd.tf75, Tryd.tf82, Tryd.tf132, Tryd.call95, Tryd.call96, Tryd.call97, w_add]))
    | ((with_reducible first | apply W_block | apply W_scope | apply WL_nil | apply W_label | apply W_skip | apply W_exit | apply W_ret | apply popsD_done | exact popsD_stop) <;> try simp only [kks, Nat.reduceAdd, Nat.reduceMul, Nat.reduceSub, Nat.reduceLeDiff, Nat.reduceEqDiff, ↓reduceIte, reduceCtorEq, Nat.reduceLT, Nat.reducePow, Nat.reduceDiv, Nat.reduceMod, Nat.reduceBEq, Int.reduceLT, Int.reduceLE, Int.reduceToNat, Int.reduceAdd, Int.reduceSub, Int.reduceNeg])
    | (with_reducible apply pg <;> (intro hc; (try simp only [hcb, Nat.reduceAdd, Nat.reduceMul, Nat.reduceSub, Nat.reduceLeDiff, Nat.reduceEqDiff, ↓reduceIte, reduceCtorEq, Nat.reduceLT, Nat.reducePow, Nat.reduceDiv, Nat.reduceMod, Nat.reduceBEq, Int.reduceLT, Int.reduceLE, Int.reduceToNat, Int.reduceAdd, Int.reduceSub, Int.reduceNeg, ne_eq, forall_const] at hc); first | (exfalso; omega) | exact absurd trivial hc | skip))
    | (with_reducible apply hnx; clear hnx nx)
    | (with_reducible refine And.intro (by omega) ?_)
    | (with_reducible refine And.intro ?_ ?_)
    | (clear hnx nx; with_reducible apply hnx; clear hnx nx)
    | (clear hnx nx; clear hnx nx; with_reducible apply hnx; clear hnx nx))
      all_goals first
        | (exfalso
           omega)
        | skip
      refine hlp _ (n - (i + 1)) _ (by omega) ?_ ⟨i + 1, a + 64, _, _, _, _, _, _, _, _, by omega, by omega, rfl, hnxt, rfl⟩
      refine Wk_fr (by simp only [wkb, Nat.reduceAdd, Nat.reduceMul, Nat.reduceSub, Nat.reduceLeDiff, Nat.reduceEqDiff, ↓reduceIte, reduceCtorEq, Nat.reduceLT, Nat.reducePow, Nat.reduceDiv, Nat.reduceMod, Nat.reduceBEq, Int.reduceLT, Int.reduceLE, Int.reduceToNat, Int.reduceAdd, Int.reduceSub, Int.reduceNeg]) ?_
      exact ⟨by simp, by simp [names, hN1]⟩
  · have hie : i = n := by omega
    subst hie
    repeat' (first
    | (with_reducible apply W_seq_k; intro nx hnx)
    | (with_reducible first | refine wr 1048573 ?_ | refine wd (id := 7) 1048573 1 (.op 0 true (.op 1 true (.op 2 true (.op 3 true (.op 4 true (.op 5 true (.op 6 true (.op 7 true (.op 8 true (.op 9 true (.op 10 true (.op 11 true (.op 12 true (.op 13 true (.op 14 true (.op 15 true (.op 16 true (.op 17 true (.op 18 true (.op 19 true (.op 20 true (.op 21 true (.op 22 true (.op 23 true (.done))))))))))))))))))))))))) (by kernel_rfl) ?_ | refine wd (id := 11) 1048573 1 (.op 0 true (.op 1 true (.op 3 true (.op 6 true (.op 10 true (.op 11 true (.op 12 true (.op 13 true (.op 14 true (.op 15 true (.op 16 true (.op 17 true (.op 19 true (.op 20 true (.op 21 true (.op 23 true (.op 24 true (.op 25 true (.op 2 true (.op 4 true (.op 5 true (.op 7 true (.op 8 true (.op 9 true (.op 18 true (.op 22 true (.op 26 true (.op 27 true (.done))))))))))))))))))))))))))))) (by kernel_rfl) ?_)
    | ((with_reducible first | (apply WL_op; intro nx hnx) | refine Ev_out ?_ | refine wc ?_ | (apply popsD_op; intro nx hnx) | (refine popsD_alt ?_ ?_; intro nx hnx) | (refine pf hnm fun nm hnm => ?_; try simp only [fmb] at hnm) | (refine pm hnm fun nm hnm => ?_; try simp only [fmb] at hnm)); try (simp (maxSteps := 2000000) (disch := omega) only [ev, ↓evp, PV.cells, PV.one, PV.mem?, Value.cells, Nat.reduceAdd, Nat.reduceMul, Nat.reduceSub, Nat.reduceLeDiff, Nat.reduceEqDiff, ↓reduceIte, reduceCtorEq, Nat.reduceLT, Nat.reducePow, Nat.reduceDiv, Nat.reduceMod, Nat.reduceBEq, Int.reduceLT, Int.reduceLE, Int.reduceToNat, Int.reduceAdd, Int.reduceSub, Int.reduceNeg, hnm, Tryd.tf0, Tryd.tf3, Tryd.tf4, Tryd.tf5, Tryd.tf27, Tryd.tf74, Tryd.tf75, Tryd.tf82, Tryd.tf132, Tryd.call95, Tryd.call96, Tryd.call97, hN1, hN4]))
    | ((with_reducible first | apply W_block | apply W_scope | apply WL_nil | apply W_label | apply W_skip | apply W_exit | apply W_ret | apply popsD_done | exact popsD_stop) <;> try simp only [kks, Nat.reduceAdd, Nat.reduceMul, Nat.reduceSub, Nat.reduceLeDiff, Nat.reduceEqDiff, ↓reduceIte, reduceCtorEq, Nat.reduceLT, Nat.reducePow, Nat.reduceDiv, Nat.reduceMod, Nat.reduceBEq, Int.reduceLT, Int.reduceLE, Int.reduceToNat, Int.reduceAdd, Int.reduceSub, Int.reduceNeg])
    | (with_reducible apply pg <;> (intro hc; (try simp only [hcb, Nat.reduceAdd, Nat.reduceMul, Nat.reduceSub, Nat.reduceLeDiff, Nat.reduceEqDiff, ↓reduceIte, reduceCtorEq, Nat.reduceLT, Nat.reducePow, Nat.reduceDiv, Nat.reduceMod, Nat.reduceBEq, Int.reduceLT, Int.reduceLE, Int.reduceToNat, Int.reduceAdd, Int.reduceSub, Int.reduceNeg, ne_eq, forall_const] at hc); first | (exfalso; omega) | exact absurd trivial hc | skip))
    | (with_reducible apply hnx; clear hnx nx)
    | (with_reducible refine And.intro (by omega) ?_)
    | (with_reducible refine And.intro ?_ ?_)
    | (clear hnx nx; with_reducible apply hnx; clear hnx nx)
    | (clear hnx nx; clear hnx nx; with_reducible apply hnx; clear hnx nx))
    all_goals first
      | (exfalso
         omega)
      | skip
    have hS8 := hbl i
    obtain ⟨S, hS⟩ : ∃ S, S = B i := ⟨_, rfl⟩
    have hsm : S.map pw = [pw s0, pw s1, pw s2, pw s3, pw s4, pw s5, pw s6, pw s7] := by rw [hS, hbi]; rfl
    rw [← hS] at hS8 hsha
    rw [← hS, ← hsm]
    have hnd : [nm, N3, N2].Nodup := by simp [hnm, hN1]
    have hsl : (S.map pw).length = 8 := by rw [List.length_map, hS8]
    clear hb0 hbs hbi lp hlp
    refine W_loop_k (fun z τ => ∃ j : Nat, j ≤ 32 ∧ z = 32 - j ∧ τ = ⟨fr 164 [(19, pint .i64 j), (18, .ptr nm 0), (2, .ptr N2 0), (3, .ptr N3 0)], [(nm, ⟨82, false, 0, oC S j⟩), (N3, ⟨75, false, 0, S.map pw⟩), (N2, ⟨82, false, 0, oC S 0⟩)]⟩) 32
      ⟨fr 164 [(19, pint .i64 (0 : Nat)), (18, .ptr nm 0), (2, .ptr N2 0), (3, .ptr N3 0)], [(nm, ⟨82, false, 0, oC S 0⟩), (N3, ⟨75, false, 0, S.map pw⟩), (N2, ⟨82, false, 0, oC S 0⟩)]⟩ (by
      rw [oC_zero]
      refine Wk_fr (by simp only [wkb, Nat.reduceAdd, Nat.reduceMul, Nat.reduceSub, Nat.reduceLeDiff, Nat.reduceEqDiff, ↓reduceIte, reduceCtorEq, Nat.reduceLT, Nat.reducePow, Nat.reduceDiv, Nat.reduceMod, Nat.reduceBEq, Int.reduceLT, Int.reduceLE, Int.reduceToNat, Int.reduceAdd, Int.reduceSub, Int.reduceNeg]) ?_
      exact Sub_refl hnd) ⟨0, by omega, by omega, rfl⟩ ?_
    rintro z τ ⟨j, hj, rfl, rfl⟩ lp hlp
    have hcl := oC_len S j
    have hcl0 := oC_len S 0
    by_cases hj2 : j < 32
    · have td : (j : Int).tdiv 4 = ((j / 4 : Nat) : Int) := by rw [Int.tdiv_eq_ediv_of_nonneg (by omega)]; omega
      have tm : (j : Int).tmod 4 = ((j % 4 : Nat) : Int) := by rw [Int.tmod_eq_emod_of_nonneg (by omega)]; omega
      obtain ⟨x, hx⟩ : ∃ x, x = S.getD (j / 4) 0 := ⟨_, rfl⟩
      have hg : S[j / 4]? = some x := by rw [hx, List.getElem?_eq_getElem (by omega)]; simp [List.getElem?_eq_getElem (show j / 4 < S.length by omega)]
      have hg2 : S[j / 4]'(by omega) = x := by rw [hx]; simp [List.getElem?_eq_getElem (show j / 4 < S.length by omega)]
      have hsh := shr4 x.toNat (24 - 8 * ((j % 4 : Nat) : Int)) (3 - j % 4) (by omega) (by omega)
      have hby := byte_mod (x.toNat / 256 ^ (3 - j % 4))
      have hob : UInt8.ofNat (x.toNat / 256 ^ (3 - j % 4) % 256) = oB S j := by rw [oB, ← hx]
      rw [hob] at hby
      have hset := oC_set S j hj2
      repeat' (first
    | (with_reducible apply W_seq_k; intro nx hnx)
    | (with_reducible first | refine wr 1048573 ?_ | refine wd (id := 7) 1048573 1 (.op 0 true (.op 1 true (.op 2 true (.op 3 true (.op 4 true (.op 5 true (.op 6 true (.op 7 true (.op 8 true (.op 9 true (.op 10 true (.op 11 true (.op 12 true (.op 13 true (.op 14 true (.op 15 true (.op 16 true (.op 17 true (.op 18 true (.op 19 true (.op 20 true (.op 21 true (.op 22 true (.op 23 true (.done))))))))))))))))))))))))) (by kernel_rfl) ?_ | refine wd (id := 11) 1048573 1 (.op 0 true (.op 1 true (.op 3 true (.op 6 true (.op 10 true (.op 11 true (.op 12 true (.op 13 true (.op 14 true (.op 15 true (.op 16 true (.op 17 true (.op 19 true (.op 20 true (.op 21 true (.op 23 true (.op 24 true (.op 25 true (.op 2 true (.op 4 true (.op 5 true (.op 7 true (.op 8 true (.op 9 true (.op 18 true (.op 22 true (.op 26 true (.op 27 true (.done))))))))))))))))))))))))))))) (by kernel_rfl) ?_)
    | ((with_reducible first | (apply WL_op; intro nx hnx) | refine Ev_out ?_ | refine wc ?_ | (apply popsD_op; intro nx hnx) | (refine popsD_alt ?_ ?_; intro nx hnx) | (refine pf hnm fun nm hnm => ?_; try simp only [fmb] at hnm) | (refine pm hnm fun nm hnm => ?_; try simp only [fmb] at hnm)); try (simp (maxSteps := 2000000) (disch := omega) only [ev, ↓evp, PV.cells, PV.one, PV.mem?, Value.cells, Nat.reduceAdd, Nat.reduceMul, Nat.reduceSub, Nat.reduceLeDiff, Nat.reduceEqDiff, ↓reduceIte, reduceCtorEq, Nat.reduceLT, Nat.reducePow, Nat.reduceDiv, Nat.reduceMod, Nat.reduceBEq, Int.reduceLT, Int.reduceLE, Int.reduceToNat, Int.reduceAdd, Int.reduceSub, Int.reduceNeg, hnm, Tryd.tf0, Tryd.tf3, Tryd.tf4, Tryd.tf5, Tryd.tf27, Tryd.tf74, Tryd.tf75, Tryd.tf82, Tryd.tf132, Tryd.call95, Tryd.call96, Tryd.call97, hN1, hN4, td, tm, hcl, hcl0, hsl, hS8, hg, hg2, hsh, hby, hset]))
    | ((with_reducible first | apply W_block | apply W_scope | apply WL_nil | apply W_label | apply W_skip | apply W_exit | apply W_ret | apply popsD_done | exact popsD_stop) <;> try simp only [kks, Nat.reduceAdd, Nat.reduceMul, Nat.reduceSub, Nat.reduceLeDiff, Nat.reduceEqDiff, ↓reduceIte, reduceCtorEq, Nat.reduceLT, Nat.reducePow, Nat.reduceDiv, Nat.reduceMod, Nat.reduceBEq, Int.reduceLT, Int.reduceLE, Int.reduceToNat, Int.reduceAdd, Int.reduceSub, Int.reduceNeg])
    | (with_reducible apply pg <;> (intro hc; (try simp only [hcb, Nat.reduceAdd, Nat.reduceMul, Nat.reduceSub, Nat.reduceLeDiff, Nat.reduceEqDiff, ↓reduceIte, reduceCtorEq, Nat.reduceLT, Nat.reducePow, Nat.reduceDiv, Nat.reduceMod, Nat.reduceBEq, Int.reduceLT, Int.reduceLE, Int.reduceToNat, Int.reduceAdd, Int.reduceSub, Int.reduceNeg, ne_eq, forall_const] at hc); first | (exfalso; omega) | exact absurd trivial hc | skip))
    | (with_reducible apply hnx; clear hnx nx)
    | (with_reducible refine And.intro (by omega) ?_)
    | (with_reducible refine And.intro ?_ ?_)
    | (clear hnx nx; with_reducible apply hnx; clear hnx nx)
    | (clear hnx nx; clear hnx nx; with_reducible apply hnx; clear hnx nx))
      all_goals first
        | (exfalso
           omega)
        | (refine hlp _ (32 - (j + 1)) _ (by omega) ?_ ⟨j + 1, by omega, rfl, rfl⟩
           refine Wk_fr (by simp only [wkb, Nat.reduceAdd, Nat.reduceMul, Nat.reduceSub, Nat.reduceLeDiff, Nat.reduceEqDiff, ↓reduceIte, reduceCtorEq, Nat.reduceLT, Nat.reducePow, Nat.reduceDiv, Nat.reduceMod, Nat.reduceBEq, Int.reduceLT, Int.reduceLE, Int.reduceToNat, Int.reduceAdd, Int.reduceSub, Int.reduceNeg]) ?_
           exact Sub_refl hnd)
    · have hje : j = 32 := by omega
      subst hje
      have hcf := oC_full S
      have hone := all_one_byte (outB S)
      have hol := outB_len S
      have htk : List.take 32 ((outB S).map pbyte) = (outB S).map pbyte := List.take_of_length_le (by simp [hol])
      have hdr : List.drop 32 (oC S 0) = [] := List.drop_of_length_le (by omega)
      rw [hcf]
      repeat' (first
    | (with_reducible apply W_seq_k; intro nx hnx)
    | (with_reducible first | refine wr 1048573 ?_ | refine wd (id := 7) 1048573 1 (.op 0 true (.op 1 true (.op 2 true (.op 3 true (.op 4 true (.op 5 true (.op 6 true (.op 7 true (.op 8 true (.op 9 true (.op 10 true (.op 11 true (.op 12 true (.op 13 true (.op 14 true (.op 15 true (.op 16 true (.op 17 true (.op 18 true (.op 19 true (.op 20 true (.op 21 true (.op 22 true (.op 23 true (.done))))))))))))))))))))))))) (by kernel_rfl) ?_ | refine wd (id := 11) 1048573 1 (.op 0 true (.op 1 true (.op 3 true (.op 6 true (.op 10 true (.op 11 true (.op 12 true (.op 13 true (.op 14 true (.op 15 true (.op 16 true (.op 17 true (.op 19 true (.op 20 true (.op 21 true (.op 23 true (.op 24 true (.op 25 true (.op 2 true (.op 4 true (.op 5 true (.op 7 true (.op 8 true (.op 9 true (.op 18 true (.op 22 true (.op 26 true (.op 27 true (.done))))))))))))))))))))))))))))) (by kernel_rfl) ?_)
    | ((with_reducible first | (apply WL_op; intro nx hnx) | refine Ev_out ?_ | refine wc ?_ | (apply popsD_op; intro nx hnx) | (refine popsD_alt ?_ ?_; intro nx hnx) | (refine pf hnm fun nm hnm => ?_; try simp only [fmb] at hnm) | (refine pm hnm fun nm hnm => ?_; try simp only [fmb] at hnm)); try (simp (maxSteps := 2000000) (disch := omega) only [ev, ↓evp, PV.cells, PV.one, PV.mem?, Value.cells, Nat.reduceAdd, Nat.reduceMul, Nat.reduceSub, Nat.reduceLeDiff, Nat.reduceEqDiff, ↓reduceIte, reduceCtorEq, Nat.reduceLT, Nat.reducePow, Nat.reduceDiv, Nat.reduceMod, Nat.reduceBEq, Int.reduceLT, Int.reduceLE, Int.reduceToNat, Int.reduceAdd, Int.reduceSub, Int.reduceNeg, hnm, Tryd.tf0, Tryd.tf3, Tryd.tf4, Tryd.tf5, Tryd.tf27, Tryd.tf74, Tryd.tf75, Tryd.tf82, Tryd.tf132, Tryd.call95, Tryd.call96, Tryd.call97, hN1, hN4, hol, htk, hone, hcl0, hdr, Nat.min_self]))
    | ((with_reducible first | apply W_block | apply W_scope | apply WL_nil | apply W_label | apply W_skip | apply W_exit | apply W_ret | apply popsD_done | exact popsD_stop) <;> try simp only [kks, Nat.reduceAdd, Nat.reduceMul, Nat.reduceSub, Nat.reduceLeDiff, Nat.reduceEqDiff, ↓reduceIte, reduceCtorEq, Nat.reduceLT, Nat.reducePow, Nat.reduceDiv, Nat.reduceMod, Nat.reduceBEq, Int.reduceLT, Int.reduceLE, Int.reduceToNat, Int.reduceAdd, Int.reduceSub, Int.reduceNeg])
    | (with_reducible apply pg <;> (intro hc; (try simp only [hcb, Nat.reduceAdd, Nat.reduceMul, Nat.reduceSub, Nat.reduceLeDiff, Nat.reduceEqDiff, ↓reduceIte, reduceCtorEq, Nat.reduceLT, Nat.reducePow, Nat.reduceDiv, Nat.reduceMod, Nat.reduceBEq, Int.reduceLT, Int.reduceLE, Int.reduceToNat, Int.reduceAdd, Int.reduceSub, Int.reduceNeg, ne_eq, forall_const] at hc); first | (exfalso; omega) | exact absurd trivial hc | skip))
    | (with_reducible apply hnx; clear hnx nx)
    | (with_reducible refine And.intro (by omega) ?_)
    | (with_reducible refine And.intro ?_ ?_)
    | (clear hnx nx; with_reducible apply hnx; clear hnx nx)
    | (clear hnx nx; clear hnx nx; with_reducible apply hnx; clear hnx nx))
      all_goals first
        | (exfalso
           omega)
        | skip
      refine hfin _ _ (Fin_cell (res := .agg ((outB S).map pbyte)) Tryd.tf82 (n := N2) (off := 0) (o := ⟨82, false, 0, (outB S).map pbyte⟩) (by simp only [fr_getD_cons, Nat.reduceEqDiff, Nat.reduceLT, ↓reduceIte]) (by simp [look, hnm, hN1]) ?_ (Sub_nil _) ⟨by rw [hS], rfl⟩)
      simp [pload, hol, htk, hone]
end Go.PM
