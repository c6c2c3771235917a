/- The pure machine, part x: a state that reads as another one; tables of rows. Conditions: none. -/
import Derived.Test.YtaiflmbhciophaaPmw
set_option linter.unusedSimpArgs false
set_option linter.unusedVariables false
namespace Go.PM
open Go.RowKit

section
variable {P : Program} {G : Globs} {I : List Int} {σ τ υ : PState} {c : Code} {K : Exit → PState → Prop}

/-- What reads as σ also reads as τ. -/
def Wx (G : Globs) (I : List Int) (σ τ : PState) : Prop := ∀ E : Amb, E.I = I → ∀ A a w, Sim G E A σ a w → ∃ A', Sim G E A' τ a w

theorem Wx.refl (σ : PState) : Wx G I σ σ := fun _ _ A _ _ hs => ⟨A, hs⟩
theorem Wx.trans (h : Wx G I σ τ) (k : Wx G I τ υ) : Wx G I σ υ := fun E hE A a w hs => by
  obtain ⟨A', h'⟩ := h E hE A a w hs
  exact k E hE A' a w h'
theorem Wx.of_wk (h : Wk σ τ) : Wx G I σ τ := fun _ _ A _ _ hs => ⟨A, hs.wk h⟩

theorem W_x (h : Wx G I σ τ) (hw : W P G I c τ K) : W P G I c σ K := fun E hE A a w hs Q hq => by
  obtain ⟨A', h'⟩ := h E hE A a w hs
  exact hw E hE A' a w h' Q hq

theorem W_loop_x (R : Nat → PState → Prop) (n0 : Nat) (τ0 : PState) (hw : Wx G I σ τ0) (h0 : R n0 τ0)
    (round : ∀ n τ, R n τ → ∀ lp : PState → Prop, (∀ σ'' n' τ', n' < n → Wx G I σ'' τ' → R n' τ' → lp σ'') → W P G I c τ (seqK lp K)) : W P G I (.loop c) σ K := by
  refine W_x hw (W_loop R n0 h0 fun n σ' hI => ?_)
  intro E hE A a w hs Q hq
  refine round n σ' hI (fun σ'' => ∃ n' τ', n' < n ∧ Wx G I σ'' τ' ∧ R n' τ') (fun σ'' n' τ' h1 h2 h3 => ⟨n', τ', h1, h2, h3⟩) E hE A a w hs Q fun e σ'' a' w' A' hk hs' => ?_
  cases e with
  | normal =>
    obtain ⟨n', τ', hlt, hwx, hI'⟩ := hk
    obtain ⟨A2, hs2⟩ := hwx E hE A' a' w' hs'
    exact hq .normal τ' a' w' A2 ⟨n', hlt, hI'⟩ hs2
  | _ => exact hq _ _ _ _ _ hk hs'

theorem Wx.freeze {n : Int} {o : PObj} (hI : n ∉ I) (hl : look σ.heap n = some o) (hone : frzOk n o.cells σ.heap) : Wx G I σ ⟨σ.frame.map (frz n o.cells), frzH n o.cells σ.heap⟩ :=
  fun _ hE _ _ _ hs => ⟨_, hs.freeze (by rw [hE]; exact hI) hl hone⟩

theorem fr_map (n : Nat) (f : PV → PV) (hf : f .junk = .junk) : ∀ l : List (Nat × PV), (fr n l).map f = fr n (l.map fun x => (x.1, f x.2))
  | [] => by
    unfold fr
    simp [hf]
  | (i, v) :: l => by
    have := fr_map n f hf l
    rw [List.map_cons, ← fr_set, ← fr_set, ← this, List.map_set]

theorem Wx.freeze_f {N : Nat} {l : List (Nat × PV)} {H : Heap} (n : Int) {o : PObj} (hI : n ∉ I) (hl : look H n = some o) (hone : frzOk n o.cells H) :
    Wx G I ⟨fr N l, H⟩ ⟨fr N (l.map fun x => (x.1, frz n o.cells x.2)), frzH n o.cells H⟩ := by
  have := Wx.freeze (G := G) (σ := ⟨fr N l, H⟩) hI hl hone
  rwa [fr_map N _ (by simp [frz, frz1])] at this

/-- What reads as σ reads as one of T. -/
def Wxs (G : Globs) (I : List Int) (σ : PState) (T : PState → Prop) : Prop := ∀ E : Amb, E.I = I → ∀ A a w, Sim G E A σ a w → ∃ A' τ, T τ ∧ Sim G E A' τ a w

theorem Wxs.of {T : PState → Prop} (h : Wx G I σ τ) (ht : T τ) : Wxs G I σ T := fun E hE A a w hs => by
  obtain ⟨A', h'⟩ := h E hE A a w hs
  exact ⟨A', τ, ht, h'⟩
theorem Wxs.wx {T : PState → Prop} (h : Wx G I σ τ) (k : Wxs G I τ T) : Wxs G I σ T := fun E hE A a w hs => by
  obtain ⟨A', h'⟩ := h E hE A a w hs
  exact k E hE A' a w h'

theorem W_loop_xs (R : Nat → PState → Prop) (n0 : Nat) (τ0 : PState) (hw : Wx G I σ τ0) (h0 : R n0 τ0)
    (round : ∀ n τ, R n τ → ∀ lp : PState → Prop, (∀ σ'' n', n' < n → Wxs G I σ'' (R n') → lp σ'') → W P G I c τ (seqK lp K)) : W P G I (.loop c) σ K := by
  refine W_x hw (W_loop R n0 h0 fun n σ' hI => ?_)
  intro E hE A a w hs Q hq
  refine round n σ' hI (fun σ'' => ∃ n', n' < n ∧ Wxs G I σ'' (R n')) (fun σ'' n' h1 h2 => ⟨n', h1, h2⟩) E hE A a w hs Q fun e σ'' a' w' A' hk hs' => ?_
  cases e with
  | normal =>
    obtain ⟨n', hlt, hwx⟩ := hk
    obtain ⟨A2, τ', hI', hs2⟩ := hwx E hE A' a' w' hs'
    exact hq .normal τ' a' w' A2 ⟨n', hlt, hI'⟩ hs2
  | _ => exact hq _ _ _ _ _ hk hs'

/-- A nil slice in a cell becomes an empty row. -/
theorem Wxs.adopt_c {T : PState → Prop} (m : Int) (j : Nat) (e : TypeId) (es : Nat) {o : PObj} (hl : look σ.heap m = some o) (hj : o.cells[j]? = some pnil)
    (h : ∀ n : Int, n ∉ names σ.heap → Wxs G I ⟨σ.frame, (n, ⟨e, true, es, []⟩) :: upd σ.heap m { o with cells := o.cells.set j (.row n es 0) }⟩ T) : Wxs G I σ T := by
  intro E hE A a w hs
  obtain ⟨n, hneg, hnot, hs0⟩ := hs.adopt e es
  refine h n hnot E hE A a w ?_
  have hnd : (names σ.heap).Nodup := hs.nodup
  refine ⟨hs0.ext, hs0.lt, hs0.a0, hs0.a1, hs0.globs, ?_, fun k q hk => ?_, fun k q hk => ?_, fun k q hk => ?_, hs0.defers, hs0.size, hs0.frame⟩
  · show (n :: names (upd σ.heap m _)).Nodup
    rw [names_upd]
    exact List.nodup_cons.2 ⟨hnot, hnd⟩
  · rcases List.mem_cons.1 hk with e1 | hk
    · exact hs0.objs k q (e1 ▸ List.mem_cons_self)
    · rcases mem_upd hnd hk with ⟨rfl, rfl⟩ | ⟨_, hk⟩
      · rcases hs.objs k o (look_mem hl) with ⟨_, _, g3⟩ | ⟨b, cur, fz, f, rfl, q1, q2, q3, q4⟩
        · rw [g3] at hj
          cases hj
        · refine .inr ⟨b, cur, fz, f, rfl, q1, q2, q3, fun i u hu => ?_⟩
          simp only [List.getElem?_set] at hu
          split at hu
          · rename_i hij
            subst hij
            split at hu
            · cases hu
              obtain ⟨g1, g2, g3⟩ := q4 _ _ hj
              refine ⟨g1, rfl, ?_⟩
              rw [g3.val_eq]
              exact .rownil n es hneg
            · cases hu
          · exact q4 i u hu
      · exact hs.objs k q hk
  · rcases List.mem_cons.1 hk with e1 | hk
    · exact hs0.own k q (e1 ▸ List.mem_cons_self)
    · rcases mem_upd hnd hk with ⟨rfl, rfl⟩ | ⟨_, hk⟩
      · exact hs.own k o (look_mem hl)
      · exact hs.own k q hk
  · rcases List.mem_cons.1 hk with e1 | hk
    · exact hs0.neg k q (e1 ▸ List.mem_cons_self)
    · rcases mem_upd hnd hk with ⟨rfl, rfl⟩ | ⟨_, hk⟩
      · exact hs.neg k o (look_mem hl)
      · exact hs.neg k q hk

/-- What reads as the result p, with the heap H, also reads as p' with H'. -/
def Px (G : Globs) (p : PV) (H : Heap) (p' : PV) (H' : Heap) : Prop :=
  ∀ E : Amb, E.I = [] → ∀ A a w v, Sim G E A ⟨[], H⟩ a w → Rep w A p v → ∃ A', Sim G E A' ⟨[], H'⟩ a w ∧ Rep w A' p' v

theorem Px.refl (p : PV) (H : Heap) : Px G p H p H := fun _ _ A _ _ _ hs hr => ⟨A, hs, hr⟩
theorem Px.trans {p p' p'' : PV} {H H' H'' : Heap} (h : Px G p H p' H') (k : Px G p' H' p'' H'') : Px G p H p'' H'' := fun E hE A a w v hs hr => by
  obtain ⟨A', h1, h2⟩ := h E hE A a w v hs hr
  exact k E hE A' a w v h1 h2
theorem Px.freeze (p : PV) (H : Heap) (n : Int) {o : PObj} (hl : look H n = some o) (hone : frzOk n o.cells H) : Px G p H (frz n o.cells p) (frzH n o.cells H) :=
  fun E hE A a w v hs hr => Sim.frz (A' := A) (.step n o hl hone (.refl _ _)) hE hs hr
theorem Px.sub (p : PV) {H H1 : Heap} (h : Sub H1 H) : Px G p H p H1 := fun E hE A a w v hs hr => Sim.frz (A' := A) (.sub h (.refl _ _)) hE hs hr

theorem nil_list {w : World} {A : Nat → Prop} {v : Value} (es : Nat) (h : Rep w A pnil v) : Rep w A (.list es []) v := by
  rw [h.val_eq]
  exact .nil es _ _
theorem Px.nil (es : Nat) (H : Heap) : Px G pnil H (.list es []) H := fun _ _ A _ _ _ hs hr => ⟨A, hs, nil_list es hr⟩
theorem Px.nil2 (es : Nat) (q : PV) (H : Heap) : Px G (.tuple [pnil, q]) H (.tuple [.list es [], q]) H := fun _ _ A _ w v hs hr => by
  refine ⟨A, hs, ?_⟩
  cases hr with
  | tuple cs f h2 =>
    refine .tuple [.list es [], q] f fun j u hu => ?_
    cases j with
    | zero =>
      cases hu
      exact nil_list es (h2 0 pnil rfl)
    | succ j => exact h2 (j + 1) u hu

theorem Wx.nil_f {N i : Nat} {l : List (Nat × PV)} {H : Heap} (es : Nat) (hi : (fr N l).getD i .junk = pnil) : Wx G I ⟨fr N l, H⟩ ⟨fr N ((i, .list es []) :: l), H⟩ := by
  intro E hE A a w hs
  obtain ⟨v, hv, hr⟩ := hs.frame i _ (fr_get _ _ _ _ hi (by simp [pnil]))
  have := put_same hs hv (nil_list es hr)
  refine ⟨A, ?_⟩
  simpa only [PState.put, fr_set] using this

theorem PCalls.px {f : FuncId} {args : List PV} {R R' : PV → Heap → Prop} (h : PCalls P G f args [] R) (hr : ∀ res H, R res H → ∃ res' H', Px G res H res' H' ∧ R' res' H') : PCalls P G f args [] R' := by
  intro w A F vals h1 h2 h3 h4 h5 h6 h7
  refine (h w A F vals h1 h2 h3 h4 h5 h6 h7).mono ?_
  rintro e w' ⟨v, A', res, Hout, he, hR, hrep, hs⟩
  obtain ⟨res', H', hf, hR'⟩ := hr _ _ hR
  obtain ⟨A2, hs2, hrep2⟩ := hf _ rfl _ _ _ _ hs hrep
  exact ⟨v, A2, res', H', he, hR', hrep2, hs2⟩

/-- The piece of code at a path. -/
def nav : Code → List Nat → Code
  | c, [] => c
  | .seq x _, 0 :: r => nav x r
  | .seq _ y, _ :: r => nav y r
  | .block _ c, _ :: r => nav c r
  | .loop c, _ :: r => nav c r
  | .cond _ x _, 0 :: r => nav x r
  | .cond _ _ y, _ :: r => nav y r
  | c, _ => c

/-- A list by its places. -/
def tab (k : Nat) (f : Nat → PV) : List PV := (List.range k).map f

theorem tab_len (k : Nat) (f : Nat → PV) : (tab k f).length = k := by simp [tab]
theorem tab_get {k i : Nat} {f : Nat → PV} (h : i < k) : (tab k f)[i]? = some (f i) := by simp [tab, h]
theorem tab_getD {k i : Nat} {f : Nat → PV} (h : i < k) : (tab k f).getD i .junk = f i := by simp [tab, h]
theorem tab_congr {k : Nat} {f g : Nat → PV} (h : ∀ i, i < k → f i = g i) : tab k f = tab k g := by
  unfold tab
  exact List.map_congr_left fun i hi => h i (List.mem_range.1 hi)
theorem tab_set {k i : Nat} {f : Nat → PV} {v : PV} (h : i < k) : List.take i (tab k f) ++ [v] ++ List.drop (i + 1) (tab k f) = tab k (fun j => if j = i then v else f j) := by
  refine List.ext_getElem? fun j => ?_
  rcases Nat.lt_trichotomy j i with h1 | h1 | h1
  · have h2 : j < (tab k f).length := by rw [tab_len]; omega
    simp only [List.append_assoc]
    rw [List.getElem?_append_left (by rw [List.length_take, tab_len]; omega), List.getElem?_take_of_lt h1, tab_get (by omega), tab_get (by omega), if_neg (by omega)]
  · subst h1
    simp only [List.append_assoc]
    rw [List.getElem?_append_right (by rw [List.length_take, tab_len]; omega), tab_get h, if_pos rfl, List.length_take, tab_len, show j - min j k = 0 by omega]
    rfl
  · rw [List.getElem?_append_right (by rw [List.length_append, List.length_take, tab_len]; simp; omega), List.getElem?_drop, List.length_append, List.length_take, tab_len, List.length_singleton]
    rw [show i + 1 + (j - (min i k + 1)) = j by omega]
    by_cases hk : j < k
    · rw [tab_get hk, tab_get hk, if_neg (by omega)]
    · rw [List.getElem?_eq_none (by rw [tab_len]; omega), List.getElem?_eq_none (by rw [tab_len]; omega)]
theorem tab_set1 {k i : Nat} {f : Nat → PV} {v : PV} (h : i < k) : List.take i (tab k f) ++ v :: List.drop (i + 1) (tab k f) = tab k (fun j => if j = i then v else f j) := by
  rw [← tab_set h]
  simp
theorem tab_push (k : Nat) (f : Nat → PV) : tab k f ++ [f k] = tab (k + 1) f := by simp [tab, List.range_succ]
theorem tab_rep (k : Nat) (v : PV) : v :: (List.replicate k [v]).flatten = tab (k + 1) (fun _ => v) := by
  have : ∀ k : Nat, (List.replicate k [v]).flatten = List.replicate k v := fun k => by
    induction k with
    | zero => rfl
    | succ k ih => rw [List.replicate_succ, List.flatten_cons, ih]; rfl
  rw [this]
  simp only [tab, List.map_const', List.length_range]
  rfl
theorem tab_mem {k : Nat} {f : Nat → PV} {p : PV} : p ∈ tab k f ↔ ∃ i, i < k ∧ f i = p := by simp [tab]
theorem tab_map (k : Nat) (f : Nat → PV) (g : PV → PV) : (tab k f).map g = tab k (fun i => g (f i)) := by simp [tab, Function.comp_def]

/-- Rows, one for each number below k. -/
def rowsH (ty : TypeId) (nms : Nat → Int) (cont : Nat → List PV) : Nat → Heap
  | 0 => []
  | k + 1 => (nms k, ⟨ty, true, 1, cont k⟩) :: rowsH ty nms cont k

def Inj (nms : Nat → Int) (k : Nat) : Prop := ∀ i j, i < k → j < k → nms i = nms j → i = j


/-- Only the slots of the mask m are kept. -/
def prune (m : Nat) : List (Nat × PV) → List (Nat × PV)
  | [] => []
  | (i, v) :: l => bif m / 2 ^ i % 2 == 1 then (i, v) :: prune m l else prune m l

theorem prune_nil (m : Nat) : prune m [] = [] := rfl
theorem prune_cons (m i : Nat) (v : PV) (l : List (Nat × PV)) : prune m ((i, v) :: l) = bif m / 2 ^ i % 2 == 1 then (i, v) :: prune m l else prune m l := rfl

theorem prune_not {n m j : Nat} (h : (m / 2 ^ j % 2 == 1) = false) : ∀ l : List (Nat × PV), (fr n (prune m l)).getD j .junk = .junk
  | [] => fr_getD_nil _ _
  | (i, v) :: l => by
    rw [prune_cons]
    cases hb : (m / 2 ^ i % 2 == 1) with
    | true =>
      rw [cond_true, fr_getD_cons, if_neg (by rintro rfl; rw [hb] at h; cases h)]
      exact prune_not h l
    | false =>
      rw [cond_false]
      exact prune_not h l

theorem prune_get (n m j : Nat) : ∀ l : List (Nat × PV), (fr n (prune m l)).getD j .junk = .junk ∨ (fr n (prune m l)).getD j .junk = (fr n l).getD j .junk
  | [] => .inr rfl
  | (i, v) :: l => by
    rw [prune_cons]
    cases hb : (m / 2 ^ i % 2 == 1) with
    | true =>
      rw [cond_true, fr_getD_cons, fr_getD_cons]
      by_cases h : i = j
      · rw [if_pos h, if_pos h]
        exact .inr rfl
      · rw [if_neg h, if_neg h]
        exact prune_get n m j l
    | false =>
      rw [cond_false, fr_getD_cons]
      by_cases h : i = j
      · subst h
        exact .inl (prune_not hb l)
      · rw [if_neg h]
        exact prune_get n m j l

theorem W_prune {N id : Nat} {ops : Array Oper} {d : Bool} {l : List (Nat × PV)} {H : Heap} (m : Nat) (h : W P G I (.region id ops d) ⟨fr N (prune m l), H⟩ K) : W P G I (.region id ops d) ⟨fr N l, H⟩ K := by
  intro E hE A a w hs Q hq
  exact h E hE A a w (hs.wk ⟨wkF_of _ _ (by rw [fr_length, fr_length]) fun i => by
    rcases prune_get N m i l with e | e
    · exact .inl e
    · exact .inr e.symm, fun x hx => hx, hs.nodup⟩) Q hq

variable {ty : TypeId} {nms : Nat → Int} {cont : Nat → List PV}

theorem rowsH_succ (k : Nat) : rowsH ty nms cont (k + 1) = (nms k, ⟨ty, true, 1, cont k⟩) :: rowsH ty nms cont k := rfl
theorem rowsH_zero : rowsH ty nms cont 0 = [] := rfl
theorem tab_zero (f : Nat → PV) : tab 0 f = [] := rfl
/-- one more name -/
theorem Inj.more {k : Nat} {n : Int} (h : Inj nms k) (hn : ∀ j, j < k → nms j ≠ n) : Inj (fun j => if j = k then n else nms j) (k + 1) := by
  intro p q hp hq e
  simp only at e
  split at e
  · split at e
    · omega
    · exact absurd e.symm (hn q (by omega))
  · split at e
    · exact absurd e (hn p (by omega))
    · exact h p q (by omega) (by omega) e

theorem rowsH_names {k : Nat} {n : Int} : n ∈ names (rowsH ty nms cont k) ↔ ∃ i, i < k ∧ nms i = n := by
  induction k with
  | zero => simp [rowsH, names]
  | succ k ih =>
    simp only [rowsH, names, List.map_cons, List.mem_cons] at ih ⊢
    rw [ih]
    constructor
    · rintro (rfl | ⟨i, h1, h2⟩)
      · exact ⟨k, by omega, rfl⟩
      · exact ⟨i, by omega, h2⟩
    · rintro ⟨i, h1, h2⟩
      by_cases e : i = k
      · subst e
        exact .inl h2.symm
      · exact .inr ⟨i, by omega, h2⟩
theorem rowsH_nodup {k : Nat} (h : Inj nms k) : (names (rowsH ty nms cont k)).Nodup := by
  induction k with
  | zero => simp [rowsH, names]
  | succ k ih =>
    have h1 := ih fun i j hi hj e => h i j (by omega) (by omega) e
    show (nms k :: names (rowsH ty nms cont k)).Nodup
    refine List.nodup_cons.2 ⟨fun hm => ?_, h1⟩
    obtain ⟨i, hi, e⟩ := rowsH_names.1 hm
    have := h i k (by omega) (by omega) e
    omega
theorem rowsH_congr {nms' : Nat → Int} {cont' : Nat → List PV} {k : Nat} (h : ∀ i, i < k → nms i = nms' i ∧ cont i = cont' i) : rowsH ty nms cont k = rowsH ty nms' cont' k := by
  induction k with
  | zero => rfl
  | succ k ih => rw [rowsH, rowsH, ih fun i hi => h i (by omega), (h k (by omega)).1, (h k (by omega)).2]
theorem look_rowsH {k i : Nat} (h : Inj nms k) (hi : i < k) : look (rowsH ty nms cont k) (nms i) = some ⟨ty, true, 1, cont i⟩ := by
  induction k with
  | zero => omega
  | succ k ih =>
    simp only [rowsH, look]
    split
    · rename_i e
      rw [h k i (by omega) hi e]
    · rename_i e
      have : i ≠ k := fun e' => e (by rw [e'])
      exact ih (fun i j hi hj e => h i j (by omega) (by omega) e) (by omega)
theorem upd_rowsH {k i : Nat} {cs : List PV} (h : Inj nms k) (hi : i < k) : upd (rowsH ty nms cont k) (nms i) ⟨ty, true, 1, cs⟩ = rowsH ty nms (fun j => if j = i then cs else cont j) k := by
  induction k with
  | zero => omega
  | succ k ih =>
    simp only [rowsH, upd]
    split
    · rename_i e
      have := h k i (by omega) hi e
      subst this
      rw [if_pos rfl, rowsH_congr (nms' := nms) (cont' := fun j => if j = k then cs else cont j) fun j hj => ⟨rfl, by rw [if_neg (by omega)]⟩]
    · rename_i e
      have hik : i ≠ k := fun e' => e (by rw [e'])
      rw [ih (fun i j hi hj e => h i j (by omega) (by omega) e) (by omega), if_neg (by omega)]
theorem del_rowsH_not {k : Nat} {n : Int} (h : ∀ i, i < k → nms i ≠ n) : del (rowsH ty nms cont k) n = rowsH ty nms cont k := by
  induction k with
  | zero => rfl
  | succ k ih =>
    simp only [rowsH, del]
    rw [if_neg (h k (by omega)), ih fun i hi => h i (by omega)]
theorem look_rowsH_not {k : Nat} {n : Int} (h : ∀ i, i < k → nms i ≠ n) : look (rowsH ty nms cont k) n = none := by
  induction k with
  | zero => rfl
  | succ k ih =>
    simp only [rowsH, look]
    rw [if_neg (h k (by omega)), ih fun i hi => h i (by omega)]

/-- Values in which no object of one's own is named. -/
def stab : PV → Bool
  | .val _ | .list _ _ | .full _ _ | .iptr _ _ | .junk => true
  | _ => false
theorem stab_frz {p : PV} (h : stab p = true) (n : Int) (cs : List PV) : frz n cs p = p ∧ frz1 n cs p = p := by
  cases p <;> first | exact ⟨rfl, rfl⟩ | (simp [stab] at h)

theorem map_frzH_rowsH {k : Nat} {n : Int} {cs : List PV} (hs : ∀ i, i < k → ∀ p ∈ cont i, stab p = true) :
    (rowsH ty nms cont k).map (fun x => (x.1, { x.2 with cells := x.2.cells.map (frz1 n cs) })) = rowsH ty nms cont k := by
  induction k with
  | zero => rfl
  | succ k ih =>
    simp only [rowsH, List.map_cons]
    rw [ih fun i hi => hs i (by omega)]
    have : (cont k).map (frz1 n cs) = cont k := by
      conv => rhs; rw [← List.map_id (cont k)]
      exact List.map_congr_left fun p hp => (stab_frz (hs k (by omega) p hp) n cs).2
    rw [this]

theorem table_ind {T : Int} {ty' : TypeId} {w k : Nat} (Q : PV → Heap → Prop)
    (step : ∀ p H n o, look H n = some o → frzOk n o.cells H → Q (frz n o.cells p) (frzH n o.cells H) → Q p H)
    (hi : Inj nms k) (hT : ∀ i, i < k → nms i ≠ T) (hw : ∀ i, i < k → (cont i).length = w) (hst : ∀ i, i < k → ∀ p ∈ cont i, stab p = true) (ho : ∀ i, i < k → ∀ p ∈ cont i, p.one = true)
    (h : Q (.list 1 (tab k fun i => .list 1 (cont i))) []) : Q (.row T 1 k) ((T, ⟨ty', true, 1, tab k fun i => .row (nms i) 1 w⟩) :: rowsH ty nms cont k) := by
  have main : ∀ j, j ≤ k → Q (.row T 1 k) ((T, ⟨ty', true, 1, tab k fun i => if i < j then .row (nms i) 1 w else .list 1 (cont i)⟩) :: rowsH ty nms cont j) := by
    intro j
    induction j with
    | zero =>
      intro _
      refine step _ _ T ⟨ty', true, 1, tab k fun i => if i < 0 then .row (nms i) 1 w else .list 1 (cont i)⟩ (by simp [look]) (by simp [frzOk, del, rowsH]) ?_
      have e : tab k (fun i => if i < 0 then .row (nms i) 1 w else .list 1 (cont i)) = tab k fun i => .list 1 (cont i) := tab_congr fun i _ => by rw [if_neg (by omega)]
      simp only [e]
      have e1 : frz T (tab k fun i => .list 1 (cont i)) (.row T 1 k) = .list 1 (tab k fun i => .list 1 (cont i)) := by
        simp only [frz, frz1, if_true, elemsOf]
        rw [if_pos (by rw [tab_len]; omega), List.take_of_length_le (by rw [tab_len]; omega)]
      rw [e1]
      simpa [frzH, del, rowsH] using h
    | succ j ih =>
      intro hj
      have hij : Inj nms j := fun a b ha hb e => hi a b (by omega) (by omega) e
      have hl : look ((T, ⟨ty', true, 1, tab k fun i => if i < j + 1 then .row (nms i) 1 w else .list 1 (cont i)⟩) :: rowsH ty nms cont (j + 1)) (nms j) = some ⟨ty, true, 1, cont j⟩ := by
        simp only [look]
        rw [if_neg fun e => hT j (by omega) e.symm]
        exact look_rowsH (fun a b ha hb e => hi a b (by omega) (by omega) e) (by omega)
      have hd : del ((T, ⟨ty', true, 1, tab k fun i => if i < j + 1 then .row (nms i) 1 w else .list 1 (cont i)⟩) :: rowsH ty nms cont (j + 1)) (nms j) =
          (T, ⟨ty', true, 1, tab k fun i => if i < j + 1 then .row (nms i) 1 w else .list 1 (cont i)⟩) :: rowsH ty nms cont j := by
        simp only [del]
        rw [if_neg fun e => hT j (by omega) e.symm]
        simp only [rowsH, del, if_true]
      have hmap : (tab k fun i => if i < j + 1 then PV.row (nms i) 1 w else .list 1 (cont i)).map (frz1 (nms j) (cont j)) = tab k fun i => if i < j then .row (nms i) 1 w else .list 1 (cont i) := by
        rw [tab_map]
        refine tab_congr fun i hik => ?_
        by_cases h1 : i < j
        · rw [if_pos (by omega), if_pos h1]
          simp only [frz1]
          rw [if_neg fun e => by have := hi i j hik (by omega) e; omega]
        · rw [if_neg h1]
          by_cases h2 : i = j
          · subst h2
            rw [if_pos (by omega)]
            simp only [frz1, if_true, elemsOf]
            rw [if_pos (by rw [hw i hik]; omega), List.take_of_length_le (by rw [hw i hik]; omega)]
          · rw [if_neg (by omega)]
            rfl
      refine step _ _ (nms j) ⟨ty, true, 1, cont j⟩ hl ?_ ?_
      · intro x hx u hu
        rw [hd] at hx
        rcases List.mem_cons.1 hx with rfl | hx
        · have hu' : frz1 (nms j) (cont j) u ∈ (tab k fun i => if i < j + 1 then PV.row (nms i) 1 w else .list 1 (cont i)).map (frz1 (nms j) (cont j)) := List.mem_map_of_mem hu
          rw [hmap] at hu'
          obtain ⟨i, _, e⟩ := tab_mem.1 hu'
          rw [← e]
          split <;> rfl
        · have hx' : x ∈ (rowsH ty nms cont j).map (fun x => (x.1, { x.2 with cells := x.2.cells.map (frz1 (nms j) (cont j)) })) := by
            rw [map_frzH_rowsH fun i hi' => hst i (by omega)]
            exact hx
          have : ∀ m, m ≤ j → ∀ x ∈ rowsH ty nms cont m, ∀ u ∈ x.2.cells, stab u = true ∧ u.one = true := by
            intro m
            induction m with
            | zero => intro _ x hx; cases hx
            | succ m ihm =>
              intro hm x hx u hu
              rcases List.mem_cons.1 hx with rfl | hx
              · exact ⟨hst m (by omega) u hu, ho m (by omega) u hu⟩
              · exact ihm (by omega) x hx u hu
          have hq := this j (Nat.le_refl _) x hx u hu
          rw [(stab_frz hq.1 _ _).2]
          exact hq.2
      · simp only [frzH, hd, List.map_cons]
        rw [map_frzH_rowsH fun i hi' => hst i (by omega), hmap]
        have e1 : frz (nms j) (cont j) (.row T 1 k) = .row T 1 k := by
          simp only [frz, frz1]
          rw [if_neg fun e => hT j (by omega) e.symm]
        rw [e1]
        exact ih (by omega)
  have hk := main k (Nat.le_refl _)
  rwa [show (tab k fun i => if i < k then PV.row (nms i) 1 w else .list 1 (cont i)) = tab k fun i => .row (nms i) 1 w from tab_congr fun i hi' => by rw [if_pos hi']] at hk

theorem Px_table {T : Int} {ty' : TypeId} {w k : Nat}
    (hi : Inj nms k) (hT : ∀ i, i < k → nms i ≠ T) (hw : ∀ i, i < k → (cont i).length = w) (hst : ∀ i, i < k → ∀ p ∈ cont i, stab p = true) (ho : ∀ i, i < k → ∀ p ∈ cont i, p.one = true) :
    Px G (.row T 1 k) ((T, ⟨ty', true, 1, tab k fun i => .row (nms i) 1 w⟩) :: rowsH ty nms cont k) (.list 1 (tab k fun i => .list 1 (cont i))) [] :=
  table_ind (fun p H => Px G p H (.list 1 (tab k fun i => .list 1 (cont i))) []) (fun p H n _ hl hone hq => (Px.freeze p H n hl hone).trans hq) hi hT hw hst ho (.refl _ _)

theorem Wx_table {N s : Nat} {l : List (Nat × PV)} {T : Int} {ty' : TypeId} {w k : Nat} (hl : ∀ x ∈ l, stab x.2 = true)
    (hi : Inj nms k) (hT : ∀ i, i < k → nms i ≠ T) (hw : ∀ i, i < k → (cont i).length = w) (hst : ∀ i, i < k → ∀ p ∈ cont i, stab p = true) (ho : ∀ i, i < k → ∀ p ∈ cont i, p.one = true) :
    Wx G [] ⟨fr N ((s, .row T 1 k) :: l), (T, ⟨ty', true, 1, tab k fun i => .row (nms i) 1 w⟩) :: rowsH ty nms cont k⟩ ⟨fr N ((s, .list 1 (tab k fun i => .list 1 (cont i))) :: l), []⟩ :=
  table_ind (fun p H => Wx G [] ⟨fr N ((s, p) :: l), H⟩ ⟨fr N ((s, .list 1 (tab k fun i => .list 1 (cont i))) :: l), []⟩) (fun p H n o hl' hone hq => by
    have h1 := Wx.freeze_f (G := G) (I := []) (N := N) (l := (s, p) :: l) n (by simp) hl' hone
    have e : ((s, p) :: l).map (fun x => (x.1, frz n o.cells x.2)) = (s, frz n o.cells p) :: l := by
      rw [List.map_cons]
      congr 1
      conv => rhs; rw [← List.map_id l]
      exact List.map_congr_left fun x hx => by rw [(stab_frz (hl x hx) _ _).1]; rfl
    rw [e] at h1
    exact h1.trans hq) hi hT hw hst ho (.refl _)
end
attribute [irreducible] tab rowsH
end Go.PM
