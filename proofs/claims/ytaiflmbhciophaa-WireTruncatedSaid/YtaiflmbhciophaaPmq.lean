/- The pure machine, part q: forgetting, loops, cuts; a nil slice taken for a row, a row that is turned no more. Conditions: none. -/
import Derived.Test.YtaiflmbhciophaaPmp
set_option linter.unusedSimpArgs false
set_option linter.unusedVariables false
namespace Go.PM
open Go.RowKit

/-- A frame: n slots, of which some hold something. -/
def mkf (n : Nat) (l : List (Nat × PV)) : List PV := l.foldl (fun f x => f.set x.1 x.2) (List.replicate n .junk)

/-- The second frame forgets. -/
def wkF : List PV → List PV → Prop
  | [], [] => True
  | p :: r, p' :: r' => (p' = .junk ∨ p' = p) ∧ wkF r r'
  | _, _ => False

def Wk (σ τ : PState) : Prop := wkF σ.frame τ.frame ∧ Sub τ.heap σ.heap

theorem wkF_get : ∀ (l l' : List PV), wkF l l' → l.length = l'.length ∧ ∀ (i : Nat) (p : PV), l'[i]? = some p → p = .junk ∨ l[i]? = some p
  | [], [], _ => ⟨rfl, by simp⟩
  | p :: r, p' :: r', h => by
    obtain ⟨h1, h2⟩ := wkF_get r r' h.2
    refine ⟨by simp [h1], fun i q hq => ?_⟩
    cases i with
    | zero =>
      simp at hq
      subst hq
      rcases h.1 with e | e
      · exact .inl e
      · exact .inr (by simp [e])
    | succ i => simpa using h2 i q (by simpa using hq)
  | [], _ :: _, h => h.elim
  | _ :: _, [], h => h.elim

theorem wkF_refl : ∀ l : List PV, wkF l l
  | [] => trivial
  | _ :: r => ⟨.inr rfl, wkF_refl r⟩

section
variable {P : Program} {G : Globs} {E : Amb} {A : Nat → Prop} {σ τ : PState} {a : Act} {w : World} {c x y : Code} {K : Exit → PState → Prop} {I : List Int}

theorem Sim.wk (hs : Sim G E A σ a w) (h : Wk σ τ) : Sim G E A τ a w := by
  obtain ⟨h1, h2⟩ := wkF_get _ _ h.1
  have h3 := hs.sub h.2
  refine ⟨h3.ext, h3.lt, h3.a0, h3.a1, h3.globs, h3.nodup, h3.objs, h3.own, h3.neg, h3.defers, by rw [hs.size, h1], fun i p hp => ?_⟩
  rcases h2 i p hp with rfl | h
  · have hi : i < τ.frame.length := (List.getElem?_eq_some_iff.1 hp).1
    have : i < a.tmps.size := by rw [hs.size, h1]; exact hi
    exact ⟨a.tmps[i], by simp [this], .junk _⟩
  · exact hs.frame i p h

theorem W_wk (h : Wk σ τ) (hw : W P G I c τ K) : W P G I c σ K := fun E hE A a w hs Q hq => hw E hE A a w (hs.wk h) Q hq

theorem W_loopW (R : Nat → PState → Prop) (n0 : Nat) (τ0 : PState) (hw : Wk σ τ0) (h0 : R n0 τ0)
    (round : ∀ n τ, R n τ → W P G I c τ (seqK (fun σ'' => ∃ n' τ', n' < n ∧ Wk σ'' τ' ∧ R n' τ') K)) : W P G I (.loop c) σ K := by
  refine W_wk hw (W_loop R n0 h0 fun n σ' hI => ?_)
  intro E hE A a w hs Q hq
  refine round n σ' hI E hE A a w hs Q fun e σ'' a' w' A' hk hs' => ?_
  cases e with
  | normal =>
    obtain ⟨n', τ', hlt, hwk, hI'⟩ := hk
    exact hq .normal τ' a' w' A' ⟨n', hlt, hI'⟩ (hs'.wk hwk)
  | _ => exact hq _ _ _ _ _ hk hs'

/-- a cut: behind x only J is known -/
theorem W_cut (J : PState → Prop) (h1 : W P G I x σ (seqK (fun σ' => ∃ τ, Wk σ' τ ∧ J τ) K)) (h2 : ∀ τ, J τ → W P G I y τ K) : W P G I (.seq x y) σ K := by
  refine W_seq ?_
  refine W_mono h1 fun e σ' hk => ?_
  cases e with
  | normal =>
    obtain ⟨τ, hwk, hJ⟩ := hk
    exact W_wk hwk (h2 τ hJ)
  | _ => exact hk

theorem W_adopt (i : Nat) (e : TypeId) (es : Nat) (hi : σ.frame[i]? = some pnil) (h : ∀ n : Int, n ∉ names σ.heap → W P G I c ⟨σ.frame.set i (.row n es 0), (n, ⟨e, true, es, []⟩) :: σ.heap⟩ K) : W P G I c σ K := by
  intro E hE A a w hs Q hq
  obtain ⟨n, hneg, hnot, hs0⟩ := hs.adopt e es
  refine h n hnot E hE A a w ?_ Q hq
  obtain ⟨v, hv, hr⟩ := hs.frame i _ hi
  have := put_same (σ := ⟨σ.frame, (n, ⟨e, true, es, []⟩) :: σ.heap⟩) hs0 hv (p := .row n es 0) (by rw [hr.val_eq]; exact .rownil n es hneg)
  exact this

/-- The elements of a row. -/
def elemsOf (es : Nat) (cells : List PV) (len : Nat) : List PV :=
  if es = 1 then cells.take len else (List.range len).map fun i => .agg ((cells.drop (i * es)).take es)

def frz1 (n : Int) (cells : List PV) : PV → PV
  | .row m es len => if m = n then (if len * es ≤ cells.length ∧ 0 < es then .list es (elemsOf es cells len) else .junk) else .row m es len
  | .sub m es off len => if m = n then (if off + len * es ≤ cells.length ∧ 0 < es then .list es (elemsOf es (cells.drop off) len) else .junk) else .sub m es off len
  | .ptr m off => if m = n then .iptr cells off else .ptr m off
  | p => p

def frz (n : Int) (cells : List PV) : PV → PV
  | .agg cs => .agg (cs.map (frz1 n cells))
  | .tuple cs => .tuple (cs.map (frz1 n cells))
  | .func f cs => .func f (cs.map (frz1 n cells))
  | p => frz1 n cells p

theorem elemsOf_flat {es len : Nat} {cells : List PV} (hes : 0 < es) (hle : len * es ≤ cells.length) (h1 : ∀ p ∈ cells, p.one = true) :
    flat (elemsOf es cells len) = cells.take (len * es) ∧ (elemsOf es cells len).length = len ∧ ∀ x ∈ elemsOf es cells len, x.cells.length = es := by
  unfold elemsOf
  split
  · rename_i he
    subst he
    rw [Nat.mul_one] at hle ⊢
    refine ⟨flat_one fun p hp => h1 p (List.mem_of_mem_take hp), by simp [Nat.min_eq_left hle], fun x hx => ?_⟩
    rw [one_cell (h1 x (List.mem_of_mem_take hx))]
    rfl
  · have key : ∀ len, len * es ≤ cells.length → flat ((List.range len).map fun i => PV.agg ((cells.drop (i * es)).take es)) = cells.take (len * es) := by
      intro len
      induction len with
      | zero => intro _; simp [flat]
      | succ n ih =>
        intro hl
        rw [Nat.succ_mul] at hl
        rw [List.range_succ, List.map_append, flat, List.flatMap_append]
        have := ih (by omega)
        rw [flat] at this
        rw [this]
        simp only [List.map_cons, List.map_nil, List.flatMap_cons, List.flatMap_nil, List.append_nil, PV.cells]
        rw [Nat.succ_mul, List.take_add]
    refine ⟨key len hle, by simp, fun x hx => ?_⟩
    obtain ⟨i, hi, rfl⟩ := List.mem_map.1 hx
    have hi' : i < len := by simpa using hi
    have : (i + 1) * es ≤ len * es := Nat.mul_le_mul_right _ hi'
    rw [Nat.succ_mul] at this
    simp only [PV.cells, List.length_take, List.length_drop]
    omega

theorem frz_list {es len off : Nat} {cells : List PV} {b : Nat} {f : Nat → Value} {A' : Nat → Prop} (hb : A' b) (hes : 0 < es) (hle : off + len * es ≤ cells.length)
    (hc : ∀ (j : Nat) (u : PV), cells[j]? = some u → w.cell? (at_ b j) = some (f j) ∧ u.one = true ∧ Rep w A' u (f j)) {c : Nat} (hl : len ≤ c) :
    Rep w A' (.list es (elemsOf es (cells.drop off) len)) (.slice (some (at_ b off)) len c) := by
  have h1 : ∀ p ∈ cells.drop off, p.one = true := by
    intro p hp
    obtain ⟨j, hj⟩ := List.mem_iff_getElem?.1 (List.mem_of_mem_drop hp)
    exact (hc j p hj).2.1
  obtain ⟨e1, e2, e3⟩ := elemsOf_flat (cells := cells.drop off) (len := len) hes (by simp; omega) h1
  have hget : ∀ (j : Nat) (u : PV), (flat (elemsOf es (cells.drop off) len))[j]? = some u → cells[off + j]? = some u := by
    intro j u hu
    rw [e1, List.getElem?_take] at hu
    split at hu
    · rwa [List.getElem?_drop] at hu
    · cases hu
  have := Rep.list (w := w) (A := A') es (elemsOf es (cells.drop off) len) b off c (fun j => f (off + j)) hb (by rw [e2]; exact hl) e3
    (fun j u hu => ⟨(hc _ u (hget j u hu)).1, (hc _ u (hget j u hu)).2.1⟩) (fun j u hu => (hc _ u (hget j u hu)).2.2)
  rw [e2] at this
  exact this

/-- the frozen object's readings -/
theorem frz1_rep {n : Int} {o : PObj} {A' : Nat → Prop} (hA : ∀ b, A b → A' b) (hn : ∀ b : Nat, n = b → A' b) (ho : ObjRep w A n o) {p : PV} {v : Value} (h : Rep w A p v) : Rep w A' (frz1 n o.cells p) v := by
  have hmono : ∀ {p : PV} {v : Value}, Rep w A p v → Rep w A' p v := fun h => h.mono hA (fun _ _ _ _ h => h) (fun _ _ h => h)
  have hobj : ∀ b : Nat, n = b → ∃ f : Nat → Value, ∀ (j : Nat) (u : PV), o.cells[j]? = some u → w.cell? (at_ b j) = some (f j) ∧ u.one = true ∧ Rep w A' u (f j) := by
    intro b hb
    obtain ⟨cur, fz, f, hh, _, _, hc⟩ := ho.block hb
    exact ⟨f, fun j u hu => ⟨by rw [cell_of_block hh]; exact (hc j u hu).1, (hc j u hu).2.1, hmono (hc j u hu).2.2⟩⟩
  unfold frz1
  split
  · rename_i m es len
    split
    · rename_i hm
      subst hm
      split
      · rename_i hc
        rcases h.row_inv with ⟨hneg, rfl, rfl⟩ | ⟨b, c, N, t', hb, rfl, _, _, hl, _⟩
        · have : elemsOf es o.cells 0 = [] := by unfold elemsOf; split <;> simp
          rw [this]
          exact .nil _ _ _
        · obtain ⟨f, hf⟩ := hobj b hb
          have := frz_list (w := w) (off := 0) (len := len) (es := es) (hn b hb) hc.2 (by omega) hf hl
          simpa using this
      · exact .junk _
    · exact hmono h
  · rename_i m es off len
    split
    · rename_i hm
      subst hm
      split
      · rename_i hc
        rcases h.sub_inv with ⟨rfl, a', c, rfl⟩ | ⟨b, c, hb, rfl, hl⟩
        · have : elemsOf es (o.cells.drop off) 0 = [] := by unfold elemsOf; split <;> simp
          rw [this]
          exact .nil _ _ _
        · obtain ⟨f, hf⟩ := hobj b hb
          exact frz_list (w := w) (off := off) (len := len) (es := es) (hn b hb) hc.2 hc.1 hf hl
      · exact .junk _
    · exact hmono h
  · rename_i m off
    split
    · rename_i hm
      subst hm
      obtain ⟨b, hb, rfl⟩ := h.ptr_inv
      obtain ⟨f, hf⟩ := hobj b hb
      have := Rep.iptr (w := w) (A := A') o.cells b 0 off f (hn b hb) (fun j u hu => by rw [Nat.zero_add]; exact (hf j u hu).1) (fun j u hu => (hf j u hu).2.2)
      simpa using this
    · exact hmono h
  · exact hmono h

theorem frz_rep {n : Int} {o : PObj} {A' : Nat → Prop} (hA : ∀ b, A b → A' b) (hn : ∀ b : Nat, n = b → A' b) (ho : ObjRep w A n o) {p : PV} {v : Value} (h : Rep w A p v) : Rep w A' (frz n o.cells p) v := by
  have hget : ∀ (cs : List PV) (f : Nat → Value), (∀ (j : Nat) (u : PV), cs[j]? = some u → Rep w A u (f j)) → ∀ (j : Nat) (u : PV), (cs.map (frz1 n o.cells))[j]? = some u → Rep w A' u (f j) := by
    intro cs f hf j u hu
    rw [List.getElem?_map] at hu
    cases hj : cs[j]? with
    | none => rw [hj] at hu; cases hu
    | some q =>
      rw [hj] at hu
      cases hu
      exact frz1_rep hA hn ho (hf j q hj)
  unfold frz
  split
  · obtain ⟨f, rfl, hf⟩ := h.agg_inv
    have := Rep.agg (w := w) (A := A') _ f (hget _ f hf)
    simpa using this
  · obtain ⟨f, rfl, hf⟩ := h.tuple_inv
    have := Rep.tuple (w := w) (A := A') _ f (hget _ f hf)
    simpa using this
  · rename_i fn cs
    cases h with
    | func fn caps f hf =>
      have := Rep.func (w := w) (A := A') fn _ f (hget _ f hf)
      simpa using this
  · exact frz1_rep hA hn ho h

theorem frz1_one {n : Int} {cells : List PV} {p : PV} (h : p.one = true) : (frz1 n cells p).one = true ∨ frz1 n cells p = .junk := by
  unfold frz1
  split <;> (try split) <;> (try split) <;> first | exact .inl rfl | exact .inr rfl | exact .inl h | skip

/-- an object is turned no more -/
theorem W_freeze (n : Int) {o : PObj} (hI : n ∉ I) (hl : look σ.heap n = some o) (hone : ∀ x ∈ del σ.heap n, ∀ u ∈ x.2.cells, (frz1 n o.cells u).one = true)
    (h : W P G I c ⟨σ.frame.map (frz n o.cells), (del σ.heap n).map fun x => (x.1, { x.2 with cells := x.2.cells.map (frz1 n o.cells) })⟩ K) : W P G I c σ K := by
  intro E hE A a w hs Q hq
  have hob := hs.objs n o (look_mem hl)
  have hA : ∀ b, A b → (A b ∨ (b : Int) = n) := fun b h => .inl h
  have hn : ∀ b : Nat, n = b → (A b ∨ (b : Int) = n) := fun b h => .inr h.symm
  have hnn := names_del_not n σ.heap hs.nodup
  have hs2 := (hs.drop n).more (A' := fun b => A b ∨ (b : Int) = n) hA (fun b hb => by
    rcases hb with h | h
    · exact .inl h
    · obtain ⟨h1, h2, h3⟩ := hs.own n o (look_mem hl) b h.symm
      refine .inr ⟨h1, ?_, by rw [h]; exact hnn⟩
      rcases h3 with h3 | h3
      · exact h3
      · exact absurd (hE ▸ (h ▸ h3 : n ∈ E.I)) hI)
  refine h E hE (fun b => A b ∨ (b : Int) = n) a w ?_ Q hq
  have hnames : names ((del σ.heap n).map fun x => (x.1, { x.2 with cells := x.2.cells.map (frz1 n o.cells) })) = names (del σ.heap n) := by
    simp [names, Function.comp_def]
  have hmem : ∀ m o', (m, o') ∈ ((del σ.heap n).map fun x => (x.1, { x.2 with cells := x.2.cells.map (frz1 n o.cells) }) : Heap) → ∃ o1, (m, o1) ∈ del σ.heap n ∧ o' = { o1 with cells := o1.cells.map (frz1 n o.cells) } := by
    intro m o' hm
    obtain ⟨⟨m1, o1⟩, h1, e⟩ := List.mem_map.1 hm
    cases e
    exact ⟨o1, h1, rfl⟩
  refine ⟨hs2.ext, hs2.lt, hs2.a0, hs2.a1, hs2.globs, ?_, fun m o' hm => ?_, fun m o' hm => ?_, fun m o' hm => ?_, hs2.defers, by simp [hs2.size], fun i p hp => ?_⟩
  · show (names _).Nodup
    rw [hnames]
    exact hs2.nodup
  · obtain ⟨o1, h1, rfl⟩ := hmem m o' hm
    rcases hs.objs m o1 (mem_del hs.nodup h1).2 with ⟨g1, g2, g3⟩ | ⟨b, cur, fz, f, rfl, q1, q2, q3, q4⟩
    · exact .inl ⟨g1, g2, by simp [g3]⟩
    · refine .inr ⟨b, cur, fz, f, rfl, q1, q2, q3, fun j u hu => ?_⟩
      simp only [List.getElem?_map] at hu
      cases hj : o1.cells[j]? with
      | none => rw [hj] at hu; cases hu
      | some q =>
        rw [hj] at hu
        cases hu
        exact ⟨(q4 j q hj).1, hone _ h1 q (List.mem_of_getElem? hj), frz1_rep hA hn hob (q4 j q hj).2.2⟩
  · obtain ⟨o1, h1, rfl⟩ := hmem m o' hm
    exact hs2.own m o1 h1
  · obtain ⟨o1, h1, rfl⟩ := hmem m o' hm
    exact hs2.neg m o1 h1
  · simp only [List.getElem?_map] at hp
    cases hj : σ.frame[i]? with
    | none => rw [hj] at hp; cases hp
    | some q =>
      rw [hj] at hp
      cases hp
      obtain ⟨v, hv, hr⟩ := hs.frame i q hj
      exact ⟨v, hv, frz_rep hA hn hob hr⟩
end
end Go.PM
