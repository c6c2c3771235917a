/- The pure machine, part l: operations that make memory or write to it. Conditions: none. -/
import Derived.Test.YtaiflmbhciophaaPmk
set_option linter.unusedSimpArgs false
set_option linter.unusedVariables false
namespace Go.PM
open Go.RowKit

/-- The operation o, run in (a, w), comes to a state of which K holds. -/
def Steps1 (P : Program) (G : Globs) (E : Amb) (q : Bool) (o : Oper) (K : PState → Prop) (a : Act) (w : World) : Prop :=
  ∃ v w1 σ' A', ((execOp a.eval o).run P w = .ok (.value v) w1 ∨ ((execOp a.eval o).run P w = .ok .skip w1 ∧ v = undef)) ∧ K σ' ∧ Sim G E A' σ' (a.put o.dst v) w1 ∧ (q = true → Keeps w w1)

def vcells (z : Value) : List PV := z.cells.toList.map .val

section
variable {P : Program} {G : Globs} {E : Amb} {A : Nat → Prop} {σ : PState} {a : Act} {w : World} {o : Oper} {K : PState → Prop} {q : Bool}

theorem Reps.fn {cs : List PV} {vs : Array Value} (h : Reps w A cs vs) : ∀ (j : Nat) (u : PV), cs[j]? = some u → vs[j]? = some (vs.getD j undef) ∧ Rep w A u (vs.getD j undef) := by
  intro j u hu
  obtain ⟨v, hv, hr⟩ := h.2 j u hu
  have : vs.getD j undef = v := by simp [Array.getD_eq_getD_getElem?, hv]
  rw [this]
  exact ⟨hv, hr⟩

/-- a new block that holds the cells cs, and a pointer or a slice to it -/
theorem step_new (hs : Sim G E A σ a w) {cs : List PV} {vs : Array Value} (hc : Reps w A cs vs) (h1 : ∀ u ∈ cs, u.one = true) (ty : TypeId) (gr : Bool) (es : Nat) (p : Int → PV) (v : Nat → Value)
    (hp : ∀ w' : World, w'.shape? w.heap.size = some (ty, vs.size) → Rep w' A (p w.heap.size) (v w.heap.size)) (hrun : (execOp a.eval o).run P w = .ok (.value (v w.heap.size)) (w.alloc (.cells vs ty)))
    (hk : ∀ n : Int, n ∉ names σ.heap → K (PState.put ⟨σ.frame, (n, ⟨ty, gr, es, cs⟩) :: σ.heap⟩ o.dst (p n))) : Steps1 P G E q o K a w := by
  obtain ⟨hfr, hsim⟩ := hs.new vs (0, 0) ⟨ty, gr, es, cs⟩ (fun j => vs.getD j undef) (fun j _ h => by omega) (fun _ => rfl) (fun j u hu => ⟨(hc.fn j u hu).1, h1 u (List.mem_of_getElem? hu), (hc.fn j u hu).2⟩)
  refine ⟨_, _, _, A, .inl hrun, hk _ hfr, hsim.put o.dst (hp _ ?_), fun _ b hb => Below.heap_alloc w _ b hb⟩
  simp only [World.shape?, heap_alloc_new]

def pbox (σ : PState) (d : Option Tmp) (t : TypeId) (x : PV) (K : PState → Prop) : Prop :=
  match x.mem? with
  | some cs => cs.all PV.one = true ∧ @pfresh (names σ.heap) ⟨fun n => K (PState.put ⟨σ.frame, (n, ⟨t, false, 0, cs⟩) :: σ.heap⟩ d (.ptr n 0))⟩
  | none => False

theorem pbox_sound {t : TypeId} {x : Operand} (hs : Sim G E A σ a w) (ho : o.op = .box t x) (h : pbox σ o.dst t (opnd G σ.frame x) K) : Steps1 P G E q o K a w := by
  unfold pbox at h
  split at h
  · rename_i cs hm
    obtain ⟨h1, hk⟩ := h
    refine step_new hs (mem_reps hm (hs.opnd x)) (fun u hu => List.all_eq_true.1 h1 u hu) t false 0 (fun n => .ptr n 0) (fun b => .pointer (some (at_ b 0))) (fun w' _ => .ptr _ 0) ?_ hk
    unfold execOp
    simp [ho, Instr.box, newVar, newRow, newObj, Sem.run]
  · exact h.elim

def palloc (P : Program) (σ : PState) (d : Option Tmp) (t : TypeId) (K : PState → Prop) : Prop :=
  match tf P t with
  | some F => match F.zero with
    | some z => (vcells z).all PV.one = true ∧ @pfresh (names σ.heap) ⟨fun n => K (PState.put ⟨σ.frame, (n, ⟨t, false, 0, vcells z⟩) :: σ.heap⟩ d (.ptr n 0))⟩
    | none => False
  | none => False

theorem zero_run {t : TypeId} {F : TF} (hF : tf P t = some F) {z : Value} (hz : F.zero = some z) (w' : World) : Sem.run P (zeroValue t) w' = .ok z w' := by
  obtain ⟨d, i, hd, hi, rfl⟩ := tf_some hF
  simp only at hz
  simp [zeroValue, typeInfo, hi, hz]

theorem palloc_sound {t : TypeId} (hs : Sim G E A σ a w) (ho : o.op = .alloc t) (h : palloc P σ o.dst t K) : Steps1 P G E q o K a w := by
  unfold palloc at h
  split at h
  · rename_i F hF
    split at h
    · rename_i z hz
      obtain ⟨h1, hk⟩ := h
      refine step_new hs (vals_reps z.cells) (fun u hu => List.all_eq_true.1 h1 u hu) t false 0 (fun n => .ptr n 0) (fun b => .pointer (some (at_ b 0))) (fun w' _ => .ptr _ 0) ?_ hk
      unfold execOp
      simp [ho, Instr.alloc, newVar, newRow, newObj, Sem.run, zero_run hF hz]
    · exact h.elim
  · exact h.elim

/-- n times the same cells -/
def times (n : Nat) (zs : List PV) : List PV := (List.replicate n zs).flatten

theorem times_get (n : Nat) (zs : List PV) (j : Nat) (h : j < n * zs.length) : (times n zs)[j]? = zs[j % zs.length]? := by
  induction n generalizing j with
  | zero => omega
  | succ n ih =>
    simp only [times, List.replicate_succ, List.flatten_cons] at ih ⊢
    by_cases hj : j < zs.length
    · rw [List.getElem?_append_left hj, Nat.mod_eq_of_lt hj]
    · rw [List.getElem?_append_right (by omega), ih _ (by rw [Nat.succ_mul] at h; omega)]
      rw [← Nat.mod_eq_sub_mod (by omega)]

theorem times_length (n : Nat) (zs : List PV) : (times n zs).length = n * zs.length := by simp [times]

theorem times_reps (z : Value) (n size : Nat) (hsz : z.cells.size = size) : Reps w A (times n (vcells z)) ((Array.range (n * size)).map (z.cells[· % z.cells.size]!)) := by
  have hl : (vcells z).length = size := by simp [vcells, hsz]
  refine ⟨by simp [times_length, hl], fun j u hu => ?_⟩
  have hj : j < n * size := by
    have := (List.getElem?_eq_some_iff.1 hu).1
    rwa [times_length, hl] at this
  rw [times_get _ _ _ (by rw [hl]; exact hj), hl] at hu
  have hpos : 0 < size := by
    rcases Nat.eq_zero_or_pos size with h | h
    · subst h; omega
    · exact h
  have hlt : j % size < z.cells.size := by rw [hsz]; exact Nat.mod_lt _ hpos
  have : u = .val z.cells[j % size] := by
    simp only [vcells, List.getElem?_map, Array.getElem?_toList, Array.getElem?_eq_getElem hlt, Option.map_some, Option.some.injEq] at hu
    exact hu.symm
  subst this
  refine ⟨z.cells[j % size], ?_, .val _⟩
  simp [hj, hsz]
  rw [getElem!_pos z.cells (j % size) hlt]

theorem times_one {z : Value} {n : Nat} (h : (vcells z).all PV.one = true) : ∀ u ∈ times n (vcells z), u.one = true := by
  intro u hu
  simp only [times, List.mem_flatten, List.mem_replicate] at hu
  obtain ⟨l, ⟨_, rfl⟩, hu⟩ := hu
  exact List.all_eq_true.1 h u hu

/-- make([]T, n) -/
def pmakes (P : Program) (σ : PState) (d : Option Tmp) (t : TypeId) (l c : PV) (K : PState → Prop) : Prop :=
  match tf P t, l, c with
  | some ⟨.slice e es eb, _, _, _, _⟩, .val (.int _ l), .val (.int _ c) => match tf P e with
    | some Fe => match Fe.zero with
      | some z => l = c ∧ 0 ≤ l ∧ l ≤ 9223372036854775807 ∧ (eb : Int) * l ≤ 140737488355328 ∧ z.cells.size = es ∧ 0 < es ∧ (vcells z).all PV.one = true ∧
          @pfresh (names σ.heap) ⟨fun n => K (PState.put ⟨σ.frame, (n, ⟨e, true, es, times l.toNat (vcells z)⟩) :: σ.heap⟩ d (.row n es l.toNat))⟩
      | none => False
    | none => False
  | _, _, _ => False

theorem pmakes_sound {t : TypeId} {l c : Operand} (hs : Sim G E A σ a w) (ho : o.op = .makeSlice t l c) (h : pmakes P σ o.dst t (opnd G σ.frame l) (opnd G σ.frame c) K) : Steps1 P G E q o K a w := by
  unfold pmakes at h
  split at h
  · rename_i e es eb s1 s2 s3 s4 kl l' kc c' hF hel hec
    have hl := hs.opnd l
    have hc := hs.opnd c
    rw [hel] at hl
    rw [hec] at hc
    split at h
    · rename_i Fe hFe
      split at h
      · rename_i z hz
        obtain ⟨rfl, h0, h63, hb, hzs, hes0, h1, hk⟩ := h
        obtain ⟨hu, i, hi, his, hib⟩ := tf_slice hF rfl
        have hw : IntKind.i64.wrap l' = l' := IntWalk.i64_in _ (by omega)
        refine step_new hs (times_reps z l'.toNat es hzs) (times_one h1) e true es (fun n => .row n es l'.toNat) (fun b => .slice (some (at_ b 0)) l'.toNat l'.toNat)
          (fun w' hsh => Rep.row _ _ _ _ _ e hsh (by simp) (Nat.le_refl _) (by simp only [maxLen]; omega)) ?_ hk
        obtain ⟨d', i', hd', hi', hFe'⟩ := tf_some hFe
        have hiz : i.zero = some z := by
          rw [hi] at hi'
          cases hi'
          rw [hFe'] at hz
          exact hz
        have hr := run_make (P := P) w t e i z hu hi hiz kl kc l' l' h0 (Int.le_refl _) (by rw [hib]; omega) h63
        unfold execOp
        simp only [ho, hl.val_eq, hc.val_eq, Sem.run_bind, hr, Result.andThen_ok, Sem.run_pure, madeCells, his]
      · exact h.elim
    · exact h.elim
  · exact h.elim

/-- a store through an address -/
def pstore (P : Program) (σ : PState) (d : Option Tmp) (t : TypeId) (x v : PV) (K : PState → Prop) : Prop :=
  match tf P t, x, v.mem? with
  | some F, .ptr n off, some xs => match look σ.heap n with
    | some o => xs.length = F.size ∧ xs.all PV.one = true ∧ off + xs.length ≤ o.cells.length ∧
        K (PState.put ⟨σ.frame, upd σ.heap n { o with cells := o.cells.take off ++ xs ++ o.cells.drop (off + xs.length) }⟩ d .junk)
    | none => False
  | _, _, _ => False

theorem pstore_sound {t : TypeId} {x y : Operand} (hs : Sim G E A σ a w) (ho : o.op = .store t x y) (h : pstore P σ o.dst t (opnd G σ.frame x) (opnd G σ.frame y) K) : Steps1 P G E false o K a w := by
  unfold pstore at h
  split at h
  · rename_i F n off xs hF hx hm
    split at h
    · rename_i ob hl
      obtain ⟨hlen, h1, hoff, hk⟩ := h
      have hxr := hs.opnd x
      rw [hx] at hxr
      obtain ⟨b, rfl, hv⟩ := hxr.ptr_inv
      have hr := mem_reps hm (hs.opnd y)
      obtain ⟨cur, fz, f, hh, hu, hg, hc⟩ := (hs.objs _ ob (look_mem hl)).block rfl
      have hcl : ob.cells.length ≤ cur.size := by
        rcases Nat.lt_or_ge cur.size ob.cells.length with h | h
        · have := (hc cur.size _ (List.getElem?_eq_getElem h)).1
          simp at this
        · exact h
      have hvl : (a.eval y).cells.toList.length = xs.length := by simp [hr.1]
      have hst := hs.store (vs := (a.eval y).cells.toList) (xs := xs) (off := off) hl rfl hvl.symm (by omega) (.inl hoff) (fun j u hu => ⟨List.all_eq_true.1 h1 u (List.mem_of_getElem? hu), by
        obtain ⟨v, hv, hrv⟩ := hr.2 j u hu
        exact ⟨v, by simpa using hv, hrv⟩⟩)
      have hone : ∀ v ∈ (a.eval y).cells.toList, v.oneCell' = true := by
        intro v hv
        obtain ⟨j, hj, rfl⟩ := List.getElem_of_mem hv
        have hj' : j < xs.length := by omega
        obtain ⟨v', hv', hrv⟩ := hr.2 j _ (List.getElem?_eq_getElem hj')
        have : v' = (a.eval y).cells.toList[j] := by
          have hj2 : j < (a.eval y).cells.size := by simpa using hj
          rw [Array.getElem?_eq_getElem hj2] at hv'
          cases hv'
          simp
        rw [← this]
        exact (one_cells (List.all_eq_true.1 h1 _ (List.getElem_mem hj')) hrv).2
      refine ⟨undef, _, _, A, .inr ⟨?_, rfl⟩, hk, hst.put o.dst (.junk _), fun h => by cases h⟩
      have hrun := run_storeCells_cells (P := P) b off (a.eval y).cells.toList 0 w (fun j hj => by
        have : off + 0 + j < cur.size := by rw [hvl] at hj; omega
        simp [World.cell?, hh]; omega) (fun j hj => by
        have hlt : off + 0 + j < cur.size := by rw [hvl] at hj; omega
        have := hu (off + 0 + j) hlt
        obtain ⟨lo, hi⟩ := fz
        simp [World.frozen?, hh]
        simp at this
        exact this) hone
      have hrun' : Sem.run P (storeCells (at_ b off) (a.eval y).cells.toList 0) w = .ok () (w.setCells b off (a.eval y).cells.toList) := by simpa using hrun
      have hsz : (a.eval y).cells.size = F.size := by rw [hr.1, hlen]
      unfold execOp
      simp [ho, hv, Instr.storeAt, Instr.sureAddr, storeVar, sizeOf_run hF, hsz, hrun']
    · exact h.elim
  · exact h.elim

/-- The source of an append or a copy: how many elements, their cells. -/
def psrc (P : Program) (H : Heap) (t : TypeId) (es : Nat) (x : PV) : Option (Nat × List PV) :=
  match tf P t with
  | some ⟨.string, _, _, _, _⟩ => match x with
    | .val (.string s) => if es = 1 then some ((bl s).length, bytes (bl s)) else none
    | _ => none
  | some ⟨.slice _ es' _, _, _, _, _⟩ => if es' = es then match x with
      | .list es'' xs => if es'' = es then some (xs.length, flat xs) else none
      | .full es'' xs => if es'' = es then some (xs.length, flat xs) else none
      | .row n es'' len => if es'' = es then match look H n with
        | some o => if len * es ≤ o.cells.length then some (len, o.cells.take (len * es)) else none
        | none => none
        else none
      | .sub n es'' off len => if es'' = es then match look H n with
        | some o => if off + len * es ≤ o.cells.length then some (len, (o.cells.drop off).take (len * es)) else none
        | none => none
        else none
      | .val (.slice none 0 0) => some (0, [])
      | _ => none
    else none
  | _ => none

theorem flat_length (es : Nat) (xs : List PV) (h : ∀ x ∈ xs, x.cells.length = es) : (flat xs).length = xs.length * es := by
  induction xs with
  | nil => simp [flat]
  | cons y ys ih =>
    simp only [flat, List.flatMap_cons, List.length_append, List.length_cons] at ih ⊢
    rw [ih (fun x hx => h x (.tail _ hx)), h y (.head _), Nat.succ_mul]; omega

/-- cells that lie one behind the other are a source -/
theorem src_of_cells {t : TypeId} {es es' eb : Nat} {e : TypeId} {F : TF} (hF : tf P t = some F) (hti : F.ti = .slice e es' eb) {b off c m : Nat} {xs : List PV} {f : Nat → Value} (hl : xs.length = m * es)
    (hc : ∀ (j : Nat) (u : PV), xs[j]? = some u → w.cell? (at_ b (off + j)) = some (f j) ∧ u.one = true ∧ Rep w A u (f j)) :
    ∃ news, Src P t es m (.slice (some (at_ b off)) m c) news w ∧ xs.length = news.length ∧ ∀ (j : Nat) (p : PV), xs[j]? = some p → p.one = true ∧ ∃ v, news[j]? = some v ∧ Rep w A p v := by
  refine ⟨(List.range xs.length).map f, ⟨⟨_, (tf_slice hF hti).1, fun k h => by cases h⟩, fun w' => by simp [Builtin.lenOf], by simp [hl], fun n hn w' hw => ?_⟩, by simp, fun j p hp => ?_⟩
  · have hle : n * es ≤ m * es := Nat.mul_le_mul_right _ hn
    refine run_firstCells_some (P := P) w' es n (at_ b off) m c _ (by rw [List.length_take, List.length_map, List.length_range, hl, Nat.min_eq_left hle]) (fun j v hv => ?_)
    have hj' : j < n * es := by
      have := (List.getElem?_eq_some_iff.1 hv).1
      simp at this
      omega
    have hj : j < xs.length := by omega
    rw [List.getElem?_take, if_pos hj'] at hv
    simp [hj] at hv
    subst hv
    rw [at_add]
    exact hw.cell (hc j _ (List.getElem?_eq_getElem hj)).1
  · have hj : j < xs.length := (List.getElem?_eq_some_iff.1 hp).1
    exact ⟨(hc j p hp).2.1, f j, by simp [hj], (hc j p hp).2.2⟩

theorem src_empty {t : TypeId} {es es' eb : Nat} {e : TypeId} {F : TF} (hF : tf P t = some F) (hti : F.ti = .slice e es' eb) (ad : Option Addr) (c : Nat) :
    Src P t es 0 (.slice ad 0 c) [] w := by
  refine ⟨⟨_, (tf_slice hF hti).1, fun k h => by cases h⟩, fun w' => by simp [Builtin.lenOf], by simp, fun n hn w' _ => ?_⟩
  have : n = 0 := by omega
  subst this
  cases ad <;> simp [Builtin.firstCells, loadCells, loadCellsFrom]

theorem psrc_sound {t : TypeId} {es m : Nat} {x : PV} {v : Value} {ys : List PV} (hx : Rep w A x v) (hob : ∀ n o, look σ.heap n = some o → ObjRep w A n o) (h : psrc P σ.heap t es x = some (m, ys)) :
    ∃ news, Src P t es m v news w ∧ ys.length = news.length ∧ ∀ (j : Nat) (p : PV), ys[j]? = some p → p.one = true ∧ ∃ v, news[j]? = some v ∧ Rep w A p v := by
  unfold psrc at h
  split at h
  · rename_i hF
    split at h
    · rename_i s
      split at h
      · rename_i hes
        subst hes
        cases h
        rw [hx.val_eq]
        refine ⟨(bl s).map fun b => Value.int .u8 b.toNat, ⟨⟨_, tf_string hF rfl, fun k h => by cases h⟩, fun w' => by simp [Builtin.lenOf, size_bl], by simp, fun n hn w' _ => ?_⟩, by simp [bytes], fun j p hp => ?_⟩
        · have : (s.extract 0 n).data.toList = (bl s).take n := by
            rw [Lib.extract_data]; simp [bl]
          simp only [Builtin.firstCells, Sem.run_pure]
          congr 1
          apply Array.ext'
          simp only [Array.toList_map, this]
          simp
        · simp only [bytes, List.getElem?_map] at hp ⊢
          cases hj : (bl s)[j]? with
          | none => rw [hj] at hp; cases hp
          | some b =>
            rw [hj] at hp
            cases hp
            exact ⟨rfl, _, rfl, .val _⟩
      · cases h
    · cases h
  · rename_i e es' eb s1 s2 s3 s4 hF
    split at h
    · rename_i hes
      subst hes
      split at h
      · rename_i es'' xs
        split at h
        · rename_i he
          subst he
          cases h
          rcases hx.list_inv with ⟨rfl, a', c, hv⟩ | ⟨b, off, c, f, hA, hc, hv, hle, hc1, hc2⟩
          · rw [hv]; exact ⟨[], src_empty hF rfl _ _, rfl, by simp [flat]⟩
          · rw [hv]
            exact src_of_cells hF rfl (flat_length _ _ hle) (fun j u hu => ⟨(hc1 j u hu).1, (hc1 j u hu).2, hc2 j u hu⟩)
        · cases h
      · rename_i es'' xs
        split at h
        · rename_i he
          subst he
          cases h
          cases hx with
          | full0 es a' => exact ⟨[], src_empty hF rfl _ _, rfl, by simp [flat]⟩
          | full es xs b off f hA hle hc1 hc2 => exact src_of_cells hF rfl (flat_length _ _ hle) (fun j u hu => ⟨(hc1 j u hu).1, (hc1 j u hu).2, hc2 j u hu⟩)
        · cases h
      · rename_i n es'' len
        split at h
        · rename_i he
          subst he
          split at h
          · rename_i ob hl
            split at h
            · rename_i hle
              cases h
              rcases hx.row_inv with ⟨hn, rfl, hv⟩ | ⟨b, c, N, t', hn, hv, _⟩
              · rw [hv]; simp only [Nat.zero_mul, List.take_zero]; exact ⟨[], src_empty hF rfl _ _, rfl, by simp⟩
              · rw [hv]
                obtain ⟨cur, fz, f, hh, _, _, hc⟩ := (hob _ _ hl).block hn
                refine src_of_cells (off := 0) (f := f) hF rfl (by simp; omega) (fun j u hu => ?_)
                have hu' : ob.cells[j]? = some u := by
                  rw [List.getElem?_take] at hu
                  split at hu
                  · exact hu
                  · cases hu
                obtain ⟨a1, a2, a3⟩ := hc j u hu'
                exact ⟨by rw [cell_of_block hh, Nat.zero_add]; exact a1, a2, a3⟩
            · cases h
          · cases h
        · cases h
      · rename_i n es'' off len
        split at h
        · rename_i he
          subst he
          split at h
          · rename_i ob hl
            split at h
            · rename_i hle
              cases h
              rcases hx.sub_inv with ⟨rfl, a', c, hv⟩ | ⟨b, c, hn, hv, _⟩
              · rw [hv]; simp only [Nat.zero_mul, List.take_zero]; exact ⟨[], src_empty hF rfl _ _, rfl, by simp⟩
              · rw [hv]
                obtain ⟨cur, fz, f, hh, _, _, hc⟩ := (hob _ _ hl).block hn
                refine src_of_cells (off := off) (f := fun j => f (off + j)) hF rfl (by simp; omega) (fun j u hu => ?_)
                have hu' : ob.cells[off + j]? = some u := by
                  rw [List.getElem?_take] at hu
                  split at hu
                  · rwa [List.getElem?_drop] at hu
                  · cases hu
                obtain ⟨a1, a2, a3⟩ := hc _ u hu'
                exact ⟨by rw [cell_of_block hh]; exact a1, a2, a3⟩
            · cases h
          · cases h
        · cases h
      · cases h
        rw [hx.val_eq]
        exact ⟨[], src_empty hF rfl _ _, rfl, by simp⟩
      · cases h
    · cases h
  · cases h
end
end Go.PM
