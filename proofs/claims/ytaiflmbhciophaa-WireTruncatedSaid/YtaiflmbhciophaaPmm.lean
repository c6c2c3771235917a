/- The pure machine, part m: append, copy, bytes of a string; calls; one operation. Conditions: none. -/
import Derived.Test.YtaiflmbhciophaaPml
set_option linter.unusedSimpArgs false
set_option linter.unusedVariables false
namespace Go.PM
open Go.RowKit

section
variable {P : Program} {G : Globs} {E : Amb} {A : Nat → Prop} {σ : PState} {a : Act} {w : World} {o : Oper} {K : PState → Prop} {q : Bool}

theorem exists_below (l : List Int) : ∃ n : Int, n < 0 ∧ n ∉ l := by
  have h : ∀ l : List Int, ∃ n : Int, n < 0 ∧ ∀ x ∈ l, n < x := by
    intro l
    induction l with
    | nil => exact ⟨-1, by omega, by simp⟩
    | cons x l ih =>
      obtain ⟨n, h1, h2⟩ := ih
      refine ⟨min n x - 1, by omega, fun y hy => ?_⟩
      cases List.mem_cons.1 hy with
      | inl e => subst e; omega
      | inr e => have := h2 y e; omega
  obtain ⟨n, h1, h2⟩ := h l
  exact ⟨n, h1, fun hn => by have := h2 n hn; omega⟩

/-- a nil slice taken for an empty row of one's own -/
theorem Sim.adopt (hs : Sim G E A σ a w) (e : TypeId) (es : Nat) : ∃ n : Int, n < 0 ∧ n ∉ names σ.heap ∧ Sim G E A ⟨σ.frame, (n, ⟨e, true, es, []⟩) :: σ.heap⟩ a w := by
  obtain ⟨n, hn, hnot⟩ := exists_below (names σ.heap ++ E.F)
  simp only [List.mem_append, not_or] at hnot
  refine ⟨n, hn, hnot.1, hs.ext, hs.lt, hs.a0, hs.a1, hs.globs, List.nodup_cons.2 ⟨hnot.1, hs.nodup⟩, fun m o h => ?_, fun m o h => ?_, fun m o h => ?_, hs.defers, hs.size, hs.frame⟩
  · cases List.mem_cons.1 h with
    | inl e => cases e; exact .inl ⟨rfl, hn, rfl⟩
    | inr e => exact hs.objs m o e
  · cases List.mem_cons.1 h with
    | inl e => cases e; intro b hb; omega
    | inr e => exact hs.own m o e
  · cases List.mem_cons.1 h with
    | inl e => cases e; intro _; exact .inl hnot.2
    | inr e => exact hs.neg m o e

theorem one_cell {p : PV} (h : p.one = true) : p.cells = [p] := by
  cases p <;> first | rfl | (simp [PV.one] at h)

theorem flat_one {xs : List PV} (h : ∀ p ∈ xs, p.one = true) : flat xs = xs := by
  induction xs with
  | nil => rfl
  | cons y ys ih =>
    simp only [flat, List.flatMap_cons] at ih ⊢
    rw [ih (fun z hz => h z (.tail _ hz)), one_cell (h y (.head _))]
    rfl

theorem flat_bytes (l : List UInt8) : flat (bytes l) = bytes l := by
  refine flat_one fun p hp => ?_
  obtain ⟨b, _, rfl⟩ := List.mem_map.1 hp
  rfl

/-- a new block that nobody turns: a list -/
theorem step_list (hs : Sim G E A σ a w) {ys : List PV} {vs : Array Value} {fz : Nat × Nat} {e : TypeId} {c : Nat} (h1 : ∀ p ∈ ys, p.one = true) (hc : ys.length ≤ c)
    (hy : ∀ (j : Nat) (p : PV), ys[j]? = some p → ∃ v, vs[j]? = some v ∧ Rep w A p v) (hrun : (execOp a.eval o).run P w = .ok (.value (.slice (some (at_ w.heap.size 0)) ys.length c)) (w.drew.alloc (.cells vs e fz)))
    (hk : K (σ.put o.dst (.list 1 ys))) : Steps1 P G E q o K a w := by
  have he : Ext (fun _ => False) w (w.drew.alloc (.cells vs e fz)) := (Ext.drew (fun _ => False) w).trans (Ext.alloc (fun _ => False) _ _) (fun _ _ h => h)
  have hs1 := hs.grow he
  have hs2 := hs1.more (A' := fun b => A b ∨ b = w.heap.size) (fun b h => .inl h) (fun b h => by
    rcases h with h | h
    · exact .inl h
    · subst h
      refine .inr ⟨by simp, hs.ext.size, fun hn => ?_⟩
      obtain ⟨⟨n, o'⟩, hno, hn'⟩ := List.mem_map.1 hn
      have := (hs.own n o' hno w.heap.size hn').1
      omega)
  refine ⟨_, _, _, _, .inl hrun, hk, hs2.put o.dst ?_, fun _ b hb => Below.heap_alloc w.drew _ b hb⟩
  have hcell : ∀ (j : Nat) (p : PV), ys[j]? = some p → (w.drew.alloc (.cells vs e fz)).cell? (at_ w.heap.size (0 + j)) = some (vs.getD j undef) ∧ Rep w A p (vs.getD j undef) := by
    intro j p hp
    obtain ⟨v, hv, hr⟩ := hy j p hp
    have hg : vs.getD j undef = v := by simp [Array.getD_eq_getD_getElem?, hv]
    rw [hg]
    refine ⟨?_, hr⟩
    have hb := heap_alloc_new w.drew (.cells vs e fz)
    rw [show w.drew.heap.size = w.heap.size from rfl] at hb
    rw [cell_of_block hb, Nat.zero_add]
    exact hv
  refine Rep.list 1 ys w.heap.size 0 c (fun j => vs.getD j undef) (.inr rfl) hc (fun p hp => by rw [one_cell (h1 p hp)]; rfl) (fun j u hu => ?_) (fun j u hu => ?_)
  · rw [flat_one h1] at hu
    exact ⟨(hcell j u hu).1, h1 u (List.mem_of_getElem? hu)⟩
  · rw [flat_one h1] at hu
    exact (hcell j u hu).2.ext he (fun _ h => .inl h) (fun _ _ h => h)

def pappend (P : Program) (σ : PState) (d : Option Tmp) (t u : TypeId) (s x : PV) (K : PState → Prop) : Prop :=
  match tf P t with
  | some ⟨.slice e es eb, _, _, _, _⟩ => match tf P e with
    | some Fe => match Fe.zero, psrc P σ.heap u es x with
      | some z, some (m, ys) => z.cells.size = es ∧ 0 < es ∧ match s with
        | .row n es' len => match look σ.heap n with
          | some o => es' = es ∧ o.grow = true ∧ o.ty = e ∧ o.es = es ∧ o.cells.length = len * es ∧ len + m ≤ 9223372036854775807 ∧ (len + m) * eb ≤ 140737488355328 ∧
              @pfresh (names (del σ.heap n)) ⟨fun n' => K (PState.put ⟨σ.frame, (n', ⟨e, true, es, o.cells ++ ys⟩) :: del σ.heap n⟩ d (.row n' es (len + m)))⟩
          | none => False
        | .val (.slice none 0 0) => m ≤ 9223372036854775807 ∧ m * eb ≤ 140737488355328 ∧ @pfresh (names σ.heap) ⟨fun n' => K (PState.put ⟨σ.frame, (n', ⟨e, true, es, ys⟩) :: σ.heap⟩ d (.row n' es m))⟩
        | .full es' xs => es' = es ∧ es = 1 ∧ xs.all PV.one = true ∧ xs.length + m ≤ 9223372036854775807 ∧ (xs.length + m) * eb ≤ 140737488355328 ∧ K (σ.put d (.list 1 (xs ++ ys)))
        | _ => False
      | _, _ => False
    | none => False
  | _ => False

theorem Sim.drawn (hs : Sim G E A σ a w) : Sim G E A σ a w.drew := hs.grow (Ext.drew _ w)

theorem pappend_sound {t u : TypeId} {s x : Operand} (hs : Sim G E A σ a w) (ho : o.op = .call { callee := .builtin .append, args := #[s, x], argTypes := #[t, u] })
    (h : pappend P σ o.dst t u (opnd G σ.frame s) (opnd G σ.frame x) K) : Steps1 P G E false o K a w := by
  have hexec : ∀ v w1, Sem.run P (Builtin.append_ #[t, u] o.type #[a.eval s, a.eval x]) w = .ok v w1 → (execOp a.eval o).run P w = .ok (.value v) w1 := by
    intro v w1 hr
    unfold execOp
    simp [ho, resolve, invoke, builtin, hr]
  unfold pappend at h
  split at h
  · rename_i e es eb s1 s2 s3 s4 hF
    obtain ⟨hu, i, hi, his, hib⟩ := tf_slice hF rfl
    subst his
    subst hib
    split at h
    · rename_i Fe hFe
      split at h
      · rename_i z m ys hz hsrcp
        obtain ⟨hzs, hes, h⟩ := h
        have hiz : i.zero = some z := by
          obtain ⟨d', i', hd', hi', hFe'⟩ := tf_some hFe
          rw [hi] at hi'
          cases hi'
          rw [hFe'] at hz
          exact hz
        obtain ⟨news, hsrc, hyl, hy⟩ := psrc_sound (hs.opnd x) (fun n o h => hs.objs n o (look_mem h)) hsrcp
        split at h
        · rename_i n es' len hse
          split at h
          · rename_i ob hl
            obtain ⟨rfl, hg, hty, hoes, hlen, h63, hfit, hk⟩ := h
            have hrep := hs.opnd s
            rw [hse] at hrep
            obtain ⟨v, w1, n', hrun, hn', hr', hsim⟩ := hs.append (ty := o.type) hu hi hiz hzs hes hrep hl hg hty hoes hlen hsrc hyl hy h63 hfit
            exact ⟨v, w1, _, A, .inl (hexec _ _ hrun), hk n' hn', hsim.put o.dst hr', fun h => by cases h⟩
          · exact h.elim
        · rename_i hse
          obtain ⟨h63, hfit, hk⟩ := h
          have hrep := hs.opnd s
          rw [hse] at hrep
          obtain ⟨n0, hneg, hnot, hs0⟩ := hs.adopt e i.size
          have hv := hrep.val_eq
          have hl0 : look (⟨σ.frame, (n0, ⟨e, true, i.size, []⟩) :: σ.heap⟩ : PState).heap n0 = some ⟨e, true, i.size, []⟩ := by simp [look]
          obtain ⟨v, w1, n', hrun, hn', hr', hsim⟩ := hs0.append (ty := o.type) (len := 0) (s := a.eval s) hu hi hiz hzs hes (by rw [hv]; exact Rep.rownil n0 _ hneg) hl0 rfl rfl rfl (by simp) hsrc hyl hy (by omega) (by rw [Nat.zero_add]; exact hfit)
          have hdel : del ((n0, ⟨e, true, i.size, []⟩) :: σ.heap) n0 = σ.heap := by simp [del]
          rw [Nat.zero_add] at hr'
          simp only [hdel, List.nil_append] at hn' hsim
          exact ⟨v, w1, _, A, .inl (hexec _ _ hrun), hk n' hn', hsim.put o.dst hr', fun h => by cases h⟩
        · rename_i es' xs hse
          obtain ⟨rfl, hes1, hone, h63, hfit, hk⟩ := h
          have hrep := hs.opnd s
          rw [hse] at hrep
          have hx1 : ∀ p ∈ xs, p.one = true := fun p hp => List.all_eq_true.1 hone p hp
          obtain ⟨d', hd', hk'⟩ := hsrc.kind
          have hkind : (match d' with | .int _ => true | _ => false) = false := by cases d' <;> first | rfl | exact absurd rfl (hk' _)
          -- the old cells
          have hold : ∃ (base : Option Addr) (olds : List Value), a.eval s = .slice base xs.length xs.length ∧ olds.length = xs.length ∧ (∀ (j : Nat) (p : PV), xs[j]? = some p → ∃ v, olds[j]? = some v ∧ Rep w A p v) ∧
              ∀ w', Keeps w w' → Sem.run P (Builtin.firstCells i.size xs.length (a.eval s)) w' = .ok olds.toArray w' := by
            cases hsv : a.eval s with
            | slice aa n c =>
              rw [hsv] at hrep
              cases hrep with
              | full0 es a' => exact ⟨aa, [], rfl, rfl, by simp, fun w' _ => by cases aa <;> simp [Builtin.firstCells, loadCells, loadCellsFrom]⟩
              | full es xs b off f hA hle hc1 hc2 =>
                rw [flat_one hx1] at hc1 hc2
                refine ⟨_, (List.range xs.length).map f, rfl, by simp, fun j p hp => ⟨f j, by have := (List.getElem?_eq_some_iff.1 hp).1; simp [this], hc2 j p hp⟩, fun w' hw => ?_⟩
                refine run_firstCells_some (P := P) w' i.size xs.length (at_ b off) xs.length xs.length _ (by simp [hes1]) (fun j v hv => ?_)
                have hj : j < xs.length := by
                  have := (List.getElem?_eq_some_iff.1 hv).1
                  simpa using this
                simp [hj] at hv
                subst hv
                rw [at_add]
                exact hw.cell (hc1 j _ (List.getElem?_eq_getElem hj)).1
            | _ => rw [hsv] at hrep; cases hrep
          obtain ⟨base, olds, hsv, hol, hoc, hload⟩ := hold
          have hys1 : ∀ p ∈ xs ++ ys, p.one = true := by
            intro p hp
            rcases List.mem_append.1 hp with h | h
            · exact hx1 p h
            · obtain ⟨j, hj, rfl⟩ := List.getElem_of_mem h
              exact (hy j _ (List.getElem?_eq_getElem hj)).1
          by_cases hm : m = 0
          · subst hm
            have hnews : news = [] := List.eq_nil_of_length_eq_zero (by simpa using hsrc.count)
            subst hnews
            have hys0 : ys = [] := List.eq_nil_of_length_eq_zero (by simpa using hyl)
            subst hys0
            rw [List.append_nil] at hk
            have hf := hsrc.cells w (Keeps.refl w)
            refine ⟨_, w, _, A, .inl (hexec (a.eval s) w ?_), hk, hs.put o.dst ?_, fun h => by cases h⟩
            · rw [hsv]
              simp only [Builtin.append_, List.getElem?_toArray, List.getElem?_cons_zero, List.getElem?_cons_succ, Sem.run_bind, run_underlying hu, Result.andThen_ok, run_underlying hd']
              simp [hkind, sizeOf, typeInfo, hi, hsrc.len, hf]
              cases base <;> rfl
            · cases hsv' : a.eval s with
              | slice aa n c =>
                rw [hsv'] at hrep
                cases hrep with
                | full0 es a' => exact Rep.nil _ _ _
                | full es xs b off f hA hle hc1 hc2 => rw [hes1] at hle; exact Rep.list 1 xs b off _ f hA (Nat.le_refl _) hle hc1 hc2
              | _ => rw [hsv'] at hrep; cases hrep
          · have hrun := run_append_grow' (P := P) (ty := o.type) hu hi hiz hsv hsrc hload (by omega) h63 hfit
            have hge := grownCap_ge w (xs.length + m) xs.length e
            have hml : ys.length = m := by rw [hyl, hsrc.count, hes1, Nat.mul_one]
            refine step_list hs (ys := xs ++ ys) (c := grownCap w (xs.length + m) xs.length e) hys1 (by simp [hml]; omega) (e := e) (fz := (0, 0)) (vs := olds.toArray ++ news.toArray ++ Builtin.zeroCells z.cells (grownCap w (xs.length + m) xs.length e - (xs.length + m))) (fun j p hp => ?_) ?_ hk
            · have key : ∃ v, (olds ++ news)[j]? = some v ∧ Rep w A p v := by
                by_cases hj : j < xs.length
                · rw [List.getElem?_append_left hj] at hp
                  rw [List.getElem?_append_left (by omega)]
                  exact hoc j p hp
                · rw [List.getElem?_append_right (by omega)] at hp
                  rw [List.getElem?_append_right (by omega), hol]
                  exact (hy _ p hp).2
              obtain ⟨v, hv, hr⟩ := key
              refine ⟨v, ?_, hr⟩
              have hjl : j < (olds ++ news).length := (List.getElem?_eq_some_iff.1 hv).1
              have e1 : (olds.toArray ++ news.toArray) = (olds ++ news).toArray := by simp
              rw [e1, Array.getElem?_append_left (by simpa using hjl)]
              simpa using hv
            · rw [List.length_append, hml]
              exact hexec _ _ hrun
        · exact h.elim
      · exact h.elim
    · exact h.elim
  · exact h.elim

/-- copy(dst, src) -/
def pcopy (P : Program) (σ : PState) (d : Option Tmp) (t u : TypeId) (s x : PV) (K : PState → Prop) : Prop :=
  match tf P t with
  | some ⟨.slice _ es _, _, _, _, _⟩ => match psrc P σ.heap u es x with
    | some (m, ys) => match s with
      | .row n es' len => match look σ.heap n with
        | some o => es' = es ∧ len * es ≤ o.cells.length ∧
            K (PState.put ⟨σ.frame, upd σ.heap n { o with cells := ys.take (min m len * es) ++ o.cells.drop (min m len * es) }⟩ d (pint .i64 (min m len : Nat)))
        | none => False
      | .sub n es' off len => match look σ.heap n with
        | some o => es' = es ∧ off + len * es ≤ o.cells.length ∧
            K (PState.put ⟨σ.frame, upd σ.heap n { o with cells := o.cells.take off ++ ys.take (min m len * es) ++ o.cells.drop (off + min m len * es) }⟩ d (pint .i64 (min m len : Nat)))
        | none => False
      | _ => False
    | none => False
  | _ => False

/-- []byte(s) -/
def pbytes (P : Program) (σ : PState) (d : Option Tmp) (src dst : TypeId) (x : PV) (K : PState → Prop) : Prop :=
  match tf P src, tf P dst, x with
  | some ⟨.string, _, _, _, _⟩, some ⟨.slice e _ _, _, _, _, _⟩, .val (.string s) => P.underlying e = some (.int .u8) ∧ (bl s).length ≤ 9223372036854775807 ∧ K (σ.put d (.list 1 (bytes (bl s))))
  | _, _, _ => False

theorem pbytes_sound {src dst : TypeId} {x : Operand} (hs : Sim G E A σ a w) (ho : o.op = .convert src dst x) (h : pbytes P σ o.dst src dst (opnd G σ.frame x) K) : Steps1 P G E q o K a w := by
  unfold pbytes at h
  split at h
  · rename_i s1 s2 s3 s4 e es eb s5 s6 s7 s8 s hFs hFd hxe
    obtain ⟨he, h63, hk⟩ := h
    have hx := hs.opnd x
    rw [hxe] at hx
    have hrun := run_bytes_of_string (P := P) w src dst e s (tf_string hFs rfl) (tf_slice hFd rfl).1 he
    refine step_list hs (ys := bytes (bl s)) (c := grownCap w s.size 0 e) (fun p hp => ?_) (by rw [bytes_length, ← size_bl]; exact grownCap_ge _ _ _ _) (fun j p hp => ?_) (vs := bytesRow s (grownCap w s.size 0 e))
      (fz := ((bytesRow s (grownCap w s.size 0 e)).size, (bytesRow s (grownCap w s.size 0 e)).size + 1)) (e := e) ?_ hk
    · obtain ⟨b, _, rfl⟩ := List.mem_map.1 hp
      rfl
    · have hj : j < (bl s).length := by
        have := (List.getElem?_eq_some_iff.1 hp).1
        rwa [bytes_length] at this
      simp only [bytes, List.getElem?_map, List.getElem?_eq_getElem hj, Option.map_some, Option.some.injEq] at hp
      subst hp
      refine ⟨_, ?_, .val _⟩
      have hj' : j < (s.data.map (fun b => Value.int .u8 b.toNat)).size := by
        simpa [bl] using hj
      unfold bytesRow
      rw [Array.getElem?_append_left hj']
      have hj2 : j < s.data.size := by simpa using hj'
      simp only [Array.getElem?_map, Array.getElem?_eq_getElem hj2, Option.map_some]
      simp [bl]
    · unfold execOp
      simp only [ho, hx.val_eq, Sem.run_bind, hrun, Result.andThen_ok, Sem.run_pure, bytes_length, ← size_bl]
  · exact h.elim
end
end Go.PM
