/- Joined texts (Pmm Pmn Pmo Pmp Pmq Pmr Pms Pmt Pmu Pmv Pmw Pmx Pmy Pmz Dr): the machine, the contracts, the laws. Conditions: none but those that each names. -/
import Derived.Test.YtmnfkfikhcjeaaaJa
import Derived.Below
import Derived.Lib.UnsafeStr
import Derived.MapKept
import Derived.OpenShut
import Derived.Orders
import Derived.Scope
set_option linter.unusedSimpArgs false
set_option linter.unusedVariables false
namespace Go.PM
open Go.RowKit
section
variable {P : Program} {G : Globs} {E : Amb} {A : Nat → Prop} {σ : PState} {a : Act} {w : World} {o : Oper} {K : PState → Prop} {q : Bool}
theorem exists_below (l : List Int) : ∃ n : Int, n < 0 ∧ n ∉ l := by
  have h : ∀ l : List Int, ∃ n : Int, n < 0 ∧ ∀ x ∈ l, n < x := by
    intro l
    induction l with
    | nil => exact ⟨-1, by omega, by simp⟩
    | cons x l ih =>
      obtain ⟨n, h1, h2⟩ := ih
      refine ⟨min n x - 1, by omega, fun y hy => ?_⟩
      cases List.mem_cons.1 hy with
      | inl e => subst e; omega
      | inr e => have := h2 y e; omega
  obtain ⟨n, h1, h2⟩ := h l
  exact ⟨n, h1, fun hn => by have := h2 n hn; omega⟩
/-- a nil slice taken for an empty row of one's own -/
theorem Sim.adopt (hs : Sim G E A σ a w) (e : TypeId) (es : Nat) : ∃ n : Int, n < 0 ∧ n ∉ names σ.heap ∧ Sim G E A ⟨σ.frame, (n, ⟨e, true, es, []⟩) :: σ.heap⟩ a w := by
  obtain ⟨n, hn, hnot⟩ := exists_below (names σ.heap ++ E.F)
  simp only [List.mem_append, not_or] at hnot
  refine ⟨n, hn, hnot.1, hs.ext, hs.lt, hs.a0, hs.a1, hs.globs, List.nodup_cons.2 ⟨hnot.1, hs.nodup⟩, fun m o h => ?_, fun m o h => ?_, fun m o h => ?_, hs.defers, hs.size, hs.frame⟩
  · cases List.mem_cons.1 h with
    | inl e => cases e; exact .inl ⟨rfl, hn, rfl⟩
    | inr e => exact hs.objs m o e
  · cases List.mem_cons.1 h with
    | inl e => cases e; intro b hb; omega
    | inr e => exact hs.own m o e
  · cases List.mem_cons.1 h with
    | inl e => cases e; intro _; exact .inl hnot.2
    | inr e => exact hs.neg m o e
theorem one_cell {p : PV} (h : p.one = true) : p.cells = [p] := by
  cases p <;> first | rfl | (simp [PV.one] at h)
theorem flat_one {xs : List PV} (h : ∀ p ∈ xs, p.one = true) : flat xs = xs := by
  induction xs with
  | nil => rfl
  | cons y ys ih =>
    simp only [flat, List.flatMap_cons] at ih ⊢
    rw [ih (fun z hz => h z (.tail _ hz)), one_cell (h y (.head _))]
    rfl
/-- a new block that nobody turns: a list -/
theorem step_list (hs : Sim G E A σ a w) {ys : List PV} {vs : Array Value} {fz : Nat × Nat} {e : TypeId} {c : Nat} (h1 : ∀ p ∈ ys, p.one = true) (hc : ys.length ≤ c)
    (hy : ∀ (j : Nat) (p : PV), ys[j]? = some p → ∃ v, vs[j]? = some v ∧ Rep w A p v) (hrun : (execOp a.eval o).run P w = .ok (.value (.slice (some (at_ w.heap.size 0)) ys.length c)) (w.drew.alloc (.cells vs e fz)))
    (hk : K (σ.put o.dst (.list 1 ys))) : Steps1 P G E q o K a w := by
  have he : Ext (fun _ => False) w (w.drew.alloc (.cells vs e fz)) := (Ext.drew (fun _ => False) w).trans (Ext.alloc (fun _ => False) _ _) (fun _ _ h => h)
  have hs1 := hs.grow he
  have hs2 := hs1.more (A' := fun b => A b ∨ b = w.heap.size) (fun b h => .inl h) (fun b h => by
    rcases h with h | h
    · exact .inl h
    · subst h
      refine .inr ⟨by simp, hs.ext.size, fun hn => ?_⟩
      obtain ⟨⟨n, o'⟩, hno, hn'⟩ := List.mem_map.1 hn
      have := (hs.own n o' hno w.heap.size hn').1
      omega)
  refine ⟨_, _, _, _, .inl hrun, hk, hs2.put o.dst ?_, fun _ b hb => Below.heap_alloc w.drew _ b hb⟩
  have hcell : ∀ (j : Nat) (p : PV), ys[j]? = some p → (w.drew.alloc (.cells vs e fz)).cell? (at_ w.heap.size (0 + j)) = some (vs.getD j undef) ∧ Rep w A p (vs.getD j undef) := by
    intro j p hp
    obtain ⟨v, hv, hr⟩ := hy j p hp
    have hg : vs.getD j undef = v := by simp [Array.getD_eq_getD_getElem?, hv]
    rw [hg]
    refine ⟨?_, hr⟩
    have hb := heap_alloc_new w.drew (.cells vs e fz)
    rw [show w.drew.heap.size = w.heap.size from rfl] at hb
    rw [cell_of_block hb, Nat.zero_add]
    exact hv
  refine Rep.list 1 ys w.heap.size 0 c (fun j => vs.getD j undef) (.inr rfl) hc (fun p hp => by rw [one_cell (h1 p hp)]; rfl) (fun j u hu => ?_) (fun j u hu => ?_)
  · rw [flat_one h1] at hu
    exact ⟨(hcell j u hu).1, h1 u (List.mem_of_getElem? hu)⟩
  · rw [flat_one h1] at hu
    exact (hcell j u hu).2.ext he (fun _ h => .inl h) (fun _ _ h => h)
def pappend (P : Program) (σ : PState) (d : Option Tmp) (t u : TypeId) (s x : PV) (K : PState → Prop) : Prop :=
  match tf P t with
  | some ⟨.slice e es eb, _, _, _, _⟩ => match tf P e with
    | some Fe => match Fe.zero, psrc P σ.heap u es x with
      | some z, some (m, ys) => z.cells.size = es ∧ 0 < es ∧ match s with
        | .row n es' len => match look σ.heap n with
          | some o => es' = es ∧ o.grow = true ∧ o.ty = e ∧ o.es = es ∧ o.cells.length = len * es ∧ len + m ≤ 9223372036854775807 ∧ (len + m) * eb ≤ 140737488355328 ∧
              @pfresh (names (del σ.heap n)) ⟨fun n' => K (PState.put ⟨σ.frame, (n', ⟨e, true, es, o.cells ++ ys⟩) :: del σ.heap n⟩ d (.row n' es (len + m)))⟩
          | none => False
        | .val (.slice none 0 0) => m ≤ 9223372036854775807 ∧ m * eb ≤ 140737488355328 ∧ @pfresh (names σ.heap) ⟨fun n' => K (PState.put ⟨σ.frame, (n', ⟨e, true, es, ys⟩) :: σ.heap⟩ d (.row n' es m))⟩
        | .full es' xs => es' = es ∧ es = 1 ∧ xs.all PV.one = true ∧ xs.length + m ≤ 9223372036854775807 ∧ (xs.length + m) * eb ≤ 140737488355328 ∧ K (σ.put d (.list 1 (xs ++ ys)))
        | _ => False
      | _, _ => False
    | none => False
  | _ => False
theorem Sim.drawn (hs : Sim G E A σ a w) : Sim G E A σ a w.drew := hs.grow (Ext.drew _ w)
theorem pappend_sound {t u : TypeId} {s x : Operand} (hs : Sim G E A σ a w) (ho : o.op = .call { callee := .builtin .append, args := #[s, x], argTypes := #[t, u] })
    (h : pappend P σ o.dst t u (opnd G σ.frame s) (opnd G σ.frame x) K) : Steps1 P G E false o K a w := by
  have hexec : ∀ v w1, Sem.run P (Builtin.append_ #[t, u] o.type #[a.eval s, a.eval x]) w = .ok v w1 → (execOp a.eval o).run P w = .ok (.value v) w1 := by
    intro v w1 hr
    unfold execOp
    simp [ho, resolve, invoke, builtin, hr]
  unfold pappend at h
  split at h
  · rename_i e es eb s1 s2 s3 s4 hF
    obtain ⟨hu, i, hi, his, hib⟩ := tf_slice hF rfl
    subst his
    subst hib
    split at h
    · rename_i Fe hFe
      split at h
      · rename_i z m ys hz hsrcp
        obtain ⟨hzs, hes, h⟩ := h
        have hiz : i.zero = some z := by
          obtain ⟨d', i', hd', hi', hFe'⟩ := tf_some hFe
          rw [hi] at hi'
          cases hi'
          rw [hFe'] at hz
          exact hz
        obtain ⟨news, hsrc, hyl, hy⟩ := psrc_sound (hs.opnd x) (fun n o h => hs.objs n o (look_mem h)) hsrcp
        split at h
        · rename_i n es' len hse
          split at h
          · rename_i ob hl
            obtain ⟨rfl, hg, hty, hoes, hlen, h63, hfit, hk⟩ := h
            have hrep := hs.opnd s
            rw [hse] at hrep
            obtain ⟨v, w1, n', hrun, hn', hr', hsim⟩ := hs.append (ty := o.type) hu hi hiz hzs hes hrep hl hg hty hoes hlen hsrc hyl hy h63 hfit
            exact ⟨v, w1, _, A, .inl (hexec _ _ hrun), hk n' hn', hsim.put o.dst hr', fun h => by cases h⟩
          · exact h.elim
        · rename_i hse
          obtain ⟨h63, hfit, hk⟩ := h
          have hrep := hs.opnd s
          rw [hse] at hrep
          obtain ⟨n0, hneg, hnot, hs0⟩ := hs.adopt e i.size
          have hv := hrep.val_eq
          have hl0 : look (⟨σ.frame, (n0, ⟨e, true, i.size, []⟩) :: σ.heap⟩ : PState).heap n0 = some ⟨e, true, i.size, []⟩ := by simp [look]
          obtain ⟨v, w1, n', hrun, hn', hr', hsim⟩ := hs0.append (ty := o.type) (len := 0) (s := a.eval s) hu hi hiz hzs hes (by rw [hv]; exact Rep.rownil n0 _ hneg) hl0 rfl rfl rfl (by simp) hsrc hyl hy (by omega) (by rw [Nat.zero_add]; exact hfit)
          have hdel : del ((n0, ⟨e, true, i.size, []⟩) :: σ.heap) n0 = σ.heap := by simp [del]
          rw [Nat.zero_add] at hr'
          simp only [hdel, List.nil_append] at hn' hsim
          exact ⟨v, w1, _, A, .inl (hexec _ _ hrun), hk n' hn', hsim.put o.dst hr', fun h => by cases h⟩
        · rename_i es' xs hse
          obtain ⟨rfl, hes1, hone, h63, hfit, hk⟩ := h
          have hrep := hs.opnd s
          rw [hse] at hrep
          have hx1 : ∀ p ∈ xs, p.one = true := fun p hp => List.all_eq_true.1 hone p hp
          obtain ⟨d', hd', hk'⟩ := hsrc.kind
          have hkind : (match d' with | .int _ => true | _ => false) = false := by cases d' <;> first | rfl | exact absurd rfl (hk' _)
          -- the old cells
          have hold : ∃ (base : Option Addr) (olds : List Value), a.eval s = .slice base xs.length xs.length ∧ olds.length = xs.length ∧ (∀ (j : Nat) (p : PV), xs[j]? = some p → ∃ v, olds[j]? = some v ∧ Rep w A p v) ∧
              ∀ w', Keeps w w' → Sem.run P (Builtin.firstCells i.size xs.length (a.eval s)) w' = .ok olds.toArray w' := by
            cases hsv : a.eval s with
            | slice aa n c =>
              rw [hsv] at hrep
              cases hrep with
              | full0 es a' => exact ⟨aa, [], rfl, rfl, by simp, fun w' _ => by cases aa <;> simp [Builtin.firstCells, loadCells, loadCellsFrom]⟩
              | full es xs b off f hA hle hc1 hc2 =>
                rw [flat_one hx1] at hc1 hc2
                refine ⟨_, (List.range xs.length).map f, rfl, by simp, fun j p hp => ⟨f j, by have := (List.getElem?_eq_some_iff.1 hp).1; simp [this], hc2 j p hp⟩, fun w' hw => ?_⟩
                refine run_firstCells_some (P := P) w' i.size xs.length (at_ b off) xs.length xs.length _ (by simp [hes1]) (fun j v hv => ?_)
                have hj : j < xs.length := by
                  have := (List.getElem?_eq_some_iff.1 hv).1
                  simpa using this
                simp [hj] at hv
                subst hv
                rw [at_add]
                exact hw.cell (hc1 j _ (List.getElem?_eq_getElem hj)).1
            | _ => rw [hsv] at hrep; cases hrep
          obtain ⟨base, olds, hsv, hol, hoc, hload⟩ := hold
          have hys1 : ∀ p ∈ xs ++ ys, p.one = true := by
            intro p hp
            rcases List.mem_append.1 hp with h | h
            · exact hx1 p h
            · obtain ⟨j, hj, rfl⟩ := List.getElem_of_mem h
              exact (hy j _ (List.getElem?_eq_getElem hj)).1
          by_cases hm : m = 0
          · subst hm
            have hnews : news = [] := List.eq_nil_of_length_eq_zero (by simpa using hsrc.count)
            subst hnews
            have hys0 : ys = [] := List.eq_nil_of_length_eq_zero (by simpa using hyl)
            subst hys0
            rw [List.append_nil] at hk
            have hf := hsrc.cells w (Keeps.refl w)
            refine ⟨_, w, _, A, .inl (hexec (a.eval s) w ?_), hk, hs.put o.dst ?_, fun h => by cases h⟩
            · rw [hsv]
              simp only [Builtin.append_, List.getElem?_toArray, List.getElem?_cons_zero, List.getElem?_cons_succ, Sem.run_bind, run_underlying hu, Result.andThen_ok, run_underlying hd']
              simp [hkind, sizeOf, typeInfo, hi, hsrc.len, hf]
              cases base <;> rfl
            · cases hsv' : a.eval s with
              | slice aa n c =>
                rw [hsv'] at hrep
                cases hrep with
                | full0 es a' => exact Rep.nil _ _ _
                | full es xs b off f hA hle hc1 hc2 => rw [hes1] at hle; exact Rep.list 1 xs b off _ f hA (Nat.le_refl _) hle hc1 hc2
              | _ => rw [hsv'] at hrep; cases hrep
          · have hrun := run_append_grow' (P := P) (ty := o.type) hu hi hiz hsv hsrc hload (by omega) h63 hfit
            have hge := grownCap_ge w (xs.length + m) xs.length e
            have hml : ys.length = m := by rw [hyl, hsrc.count, hes1, Nat.mul_one]
            refine step_list hs (ys := xs ++ ys) (c := grownCap w (xs.length + m) xs.length e) hys1 (by simp [hml]; omega) (e := e) (fz := (0, 0)) (vs := olds.toArray ++ news.toArray ++ Builtin.zeroCells z.cells (grownCap w (xs.length + m) xs.length e - (xs.length + m))) (fun j p hp => ?_) ?_ hk
            · have key : ∃ v, (olds ++ news)[j]? = some v ∧ Rep w A p v := by
                by_cases hj : j < xs.length
                · rw [List.getElem?_append_left hj] at hp
                  rw [List.getElem?_append_left (by omega)]
                  exact hoc j p hp
                · rw [List.getElem?_append_right (by omega)] at hp
                  rw [List.getElem?_append_right (by omega), hol]
                  exact (hy _ p hp).2
              obtain ⟨v, hv, hr⟩ := key
              refine ⟨v, ?_, hr⟩
              have hjl : j < (olds ++ news).length := (List.getElem?_eq_some_iff.1 hv).1
              have e1 : (olds.toArray ++ news.toArray) = (olds ++ news).toArray := by simp
              rw [e1, Array.getElem?_append_left (by simpa using hjl)]
              simpa using hv
            · rw [List.length_append, hml]
              exact hexec _ _ hrun
        · exact h.elim
      · exact h.elim
    · exact h.elim
  · exact h.elim
/-- copy(dst, src) -/
def pcopy (P : Program) (σ : PState) (d : Option Tmp) (t u : TypeId) (s x : PV) (K : PState → Prop) : Prop :=
  match tf P t with
  | some ⟨.slice _ es _, _, _, _, _⟩ => match psrc P σ.heap u es x with
    | some (m, ys) => match s with
      | .row n es' len => match look σ.heap n with
        | some o => es' = es ∧ len * es ≤ o.cells.length ∧
            K (PState.put ⟨σ.frame, upd σ.heap n { o with cells := ys.take (min m len * es) ++ o.cells.drop (min m len * es) }⟩ d (pint .i64 (min m len : Nat)))
        | none => False
      | .sub n es' off len => match look σ.heap n with
        | some o => es' = es ∧ off + len * es ≤ o.cells.length ∧
            K (PState.put ⟨σ.frame, upd σ.heap n { o with cells := o.cells.take off ++ ys.take (min m len * es) ++ o.cells.drop (off + min m len * es) }⟩ d (pint .i64 (min m len : Nat)))
        | none => False
      | _ => False
    | none => False
  | _ => False
theorem freeze_heap {b N : Nat} {cur : Array Value} {t : TypeId} (h : w.heap[b]? = some (.cells cur t (0, 0))) : (w.freeze ⟨b, N, none⟩ 1).heap[b]? = some (.cells cur t (N, N + 1)) ∧ (∀ x, x ≠ b → (w.freeze ⟨b, N, none⟩ 1).heap[x]? = w.heap[x]?) ∧ (w.freeze ⟨b, N, none⟩ 1).heap.size = w.heap.size := by
  unfold World.freeze
  rw [if_neg (by decide)]
  refine ⟨?_, fun x hx => ?_, by simp⟩
  · simp only [Array.getElem?_modify, if_pos, h, Option.map_some]
    rfl
  · simp only [Array.getElem?_modify]
    rw [if_neg (fun e => hx e.symm)]
theorem Ext.mark {b N : Nat} {cur : Array Value} {t : TypeId} (h : w.heap[b]? = some (.cells cur t (0, 0))) : Ext (fun x => x = b) w (w.freeze ⟨b, N, none⟩ 1) := by
  obtain ⟨h1, h2, h3⟩ := freeze_heap (N := N) h
  refine ⟨by unfold World.freeze; rw [if_neg (by decide)], by unfold World.freeze; rw [if_neg (by decide)], by unfold World.freeze; rw [if_neg (by decide)], by omega, fun x _ hx => h2 x hx, fun x y hy => ?_⟩
  unfold kindOf at hy ⊢
  by_cases hx : x = b
  · subst hx
    rw [h1]
    rw [h] at hy
    exact hy
  · rw [h2 x hx]
    exact hy
/-- the run-time's mark behind an object -/
theorem Sim.mark (hs : Sim G E A σ a w) {n : Int} {o : PObj} {b N : Nat} (hl : look σ.heap n = some o) {sh : TypeId × Nat} (hn : n = b) (hsx : w.shape? b = some sh) (hg : o.grow = true) (hes : 0 < o.es) (hN : ∀ cur fz, w.heap[b]? = some (.cells cur o.ty fz) → cur.size ≤ N) :
    Sim G E A ⟨σ.frame, upd σ.heap n { o with grow := false }⟩ a (w.freeze ⟨b, N, none⟩ 1) := by
  have hmem := look_mem hl
  obtain ⟨cur, fz, f, hh, hu, hgz, hc⟩ := (hs.objs n o hmem).block hn hsx
  have hz := hgz.1 hg
  subst hz
  obtain ⟨hb1, hb2, hb3⟩ := hs.own n o hmem b hn
  obtain ⟨f1, f2, f3⟩ := freeze_heap (N := N) hh
  have he : Ext (fun x => x = b) w (w.freeze ⟨b, N, none⟩ 1) := Ext.mark hh
  have hAb : ∀ x, A x → ¬ x = b := fun x hx e => hb2 (e ▸ hx)
  refine ⟨hs.ext.trans he (fun x hx e => by
      subst e
      rcases hb3 with h | h
      · omega
      · exact h), fun x hx => Nat.lt_of_lt_of_le (hs.lt x hx) he.size, hs.a0, hs.a1, fun g => (hs.globs g).ext he (fun _ h => h) hAb, ?_, fun m o' h => ?_, fun m o' h x hx => ?_, fun m o' h hm => ?_, hs.defers, hs.size, fun i p hp => ?_⟩
  · show (names (upd σ.heap n _)).Nodup
    rw [names_upd]
    exact hs.nodup
  · rcases mem_upd hs.nodup h with ⟨rfl, rfl⟩ | ⟨hne, hm⟩
    · refine .inr (.inl ⟨b, cur, (N, N + 1), f, hn, f1, fun i hi hh2 => ?_, ⟨fun hf => Bool.noConfusion hf, fun _ (h0 : o.es = 0) => absurd hes (by omega)⟩, fun j u hj => ?_⟩)
      · have := hN cur _ hh
        have := hh2.1
        simp only at this
        omega
      · obtain ⟨q1, q2, q3⟩ := hc j u hj
        exact ⟨q1, q2, q3.ext he (fun _ h => h) hAb⟩
    · exact (hs.objs m o' hm).ext he (fun _ h => h) hAb (fun x hx e => hne (by rw [hx, e, hn]))
  · have hsz : w.heap.size ≤ (w.freeze ⟨b, N, none⟩ 1).heap.size := he.size
    rcases mem_upd hs.nodup h with ⟨rfl, rfl⟩ | ⟨hne, hm⟩
    · have : x = b := by omega
      subst this
      exact ⟨Nat.lt_of_lt_of_le hb1 hsz, hb2, hb3⟩
    · obtain ⟨q1, q2, q3⟩ := hs.own m o' hm x hx
      exact ⟨Nat.lt_of_lt_of_le q1 hsz, q2, q3⟩
  · rcases mem_upd hs.nodup h with ⟨rfl, rfl⟩ | ⟨hne, hm'⟩
    · omega
    · exact hs.neg m o' hm' hm
  · obtain ⟨v, hv, hr⟩ := hs.frame i p hp
    exact ⟨v, hv, hr.ext he (fun _ h => h) hAb⟩
/-- a slice of bytes turned into its own type: the run-time's mark -/
def pmark (P : Program) (σ : PState) (d : Option Tmp) (src dst : TypeId) (x : PV) (K : PState → Prop) : Prop :=
  match tf P src, x with
  | some ⟨.slice e _ _, _, _, _, _⟩, .row n es len => match look σ.heap n with
    | some o => src = dst ∧ P.underlying e = some (.int .u8) ∧ 0 < len ∧ o.grow = true ∧ 0 < o.es ∧ K (PState.put ⟨σ.frame, upd σ.heap n { o with grow := false }⟩ d (.row n es len))
    | none => False
  | _, _ => False
theorem pmark_sound {src dst : TypeId} {x : Operand} (hs : Sim G E A σ a w) (ho : o.op = .convert src dst x) (h : pmark P σ o.dst src dst (opnd G σ.frame x) K) : Steps1 P G E false o K a w := by
  unfold pmark at h
  split at h
  · rename_i s1 e es0 eb s2 s3 s4 s5 n es len hF hxe
    split at h
    · rename_i ob hl
      obtain ⟨rfl, he, h0, hg, hes, hk⟩ := h
      have hx := hs.opnd x
      rw [hxe] at hx
      rcases hx.row_inv with ⟨hn, rfl, hv⟩ | ⟨b, c, N, t', hn, hv, hsh, hN, hlc, hmx⟩
      · omega
      · obtain ⟨cur, fz, f, hh, hu, hgz, hc⟩ := (hs.objs n ob (look_mem hl)).block hn hsh
        have hNs : N = cur.size := by
          rw [World.shape?, hh] at hsh
          simp at hsh
          exact hsh.2.symm
        have hs2 := hs.mark (N := N) hl hn hsh hg hes (fun cur' fz' h' => by
          rw [hh] at h'
          cases h'
          omega)
        have hsu := (tf_slice hF rfl).1
        have hz := hgz.1 hg
        subst hz
        have hsh2 := (Ext.mark (N := N) hh).shape b _ hsh
        refine ⟨a.eval x, w.freeze ⟨b, N, none⟩ 1, _, A, .inl ?_, hk, hs2.put o.dst (p := .row n es len) (v := a.eval x) ?_, fun hf => Bool.noConfusion hf⟩
        · unfold execOp
          simp only [ho, Sem.run_bind]
          rw [hv]
          simp [convert, run_underlying hsu, run_underlying he, markStringish, hsh]
        · rw [hv, hn]
          exact .row b es len c N t' hsh2 hN hlc hmx
    · exact h.elim
  · exact h.elim
/-- []byte(s) -/
def pbytes (P : Program) (σ : PState) (d : Option Tmp) (src dst : TypeId) (x : PV) (K : PState → Prop) : Prop :=
  match tf P src, tf P dst, x with
  | some ⟨.string, _, _, _, _⟩, some ⟨.slice e _ _, _, _, _, _⟩, .val (.string s) => P.underlying e = some (.int .u8) ∧ (bl s).length ≤ 9223372036854775807 ∧ K (σ.put d (.list 1 (bytes (bl s))))
  | _, _, _ => False
theorem pbytes_sound {src dst : TypeId} {x : Operand} (hs : Sim G E A σ a w) (ho : o.op = .convert src dst x) (h : pbytes P σ o.dst src dst (opnd G σ.frame x) K) : Steps1 P G E q o K a w := by
  unfold pbytes at h
  split at h
  · rename_i s1 s2 s3 s4 e es eb s5 s6 s7 s8 s hFs hFd hxe
    obtain ⟨he, h63, hk⟩ := h
    have hx := hs.opnd x
    rw [hxe] at hx
    have hrun := run_bytes_of_string (P := P) w src dst e s (tf_string hFs rfl) (tf_slice hFd rfl).1 he
    refine step_list hs (ys := bytes (bl s)) (c := grownCap w s.size 0 e) (fun p hp => ?_) (by rw [bytes_length, ← size_bl]; exact grownCap_ge _ _ _ _) (fun j p hp => ?_) (vs := bytesRow s (grownCap w s.size 0 e))
      (fz := ((bytesRow s (grownCap w s.size 0 e)).size, (bytesRow s (grownCap w s.size 0 e)).size + 1)) (e := e) ?_ hk
    · obtain ⟨b, _, rfl⟩ := List.mem_map.1 hp
      rfl
    · have hj : j < (bl s).length := by
        have := (List.getElem?_eq_some_iff.1 hp).1
        rwa [bytes_length] at this
      simp only [bytes, List.getElem?_map, List.getElem?_eq_getElem hj, Option.map_some, Option.some.injEq] at hp
      subst hp
      refine ⟨_, ?_, .val _⟩
      have hj' : j < (s.data.map (fun b => Value.int .u8 b.toNat)).size := by
        simpa [bl] using hj
      unfold bytesRow
      rw [Array.getElem?_append_left hj']
      have hj2 : j < s.data.size := by simpa using hj'
      simp only [Array.getElem?_map, Array.getElem?_eq_getElem hj2, Option.map_some]
      simp [bl]
    · unfold execOp
      simp only [ho, hx.val_eq, Sem.run_bind, hrun, Result.andThen_ok, Sem.run_pure, bytes_length, ← size_bl]
  · exact h.elim
end
/-- Are two lists of numbers the same? -/
def vsames : List Value → List Value → Option Bool
  | [], [] => some true
  | .int k a :: r, .int k' b :: s => if k = k' then (match vsames r s with
    | some c => some (a == b && c)
    | none => none) else none
  | .string x :: r, .string y :: s => match vsames r s with
    | some c => some (bl x == bl y && c)
    | none => none
  | _, _ => none
/-- Are two keys the same? -/
def vsame : Value → Value → Option Bool
  | .int k a, .int k' b => if k = k' then some (a == b) else none
  | .string s, .string t => some (bl s == bl t)
  | .bool a, .bool b => some (a == b)
  | .agg a, .agg b => vsames a.toList b.toList
  | _, _ => none
/-- Where a key lies among the entries of a map, and what lies there. -/
def mfind (k : Value) : List PV → Nat → Option (Option (Nat × PV))
  | [], _ => some none
  | .ent (.val k') v :: r, i => match vsame k k' with
    | some true => some (some (i, v))
    | some false => mfind k r (i + 1)
    | none => none
  | _ :: _, _ => none
/-- The numbers, or the strings, of a key that is an array. -/
def pkeys (kd : IntKind) : Nat → List PV → Option (List Value)
  | 0, [] => some []
  | n + 1, .val (.int k a) :: r => if k = kd then (match pkeys kd n r with
    | some l => some (.int k a :: l)
    | none => none) else none
  | _, _ => none
def pkeyt : Nat → List PV → Option (List Value)
  | 0, [] => some []
  | n + 1, .val (.string s) :: r => match pkeyt n r with
    | some l => some (.string s :: l)
    | none => none
  | _, _ => none
/-- A key of a map, as a value. -/
def pkey (P : Program) (kt : TypeId) (k : PV) : Option Value :=
  match tf P kt, k with
  | some ⟨.int kd, _, _, _, _⟩, .val (.int kd' n) => if kd = kd' then some (.int kd' n) else none
  | some ⟨.string, _, _, _, _⟩, .val (.string s) => some (.string s)
  | some ⟨.bool, _, _, _, _⟩, .val (.bool b) => some (.bool b)
  | some ⟨.array n e 1 _, _, _, _, _⟩, .agg cs => match tf P e with
    | some ⟨.int kd, _, _, _, _⟩ => match pkeys kd n cs with
      | some l => some (.agg l.toArray)
      | none => none
    | some ⟨.string, _, _, _, _⟩ => match pkeyt n cs with
      | some l => some (.agg l.toArray)
      | none => none
    | _ => none
  | _, _ => none
theorem bytes_beq (s t : ByteArray) : (s == t) = (bl s == bl t) := by
  rw [Bool.eq_iff_iff, MapKept.bytes_beq]
  exact ⟨fun h => by rw [h, beq_self_eq_true], fun h => by rw [← mk_bl s, ← mk_bl t, beq_iff_eq.1 h]⟩
/-- Where a key lies among the entries of the model. -/
def vfind (k : Value) : List MapEntry → Nat → Option (Option (Nat × Value))
  | [], _ => some none
  | e :: es, i => match vsame k e.key with
    | some true => some (some (i, e.val))
    | some false => vfind k es (i + 1)
    | none => none
/-- What a key of a map must bear. -/
structure KeyRuns (P : Program) (kt : TypeId) (kv : Value) : Prop where
  check : ∀ (em : Bool) (w : World), Sem.run P (Instr.checkKey em 10000 kt kv) w = .ok () w
  stays : ∀ (w : World), Sem.run P (Instr.keyThatStays kv kv) w = .ok kv w
  find : ∀ {es : List MapEntry} {res : Option (Nat × Value)} {w : World}, vfind kv es 0 = some res → Sem.run P (Instr.findKey kt kv es) w = .ok res w
  same : ∀ k', vsame kv k' = some true → k' = kv
theorem KeyRuns.plain {P : Program} {kt : TypeId} {kv : Value} {d : TypeDesc} (hd : P.underlying kt = some d) (hik : MapKept.IsKey d kv)
    (hs : ∀ k' r, vsame kv k' = some r → Instr.sameNow d kv k' = some r ∧ (r = true → k' = kv)) : KeyRuns P kt kv where
  check := fun em w => MapKept.run_checkKey hd hik em 9999
  stays := fun w => MapKept.run_keyThatStays hik
  find := fun {es res w} h => by
    refine MapKept.run_findKey hd ?_
    have go : ∀ (es : List MapEntry) (i : Nat) (res : Option (Nat × Value)), vfind kv es i = some res → Instr.findNow d kv es i = some res := by
      intro es
      induction es with
      | nil => intro i res h; exact h
      | cons e es ih =>
        intro i res h
        simp only [vfind] at h
        split at h
        · rename_i hv
          simp only [Instr.findNow, (hs _ _ hv).1]
          exact h
        · rename_i hv
          simp only [Instr.findNow, (hs _ _ hv).1]
          exact ih _ _ h
        · cases h
    exact go es 0 res h
  same := fun k' h => (hs k' true h).2 rfl
/-- A list of numbers of one kind, or of strings. -/
def IntsK (d : TypeDesc) (l : List Value) : Prop := ∀ v ∈ l, (∃ kd a, d = .int kd ∧ v = .int kd a) ∨ (d = .string ∧ ∃ s, v = .string s)
theorem vsames_eq : ∀ {l m : List Value}, vsames l m = some true → m = l
  | [], [], _ => rfl
  | x :: l, y :: m, h => by
    cases x <;> cases y <;> simp only [vsames] at h <;> try (cases h; done)
    all_goals first
      | (split at h
         · rename_i k a k' b e
           subst e
           split at h
           · rename_i c hc
             simp only [Option.some.injEq, Bool.and_eq_true, beq_iff_eq] at h
             obtain ⟨rfl, rfl⟩ := h
             rw [vsames_eq hc]
           · cases h
         · cases h
         done)
      | (split at h
         · rename_i u v c hc
           simp only [Option.some.injEq, Bool.and_eq_true, beq_iff_eq] at h
           obtain ⟨h1, rfl⟩ := h
           rw [vsames_eq hc, ← mk_bl u, ← h1, mk_bl]
         · cases h)
  | [], _ :: _, h => by simp [vsames] at h
  | x :: _, [], h => by cases x <;> simp [vsames] at h
theorem vsames_peqs {d : TypeDesc} : ∀ {l m : List Value} {r : Bool}, IntsK d l → vsames l m = some r → peqs (List.replicate l.length d) (l.map .val) (m.map .val) = some r
  | [], [], r, _, h => by simpa [vsames, peqs] using h
  | x :: l, y :: m, r, hk, h => by
    rcases hk x (by simp) with ⟨kd, a, rfl, rfl⟩ | ⟨rfl, s, rfl⟩
    · cases y <;> simp only [vsames] at h <;> try (cases h; done)
      split at h
      · rename_i k b e
        subst e
        split at h
        · rename_i c hc
          cases h
          simp only [List.map_cons, List.length_cons, List.replicate_succ, peqs, peq1, if_true, vsames_peqs (fun v hv => hk v (by simp [hv])) hc]
        · cases h
      · cases h
    · cases y <;> simp only [vsames] at h <;> try (cases h; done)
      split at h
      · rename_i c hc
        cases h
        simp only [List.map_cons, List.length_cons, List.replicate_succ, peqs, peq1, vsames_peqs (fun v hv => hk v (by simp [hv])) hc]
      · cases h
  | [], _ :: _, _, _, h => by simp [vsames] at h
  | x :: _, [], _, _, h => by cases x <;> simp [vsames] at h
theorem KeyRuns.ints {P : Program} {kt e : TypeId} {n : Nat} {d : TypeDesc} (hu : P.underlying kt = some (.array n e)) (he : scalarD P e = some d) {l : List Value} (hl : l.length = n) (hk : IntsK d l) :
    KeyRuns P kt (.agg l.toArray) := by
  obtain ⟨hue, ⟨i, hi, hsz⟩, _⟩ := scalarD_some he
  have hc : P.cellsOf e = 1 := by simp [Program.cellsOf, hi, hsz]
  refine ⟨fun em w => ?_, fun w => ?_, fun {es res w} h => ?_, fun k' h => ?_⟩
  · rw [show (10000 : Nat) = 9999 + 1 from rfl, Instr.checkKey]
    simp only [Sem.run_bind, run_underlying hu, Result.andThen_ok]
    simp only [Std.Legacy.Range.forIn_eq_forIn_range', Std.Legacy.Range.size, Nat.sub_zero, Nat.add_one_sub_one, Nat.div_one]
    have each : ∀ j ∈ List.range' 0 n, j < l.length := fun j hj => by
      rw [List.mem_range'_1] at hj; omega
    generalize List.range' 0 n = is at each
    induction is with
    | nil => simp
    | cons j is ih =>
      have hj := each j (by simp)
      have hv : l.toArray[j * 1]? = some l[j] := by
        rw [Nat.mul_one, List.getElem?_toArray, List.getElem?_eq_getElem hj]
      have p1 := run_part1 he hv w
      have p2 : Sem.run P (Instr.checkKey em 9999 e l[j]) w = .ok () w := by
        rcases hk l[j] (List.getElem_mem hj) with ⟨kd, a, rfl, ha⟩ | ⟨rfl, s, ha⟩
        · rw [ha]
          exact MapKept.run_checkKey (k := .int kd a) hue (by simp [MapKept.IsKey]) em 9998
        · rw [ha]
          exact MapKept.run_checkKey (k := .string s) hue (by simp [MapKept.IsKey]) em 9998
      simp only [List.forIn_cons, Sem.run_bind, run_sizeOf w hi, hsz, hc, Result.andThen_ok, p1, p2, Sem.run_pure]
      exact ih (fun y hy => each y (by simp [hy]))
  · have hs : Instr.sameBits 10000 (.agg l.toArray) (.agg l.toArray) = true := by
      show Instr.sameBits (9999 + 1) (.agg l.toArray) (.agg l.toArray) = true
      simp only [Instr.sameBits, beq_self_eq_true, Bool.true_and, List.all_eq_true]
      intro p hp
      obtain ⟨j, hj, e⟩ := List.getElem_of_mem hp
      rw [List.getElem_zip] at e
      rw [← e]
      have hj' : j < l.length := by simpa using hj
      rcases hk l[j] (List.getElem_mem hj') with ⟨kd, a, _, ha⟩ | ⟨_, s, ha⟩
      · simp only [ha, Instr.sameBits, beq_self_eq_true, Bool.and_self]
      · simp only [ha, Instr.sameBits, bytes_beq, beq_self_eq_true]
    simp [Instr.keyThatStays, hs]
  · have eqs : ∀ {k' : Value} {r : Bool}, vsame (.agg l.toArray) k' = some r → Sem.run P (Op.equal kt (.agg l.toArray) k') w = .ok r w := by
      intro k' r hr
      cases k' <;> simp only [vsame] at hr <;> try (cases hr; done)
      rename_i ys
      have hp := vsames_peqs (d := d) (by simpa using hk) hr
      show Sem.run P (Op.equalIn 10000 kt (.agg l.toArray) (.agg ys)) w = .ok r w
      rw [run_equalIn_array (w := w) 9999 _ _ hu hi, hc]
      have hrun := run_eqArray (P := P) (w := w) (A := fun _ => True) he 9998 w l.toArray ys n 0 (l.map .val) (ys.toList.map .val) r (fun j u hju => by
        rw [List.getElem?_map, Option.map_eq_some_iff] at hju
        obtain ⟨v, hv, rfl⟩ := hju
        exact ⟨v, by simpa using hv, .val v⟩) (fun j u hju => by
        rw [List.getElem?_map, Option.map_eq_some_iff] at hju
        obtain ⟨v, hv, rfl⟩ := hju
        exact ⟨v, by simpa using hv, .val v⟩) (by rw [← hl]; simpa using hp)
      rw [← List.range_eq_range'] at hrun
      exact hrun
    cases es with
    | nil =>
      simp only [vfind, Option.some.injEq] at h
      subst h
      simp [Instr.findKey, run_underlying hu, Instr.findNow]
    | cons e0 es0 =>
      have hno : Instr.findNow (.array n e) (.agg l.toArray) (e0 :: es0) 0 = none := by
        simp only [Instr.findNow, Instr.sameNow]
      have go : ∀ (es : List MapEntry) (i : Nat) (res : Option (Nat × Value)), vfind (.agg l.toArray) es i = some res → Sem.run P (Instr.findAsking kt (.agg l.toArray) es i) w = .ok res w := by
        intro es
        induction es with
        | nil => intro i res h; simp only [vfind, Option.some.injEq] at h; subst h; simp [Instr.findAsking]
        | cons e es ih =>
          intro i res h
          simp only [vfind] at h
          split at h
          · rename_i hv
            cases h
            simp [Instr.findAsking, eqs hv]
          · rename_i hv
            simp [Instr.findAsking, eqs hv, ih _ _ h]
          · cases h
      simp [Instr.findKey, run_underlying hu, hno, go _ _ _ h]
  · cases k' <;> simp only [vsame] at h <;> try (cases h; done)
    rename_i ys
    have := vsames_eq h
    rw [List.toList_toArray] at this
    rw [← this, Array.toArray_toList]
theorem pkeys_some {kd : IntKind} : ∀ {n : Nat} {cs : List PV} {l : List Value}, pkeys kd n cs = some l → l.length = n ∧ IntsK (.int kd) l ∧ cs = l.map .val := by
  intro n
  induction n with
  | zero =>
    intro cs l h
    unfold pkeys at h
    split at h
    · cases h
      exact ⟨rfl, fun v hv => by simp at hv, rfl⟩
    · rename_i e
      cases e
    · cases h
  | succ n ih =>
    intro cs l h
    unfold pkeys at h
    split at h
    · rename_i e
      cases e
    · rename_i n' k a r e
      cases e
      split at h
      · rename_i e
        subst e
        split at h
        · rename_i m hm
          cases h
          obtain ⟨h1, h2, h3⟩ := ih hm
          refine ⟨by simp [h1], fun v hv => ?_, by simp [h3]⟩
          rcases List.mem_cons.1 hv with rfl | hv
          · exact .inl ⟨_, a, rfl, rfl⟩
          · exact h2 v hv
        · cases h
      · cases h
    · cases h
theorem pkeyt_some : ∀ {n : Nat} {cs : List PV} {l : List Value}, pkeyt n cs = some l → l.length = n ∧ IntsK .string l ∧ cs = l.map .val := by
  intro n
  induction n with
  | zero =>
    intro cs l h
    unfold pkeyt at h
    split at h
    · cases h
      exact ⟨rfl, fun v hv => by simp at hv, rfl⟩
    · rename_i e
      cases e
    · cases h
  | succ n ih =>
    intro cs l h
    unfold pkeyt at h
    split at h
    · rename_i e
      cases e
    · rename_i n' a r e
      cases e
      split at h
      · rename_i m hm
        cases h
        obtain ⟨h1, h2, h3⟩ := ih hm
        refine ⟨by simp [h1], fun v hv => ?_, by simp [h3]⟩
        rcases List.mem_cons.1 hv with rfl | hv
        · exact .inr ⟨rfl, a, rfl⟩
        · exact h2 v hv
      · cases h
    · cases h
theorem tf_array1 {P : Program} {t e : TypeId} {n : Nat} {b : Bool} {F : TF} (h : tf P t = some F) (hF : F.ti = .array n e 1 b) : P.underlying t = some (.array n e) ∧ ∃ i, P.info? e = some i ∧ i.size = 1 := by
  obtain ⟨d, i, hd, hi, rfl⟩ := tf_some h
  simp only at hF
  cases d <;> simp only [tiOf] at hF <;> try (cases hF; done)
  all_goals split at hF <;> try (cases hF; done)
  rename_i i' d' hi' hd'
  obtain ⟨rfl, rfl, h1, -⟩ := TI.array.inj hF
  exact ⟨hd, i', hi', h1⟩
theorem pkey_some {P : Program} {kt : TypeId} {k : PV} {kv : Value} (h : pkey P kt k = some kv) :
    (∀ (w : World) (A : Nat → Prop) (v : Value), Rep w A k v → v = kv) ∧ KeyRuns P kt kv := by
  unfold pkey at h
  split at h
  · rename_i kd s1 s2 s3 s4 kd' n hF
    split at h
    · rename_i e
      cases h
      subst e
      refine ⟨fun _ _ _ h => h.val_eq, .plain (tf_int hF rfl) rfl fun k' r hr => ?_⟩
      cases k' with
      | int k2 b =>
        simp only [vsame] at hr
        split at hr
        · rename_i e
          subst e
          cases hr
          exact ⟨by simp [Instr.sameNow], fun h => by rw [beq_iff_eq.1 h]⟩
        · cases hr
      | _ => simp [vsame] at hr
    · cases h
  · rename_i s1 s2 s3 s4 s hF
    cases h
    refine ⟨fun _ _ _ h => h.val_eq, .plain (tf_string hF rfl) trivial fun k' r hr => ?_⟩
    cases k' with
    | string t =>
      simp only [vsame] at hr
      cases hr
      exact ⟨by simp [Instr.sameNow, bytes_beq], fun h => by rw [← mk_bl s, beq_iff_eq.1 h, mk_bl]⟩
    | _ => simp [vsame] at hr
  · rename_i s1 s2 s3 s4 s hF
    cases h
    refine ⟨fun _ _ _ h => h.val_eq, .plain (tf_bool hF rfl) trivial fun k' r hr => ?_⟩
    cases k' with
    | bool t =>
      simp only [vsame] at hr
      cases hr
      exact ⟨by simp [Instr.sameNow], fun h => by rw [beq_iff_eq.1 h]⟩
    | _ => simp [vsame] at hr
  · rename_i n e s0 s1 s2 s3 s4 cs hF
    split at h
    · rename_i kd r1 r2 r3 r4 hE
      split at h
      · rename_i l hl
        cases h
        obtain ⟨hu, i, hi, hsz⟩ := tf_array1 hF rfl
        have hue := tf_int hE rfl
        have he : scalarD P e = some (.int kd) := by simp [scalarD, hue, hi, hsz]
        obtain ⟨h1, h2, h3⟩ := pkeys_some hl
        refine ⟨fun w A v hv => ?_, .ints hu he h1 h2⟩
        obtain ⟨f, ev, hf⟩ := hv.agg_inv
        rw [ev]
        congr 1
        apply Array.ext'
        simp only
        subst h3
        apply List.ext_getElem
        · simp
        · intro j hj1 hj2
          simp only [List.getElem_map, List.getElem_range]
          exact (hf j (.val l[j]) (by simp [hj2])).val_eq
      · cases h
    · rename_i r1 r2 r3 r4 hE
      split at h
      · rename_i l hl
        cases h
        obtain ⟨hu, i, hi, hsz⟩ := tf_array1 hF rfl
        have hue := tf_string hE rfl
        have he : scalarD P e = some .string := by simp [scalarD, hue, hi, hsz]
        obtain ⟨h1, h2, h3⟩ := pkeyt_some hl
        refine ⟨fun w A v hv => ?_, .ints hu he h1 h2⟩
        obtain ⟨f, ev, hf⟩ := hv.agg_inv
        rw [ev]
        congr 1
        apply Array.ext'
        simp only
        subst h3
        apply List.ext_getElem
        · simp
        · intro j hj1 hj2
          simp only [List.getElem_map, List.getElem_range]
          exact (hf j (.val l[j]) (by simp [hj2])).val_eq
      · cases h
    · cases h
  · cases h
theorem tf_map {P : Program} {t k e : TypeId} {F : TF} (h : tf P t = some F) (hF : F.ti = .map k e) : P.underlying t = some (.map k e) := by
  obtain ⟨d, i, hd, hi, rfl⟩ := tf_some h
  simp only at hF
  cases d <;> simp only [tiOf] at hF <;> first
    | (cases hF; done)
    | (cases hF; exact hd)
    | (split at hF <;> cases hF)
/-- An object that is known to the letter. -/
def rawb : List PV → Bool
  | .raw _ :: _ => true
  | _ => false
theorem mfind_raw {k : Value} {i : Nat} : ∀ {cells : List PV}, rawb cells = true → mfind k cells i = none
  | [], h => by cases h
  | p :: r, h => by
    cases p <;> first
      | (cases h; done)
      | rfl
theorem ObjRep.mapblock {w : World} {A : Nat → Prop} {n : Int} {o : PObj} {b : Nat} (h : ObjRep w A n o) (hn : n = b) (hk : kindOf w b = some none) (hr : rawb o.cells = false) :
    ∃ (es : Array MapEntry) (clock : Nat), w.heap[b]? = some (.map es clock) ∧ o.grow = false ∧ es.size = o.cells.length ∧
    (∀ e ∈ es.toList, e.born < clock) ∧ (es.toList.map (·.born)).Nodup ∧
    ∀ (j : Nat) (u : PV), o.cells[j]? = some u → ∃ (e : MapEntry) (k v : PV), es[j]? = some e ∧ u = .ent k v ∧ Rep w A k e.key ∧ Rep w A v e.val := by
  rcases h with ⟨_, h, _⟩ | ⟨b', cur, fz, f, hb, h1, _⟩ | ⟨b', es, clock, hb, h1, h2, h3, h4, h5, h6⟩ | ⟨b', x, _, hb, h1, h2, _, hraw, _⟩
  · omega
  · have : b' = b := by omega
    subst this
    simp [kindOf, h1] at hk
  · have : b' = b := by omega
    subst this
    exact ⟨es, clock, h1, h2, h3, h4, h5, h6⟩
  · rw [hraw] at hr
    cases hr
/-- What 'mfind' finds, the model finds. -/
theorem mfind_sound {w : World} {A : Nat → Prop} {kv : Value} (hd : ∀ k', vsame kv k' = some true → k' = kv) :
    ∀ (cells : List PV) (es : List MapEntry) (i : Nat) (res : Option (Nat × PV)), mfind kv cells i = some res → es.length = cells.length →
    (∀ (j : Nat) (u : PV), cells[j]? = some u → ∃ (e : MapEntry) (k v : PV), es[j]? = some e ∧ u = .ent k v ∧ Rep w A k e.key ∧ Rep w A v e.val) →
    (res = none ∧ vfind kv es i = some none) ∨ ∃ (j : Nat) (v : PV) (e : MapEntry), res = some (i + j, v) ∧ es[j]? = some e ∧ Rep w A v e.val ∧ e.key = kv ∧ vfind kv es i = some (some (i + j, e.val))
  | [], es, i, res, h, hl, hc => by
    have : es = [] := List.eq_nil_of_length_eq_zero (by simpa using hl)
    subst this
    simp only [mfind] at h
    cases h
    exact .inl ⟨rfl, rfl⟩
  | u :: r, es, i, res, h, hl, hc => by
    obtain ⟨e, k, v, he, rfl, hk, hv⟩ := hc 0 u rfl
    cases es with
    | nil => cases he
    | cons e0 es =>
      have : e0 = e := by simpa using he
      subst this
      cases k with
      | val k' =>
        have hkk := hk.val_eq
        simp only [mfind] at h
        split at h
        · rename_i hs
          cases h
          refine .inr ⟨0, v, e0, rfl, rfl, hv, by rw [hkk]; exact hd _ hs, ?_⟩
          simp only [vfind, hkk, hs, Nat.add_zero]
        · rename_i hs
          have ih := mfind_sound hd r es (i + 1) res h (by simpa using hl) (fun j u hu => hc (j + 1) u hu)
          have hf : vfind kv (e0 :: es) i = vfind kv es (i + 1) := by simp only [vfind, hkk, hs]
          rw [hf]
          rcases ih with ⟨q1, q2⟩ | ⟨j, v', e', q1, q2, q3, q4, q5⟩
          · exact .inl ⟨q1, q2⟩
          · exact .inr ⟨j + 1, v', e', by rw [q1]; congr 2; omega, by simpa using q2, q3, q4, by rw [q5]; congr 3; omega⟩
        · cases h
      | _ => simp [mfind] at h
/-- m[k] -/
def pmlook (P : Program) (H : Heap) (t : TypeId) (x k : PV) (ok : Bool) (K : PV → Prop) : Prop :=
  match tf P t with
  | some ⟨.map kt et, _, _, _, _⟩ => match pkey P kt k, x with
    | some kv, .mp n => match look H n with
      | some ob => match mfind kv ob.cells 0 with
        | some (some (_, v)) => K (if ok then .tuple [v, pbool true] else v)
        | some none => match tf P et with
          | some ⟨_, _, _, false, some z⟩ => K (if ok then .tuple [.val z, pbool false] else .val z)
          | some ⟨_, _, _, true, some (.agg zs)⟩ => K (if ok then .tuple [.agg (zs.toList.map .val), pbool false] else .agg (zs.toList.map .val))
          | _ => False
        | none => False
      | none => False
    | some _, .val (.map none) => match tf P et with
      | some ⟨_, _, _, false, some z⟩ => K (if ok then .tuple [.val z, pbool false] else .val z)
      | _ => False
    | _, _ => False
  | _ => False
section
variable {P : Program} {G : Globs} {E : Amb} {A : Nat → Prop} {σ : PState} {a : Act} {w : World} {o : Oper} {K : PState → Prop} {q : Bool} {H : Heap} {ρ : Operand → Value}
theorem rep_pair {p : PV} {v : Value} (h : Rep w A p v) (b : Bool) : Rep w A (.tuple [p, pbool b]) (.tuple #[v, .bool b]) := by
  have := Rep.tuple (w := w) (A := A) [p, pbool b] (fun j => if j = 0 then v else .bool b) (fun j u hu => by
    match j, hu with
    | 0, hu => cases hu; exact h
    | 1, hu => cases hu; exact .val _)
  exact this
theorem pmlook_sound {K : PV → Prop} {t : TypeId} {x k : Operand} {px pk : PV} {ok : Bool} (ho : o.op = .lookup t x k ok) (hx : Rep w A px (ρ x)) (hk : Rep w A pk (ρ k)) (hob : ∀ n o, look H n = some o → ObjRep w A n o)
    (h : pmlook P H t px pk ok K) : ∃ r, K r ∧ Gives P w A ρ o r := by
  unfold pmlook at h
  split at h
  · rename_i kt et s1 s2 s3 s4 hF
    have hu := tf_map hF rfl
    have zero : ∀ {s5 s6 s7 s8 : _} {z : Value} (hz : tf P et = some ⟨s5, s6, s7, s8, some z⟩) (w' : World), Sem.run P (zeroValue et) w' = .ok z w' := fun hz w' => zero_run hz rfl w'
    have aggr : ∀ zs : Array Value, Rep w A (.agg (zs.toList.map .val)) (.agg zs) := fun zs => Reps.agg ⟨by simp, fun j u hu => by
      rw [List.getElem?_map] at hu
      cases hj : zs.toList[j]? with
      | none => rw [hj] at hu; cases hu
      | some x =>
        rw [hj] at hu
        cases hu
        exact ⟨x, by simpa using hj, .val x⟩⟩
    split at h
    · rename_i kv n hkv
      obtain ⟨hke, hK⟩ := pkey_some hkv
      have ek := hke _ _ _ hk
      obtain ⟨b, rfl, hv, hkind⟩ := hx.mp_inv
      split at h
      · rename_i ob hl
        have hr : rawb ob.cells = false := by
          cases hr : rawb ob.cells with
          | false => rfl
          | true =>
            simp only [mfind_raw hr] at h
        obtain ⟨es, clock, hb, hg, hsz, _, _, hc⟩ := (hob _ _ hl).mapblock rfl hkind hr
        have hb' : ∀ w', Keeps w w' → w'.heap[b]? = some (.map es clock) := fun w' hw => by rw [hw b (kind_lt hkind)]; exact hb
        split at h
        · rename_i i v hm
          rcases mfind_sound hK.same ob.cells es.toList 0 _ hm (by simpa using hsz) (fun j u hu => by simpa using hc j u hu) with ⟨q1, _⟩ | ⟨j, v', e', q1, q2, q3, q4, q5⟩
          · cases q1
          · cases q1
            cases ok with
            | true =>
              refine ⟨_, h, _, rep_pair q3 true, fun w' hw => ?_⟩
              unfold execOp
              simp [ho, hv, ek, Instr.lookup, run_underlying hu, MapKept.run_getObj_map (hb' w' hw), hK.check, hK.find q5]
            | false =>
              refine ⟨_, h, _, q3, fun w' hw => ?_⟩
              unfold execOp
              simp [ho, hv, ek, Instr.lookup, run_underlying hu, MapKept.run_getObj_map (hb' w' hw), hK.check, hK.find q5]
        · rename_i hm
          rcases mfind_sound hK.same ob.cells es.toList 0 _ hm (by simpa using hsz) (fun j u hu => by simpa using hc j u hu) with ⟨_, q5⟩ | ⟨j, v', e', q1, _⟩
          · split at h
            · rename_i s5 s6 s7 z hz
              cases ok with
              | true =>
                refine ⟨_, h, _, rep_pair (.val z) false, fun w' hw => ?_⟩
                unfold execOp
                simp [ho, hv, ek, Instr.lookup, run_underlying hu, MapKept.run_getObj_map (hb' w' hw), hK.check, hK.find q5, zero hz]
              | false =>
                refine ⟨_, h, _, .val z, fun w' hw => ?_⟩
                unfold execOp
                simp [ho, hv, ek, Instr.lookup, run_underlying hu, MapKept.run_getObj_map (hb' w' hw), hK.check, hK.find q5, zero hz]
            · rename_i s5 s6 s7 zs hz
              cases ok with
              | true =>
                refine ⟨_, h, _, rep_pair (aggr zs) false, fun w' hw => ?_⟩
                unfold execOp
                simp [ho, hv, ek, Instr.lookup, run_underlying hu, MapKept.run_getObj_map (hb' w' hw), hK.check, hK.find q5, zero hz]
              | false =>
                refine ⟨_, h, _, aggr zs, fun w' hw => ?_⟩
                unfold execOp
                simp [ho, hv, ek, Instr.lookup, run_underlying hu, MapKept.run_getObj_map (hb' w' hw), hK.check, hK.find q5, zero hz]
            · exact h.elim
          · cases q1
        · exact h.elim
      · exact h.elim
    · rename_i kv hkv
      obtain ⟨hke, hK⟩ := pkey_some hkv
      have ek := hke _ _ _ hk
      have ex := hx.val_eq
      have q5 : vfind kv [] 0 = some none := rfl
      split at h
      · rename_i s5 s6 s7 z hz
        cases ok with
        | true =>
          refine ⟨_, h, _, rep_pair (.val z) false, fun w' hw => ?_⟩
          unfold execOp
          simp [ho, ex, ek, Instr.lookup, run_underlying hu, hK.check, hK.find q5, zero hz]
        | false =>
          refine ⟨_, h, _, .val z, fun w' hw => ?_⟩
          unfold execOp
          simp [ho, ex, ek, Instr.lookup, run_underlying hu, hK.check, hK.find q5, zero hz]
      · exact h.elim
    · exact h.elim
  · exact h.elim
/-- a map's entries are set -/
theorem Sim.setMap (hs : Sim G E A σ a w) {n : Int} {o : PObj} {b : Nat} {es es' : Array MapEntry} {clock clock' : Nat} {cells : List PV} (hl : look σ.heap n = some o) (hn : n = b) (hb : w.heap[b]? = some (.map es clock)) (hg : o.grow = false)
    (hsz : es'.size = cells.length) (hbo : ∀ e ∈ es'.toList, e.born < clock') (hnd : (es'.toList.map (·.born)).Nodup)
    (hc : ∀ (j : Nat) (u : PV), cells[j]? = some u → ∃ (e : MapEntry) (k v : PV), es'[j]? = some e ∧ u = .ent k v ∧ Rep w A k e.key ∧ Rep w A v e.val) :
    Sim G E A ⟨σ.frame, upd σ.heap n { o with cells := cells }⟩ a { w with heap := w.heap.setIfInBounds b (.map es' clock') } := by
  have hmem := look_mem hl
  obtain ⟨hb1, hb2, hb3⟩ := hs.own n o hmem b hn
  obtain ⟨h2, h3⟩ := MapKept.heap_set (w := w) (o' := .map es' clock') hb
  have he : Ext (fun x => x = b) w { w with heap := w.heap.setIfInBounds b (.map es' clock') } := ⟨rfl, rfl, rfl, by simp, fun x hx hm => h3 x hm, fun x y hy => by
    by_cases hx : x = b
    · subst hx
      unfold kindOf at hy ⊢
      rw [hb] at hy
      simp only [h2]
      exact hy
    · rw [kind_heap (h3 x hx)]
      exact hy⟩
  have hAb : ∀ x, A x → ¬ x = b := fun x hx e => hb2 (e ▸ hx)
  refine ⟨hs.ext.trans he (fun x hx e => by
      subst e
      rcases hb3 with h | h
      · omega
      · exact h), fun x hx => Nat.lt_of_lt_of_le (hs.lt x hx) he.size, hs.a0, hs.a1, fun g => (hs.globs g).ext he (fun _ h => h) hAb, ?_, fun m o' h => ?_, fun m o' h x hx => ?_, fun m o' h hm => ?_, hs.defers, hs.size, fun i p hp => ?_⟩
  · show (names (upd σ.heap n _)).Nodup
    rw [names_upd]
    exact hs.nodup
  · rcases mem_upd hs.nodup h with ⟨rfl, rfl⟩ | ⟨hne, hm⟩
    · refine .inr (.inr (.inl ⟨b, es', clock', hn, h2, hg, hsz, hbo, hnd, fun j u hj => ?_⟩))
      obtain ⟨e, k, v, r1, r2, r3, r4⟩ := hc j u hj
      exact ⟨e, k, v, r1, r2, r3.ext he (fun _ h => h) hAb, r4.ext he (fun _ h => h) hAb⟩
    · exact (hs.objs m o' hm).ext he (fun _ h => h) hAb (fun x hx e => hne (by rw [hx, e, hn]))
  · have hsz : w.heap.size ≤ ({ w with heap := w.heap.setIfInBounds b (.map es' clock') } : World).heap.size := he.size
    rcases mem_upd hs.nodup h with ⟨rfl, rfl⟩ | ⟨hne, hm⟩
    · have : x = b := by omega
      subst this
      exact ⟨Nat.lt_of_lt_of_le hb1 hsz, hb2, hb3⟩
    · obtain ⟨q1, q2, q3⟩ := hs.own m o' hm x hx
      exact ⟨Nat.lt_of_lt_of_le q1 hsz, q2, q3⟩
  · rcases mem_upd hs.nodup h with ⟨rfl, rfl⟩ | ⟨hne, hm'⟩
    · omega
    · exact hs.neg m o' hm' hm
  · obtain ⟨v, hv, hr⟩ := hs.frame i p hp
    exact ⟨v, hv, hr.ext he (fun _ h => h) hAb⟩
/-- m[k] = v -/
def pmupd (P : Program) (σ : PState) (d : Option Tmp) (t : TypeId) (x k v : PV) (K : PState → Prop) : Prop :=
  match tf P t with
  | some ⟨.map kt _, _, _, _, _⟩ => match pkey P kt k, x with
    | some kv, .mp n => match look σ.heap n with
      | some ob => match mfind kv ob.cells 0 with
        | some (some (i, _)) => K (PState.put ⟨σ.frame, upd σ.heap n { ob with cells := ob.cells.set i (.ent (.val kv) v) }⟩ d .junk)
        | some none => K (PState.put ⟨σ.frame, upd σ.heap n { ob with cells := ob.cells ++ [.ent (.val kv) v] }⟩ d .junk)
        | none => False
      | none => False
    | _, _ => False
  | _ => False
theorem born_modify {es : Array MapEntry} {i : Nat} {f : MapEntry → MapEntry} (hf : ∀ e, (f e).born = e.born) : (es.modify i f).toList.map (·.born) = es.toList.map (·.born) := by
  apply List.ext_getElem?
  intro j
  simp only [List.getElem?_map, Array.getElem?_toList, Array.getElem?_modify]
  by_cases h : i = j
  · subst h
    rw [if_pos rfl]
    cases es[i]? <;> simp [hf]
  · rw [if_neg h]
theorem born_all {l l' : List MapEntry} {c : Nat} (h : ∀ e ∈ l, e.born < c) (he : l'.map (·.born) = l.map (·.born)) : ∀ e ∈ l', e.born < c := by
  intro e hm
  have : e.born ∈ l'.map (·.born) := List.mem_map.2 ⟨e, hm, rfl⟩
  rw [he] at this
  obtain ⟨y, hy, e2⟩ := List.mem_map.1 this
  rw [← e2]
  exact h y hy
theorem pmupd_sound {t : TypeId} {x k v : Operand} (hs : Sim G E A σ a w) (ho : o.op = .mapUpdate t x k v) (h : pmupd P σ o.dst t (opnd G σ.frame x) (opnd G σ.frame k) (opnd G σ.frame v) K) : Steps1 P G E false o K a w := by
  unfold pmupd at h
  split at h
  · rename_i kt et s1 s2 s3 s4 hF
    have hu := tf_map hF rfl
    split at h
    · rename_i kv n hkv hxe
      obtain ⟨hke, hK⟩ := pkey_some hkv
      have hk := hs.opnd k
      have ek := hke _ _ _ hk
      have hx := hs.opnd x
      rw [hxe] at hx
      obtain ⟨b, rfl, hv, hkind⟩ := hx.mp_inv
      split at h
      · rename_i ob hl
        have hr : rawb ob.cells = false := by
          cases hr : rawb ob.cells with
          | false => rfl
          | true =>
            simp only [mfind_raw hr] at h
        obtain ⟨es, clock, hb, hg, hsz, hbo, hnd, hc⟩ := (hs.objs _ ob (look_mem hl)).mapblock rfl hkind hr
        split at h
        · rename_i i v0 hm
          rcases mfind_sound hK.same ob.cells es.toList 0 _ hm (by simpa using hsz) (fun j u hu => by simpa using hc j u hu) with ⟨q1, _⟩ | ⟨j, v', e', q1, q2, q3, q4, q5⟩
          · cases q1
          · cases q1
            rw [Nat.zero_add] at h q5
            have hj : es[j]? = some e' := by simpa using q2
            have hst := hs.setMap (es' := es.modify j fun e => { e with key := kv, val := a.eval v }) (clock' := clock) (cells := ob.cells.set j (.ent (.val kv) (opnd G σ.frame v))) hl rfl hb hg (by simpa using hsz)
              (born_all hbo (born_modify fun _ => rfl)) (by rw [born_modify (f := fun e => { e with key := kv, val := a.eval v }) fun _ => rfl]; exact hnd) (fun j' u hu => by
                rw [List.getElem?_set] at hu
                split at hu
                · rename_i e
                  subst e
                  split at hu
                  · cases hu
                    exact ⟨{ e' with key := kv, val := a.eval v }, _, _, by simp [Array.getElem?_modify, hj], rfl, .val _, hs.opnd v⟩
                  · cases hu
                · rename_i hne
                  obtain ⟨e, k', v', r1, r2, r3, r4⟩ := hc j' u hu
                  exact ⟨e, k', v', by simp [Array.getElem?_modify, hne, r1], r2, r3, r4⟩)
            refine ⟨undef, _, _, A, .inr ⟨?_, rfl⟩, h, hst.put o.dst (.junk _), fun h => by cases h⟩
            unfold execOp
            simp [ho, hv, ek, Instr.mapUpdate, run_underlying hu, MapKept.run_getObj_map hb, hK.check, hK.find q5, hj, q4, hK.stays, MapKept.run_setObj_map _ hb]
        · rename_i hm
          rcases mfind_sound hK.same ob.cells es.toList 0 _ hm (by simpa using hsz) (fun j u hu => by simpa using hc j u hu) with ⟨_, q5⟩ | ⟨j, v', e', q1, _⟩
          · have hst := hs.setMap (es' := es.push { key := kv, val := a.eval v, born := clock }) (clock' := clock + 1) (cells := ob.cells ++ [.ent (.val kv) (opnd G σ.frame v)]) hl rfl hb hg (by simp [hsz])
              (fun e he => by
                simp only [Array.toList_push, List.mem_append, List.mem_singleton] at he
                rcases he with he | rfl
                · have := hbo e he; omega
                · simp)
              (by
                rw [Array.toList_push, List.map_append, List.map_singleton, List.nodup_append]
                refine ⟨hnd, by simp, fun x hx y hy e => ?_⟩
                simp only [List.mem_singleton] at hy
                obtain ⟨e', he', rfl⟩ := List.mem_map.1 hx
                have := hbo e' he'
                omega)
              (fun j' u hu => by
                by_cases hj : j' < ob.cells.length
                · rw [List.getElem?_append_left hj] at hu
                  obtain ⟨e, k', v', r1, r2, r3, r4⟩ := hc j' u hu
                  refine ⟨e, k', v', ?_, r2, r3, r4⟩
                  rw [Array.getElem?_push, if_neg (by omega)]
                  exact r1
                · rw [List.getElem?_append_right (by omega)] at hu
                  have hj0 : j' - ob.cells.length = 0 := by
                    have := (List.getElem?_eq_some_iff.1 hu).1
                    simp at this
                    omega
                  rw [hj0] at hu
                  cases hu
                  refine ⟨{ key := kv, val := a.eval v, born := clock }, _, _, ?_, rfl, .val _, hs.opnd v⟩
                  rw [Array.getElem?_push, if_pos (by omega)])
            refine ⟨undef, _, _, A, .inr ⟨?_, rfl⟩, h, hst.put o.dst (.junk _), fun h => by cases h⟩
            unfold execOp
            simp [ho, hv, ek, Instr.mapUpdate, run_underlying hu, MapKept.run_getObj_map hb, hK.check, hK.find q5, MapKept.run_setObj_map _ hb]
          · cases q1
        · exact h.elim
      · exact h.elim
    · exact h.elim
  · exact h.elim
/-- make(map[..]..) -/
def pmmake (σ : PState) (d : Option Tmp) (t : TypeId) (K : PState → Prop) : Prop :=
  @pfresh (names σ.heap) ⟨fun n => K (PState.put ⟨σ.frame, (n, ⟨t, false, 0, []⟩) :: σ.heap⟩ d (.mp n))⟩
theorem Sim.newMap (hs : Sim G E A σ a w) (t : TypeId) : (w.heap.size : Int) ∉ names σ.heap ∧ Sim G E A ⟨σ.frame, ((w.heap.size : Int), ⟨t, false, 0, []⟩) :: σ.heap⟩ a (w.alloc (.map #[] 0)) := by
  have hfresh : (w.heap.size : Int) ∉ names σ.heap := by
    intro h
    obtain ⟨⟨n, o'⟩, hno, hn⟩ := List.mem_map.1 h
    have := (hs.own n o' hno w.heap.size hn).1
    omega
  have he : Ext (fun _ => False) w (w.alloc (.map #[] 0)) := Ext.alloc _ _ _
  have hg' := hs.grow he
  refine ⟨hfresh, hg'.ext, hg'.lt, hg'.a0, hg'.a1, hg'.globs, List.nodup_cons.2 ⟨hfresh, hg'.nodup⟩, fun n o' h => ?_, fun n o' h b hb => ?_, fun n o' h hn => ?_, hg'.defers, hg'.size, hg'.frame⟩
  · cases List.mem_cons.1 h with
    | inl e =>
      cases e
      exact .inr (.inr (.inl ⟨w.heap.size, #[], 0, rfl, heap_alloc_new w _, rfl, rfl, by simp, by simp, fun j u hj => by simp at hj⟩))
    | inr e => exact hg'.objs n o' e
  · cases List.mem_cons.1 h with
    | inl e =>
      cases e
      have : b = w.heap.size := by omega
      subst this
      exact ⟨by simp, fun hA => by have := hs.lt _ hA; omega, .inl hs.ext.size⟩
    | inr e => exact hg'.own n o' e b hb
  · cases List.mem_cons.1 h with
    | inl e => cases e; omega
    | inr e => exact hg'.neg n o' e hn
theorem pmmake_sound {t : TypeId} (hs : Sim G E A σ a w) (ho : o.op = .makeMap t none) (h : pmmake σ o.dst t K) : Steps1 P G E q o K a w := by
  obtain ⟨hfr, hsim⟩ := hs.newMap t
  refine ⟨.map (some w.heap.size), _, _, A, .inl ?_, h _ hfr, hsim.put o.dst (.mp _ ?_), fun _ b hb => Below.heap_alloc w _ b hb⟩
  · unfold execOp
    simp [ho, run_makeMap]
  · unfold kindOf
    rw [heap_alloc_new]
/-- delete(m, k) -/
def pmdel (P : Program) (σ : PState) (d : Option Tmp) (t : TypeId) (x k : PV) (K : PState → Prop) : Prop :=
  match tf P t with
  | some ⟨.map kt _, _, _, _, _⟩ => match pkey P kt k, x with
    | some kv, .mp n => match look σ.heap n with
      | some ob => match mfind kv ob.cells 0 with
        | some (some (i, _)) => K (PState.put ⟨σ.frame, upd σ.heap n { ob with cells := ob.cells.eraseIdx i }⟩ d .junk)
        | some none => K (PState.put ⟨σ.frame, upd σ.heap n { ob with cells := ob.cells }⟩ d .junk)
        | none => False
      | none => False
    | _, _ => False
  | _ => False
theorem pmdel_sound {t u : TypeId} {x k : Operand} (hs : Sim G E A σ a w) (ho : o.op = .call { callee := .builtin .delete, args := #[x, k], argTypes := #[t, u] }) (h : pmdel P σ o.dst t (opnd G σ.frame x) (opnd G σ.frame k) K) : Steps1 P G E false o K a w := by
  unfold pmdel at h
  split at h
  · rename_i kt et s1 s2 s3 s4 hF
    have hu := tf_map hF rfl
    split at h
    · rename_i kv n hkv hxe
      obtain ⟨hke, hK⟩ := pkey_some hkv
      have hk := hs.opnd k
      have ek := hke _ _ _ hk
      have hx := hs.opnd x
      rw [hxe] at hx
      obtain ⟨b, rfl, hv, hkind⟩ := hx.mp_inv
      split at h
      · rename_i ob hl
        have hr : rawb ob.cells = false := by
          cases hr : rawb ob.cells with
          | false => rfl
          | true =>
            simp only [mfind_raw hr] at h
        obtain ⟨es, clock, hb, hg, hsz, hbo, hnd, hc⟩ := (hs.objs _ ob (look_mem hl)).mapblock rfl hkind hr
        split at h
        · rename_i i v0 hm
          rcases mfind_sound hK.same ob.cells es.toList 0 _ hm (by simpa using hsz) (fun j u hu => by simpa using hc j u hu) with ⟨q1, _⟩ | ⟨j, v', e', q1, q2, q3, q4, q5⟩
          · cases q1
          · cases q1
            rw [Nat.zero_add] at h q5
            have hjl : j < es.size := by
              have := (List.getElem?_eq_some_iff.1 q2).1
              simpa using this
            have et : (es.eraseIdxIfInBounds j).toList = es.toList.eraseIdx j := by
              unfold Array.eraseIdxIfInBounds
              rw [dif_pos hjl, Array.toList_eraseIdx]
            have hsub : (es.eraseIdxIfInBounds j).toList.Sublist es.toList := by rw [et]; exact List.eraseIdx_sublist _ _
            have hst := hs.setMap (es' := es.eraseIdxIfInBounds j) (clock' := clock) (cells := ob.cells.eraseIdx j) hl rfl hb hg (by
                rw [← Array.length_toList, et, List.length_eraseIdx, List.length_eraseIdx, Array.length_toList, hsz])
              (fun e he => hbo e (hsub.subset he)) ((hsub.map _).nodup hnd) (fun j' u hu => by
                rw [List.getElem?_eraseIdx] at hu
                have e2 : (es.eraseIdxIfInBounds j)[j']? = if j' < j then es[j']? else es[j' + 1]? := by
                  rw [← Array.getElem?_toList, et, List.getElem?_eraseIdx]
                  simp only [Array.getElem?_toList]
                rw [e2]
                split at hu
                · rename_i hlt
                  rw [if_pos hlt]
                  exact hc j' u hu
                · rename_i hlt
                  rw [if_neg hlt]
                  exact hc (j' + 1) u hu)
            refine ⟨.tuple #[], _, _, A, .inl ?_, h, hst.put o.dst (.junk _), fun h => by cases h⟩
            unfold execOp
            simp [ho, resolve, invoke, builtin, hv, ek, Builtin.delete_, run_underlying hu, MapKept.run_getObj_map hb, hK.check, hK.find q5, MapKept.run_setObj_map _ hb]
        · rename_i hm
          rcases mfind_sound hK.same ob.cells es.toList 0 _ hm (by simpa using hsz) (fun j u hu => by simpa using hc j u hu) with ⟨_, q5⟩ | ⟨j, v', e', q1, _⟩
          · have hst := hs.setMap (es' := es) (clock' := clock) (cells := ob.cells) hl rfl hb hg hsz hbo hnd hc
            refine ⟨.tuple #[], _, _, A, .inl ?_, h, hst.put o.dst (.junk _), fun h => by cases h⟩
            unfold execOp
            simp [ho, resolve, invoke, builtin, hv, ek, Builtin.delete_, run_underlying hu, MapKept.run_getObj_map hb, hK.check, hK.find q5, MapKept.run_setObj_map _ hb]
          · cases q1
        · exact h.elim
      · exact h.elim
    · exact h.elim
  · exact h.elim
/-- len(m) -/
def pmlen (P : Program) (H : Heap) (t : TypeId) (n : Int) (K : PV → Prop) : Prop :=
  match tf P t, look H n with
  | some ⟨.map _ _, _, _, _, _⟩, some ob => rawb ob.cells = false ∧ K (pint .i64 ob.cells.length)
  | _, _ => False
theorem pmlen_sound {K : PV → Prop} {t : TypeId} {x : Operand} {n : Int} (ho : o.op = .call { callee := .builtin .len, args := #[x], argTypes := #[t] }) (hx : Rep w A (.mp n) (ρ x)) (hob : ∀ n o, look H n = some o → ObjRep w A n o)
    (h : pmlen P H t n K) : ∃ r, K r ∧ Gives P w A ρ o r := by
  unfold pmlen at h
  split at h
  · rename_i kt et s1 s2 s3 s4 ob hF hl
    have hu := tf_map hF rfl
    obtain ⟨b, rfl, hv, hkind⟩ := hx.mp_inv
    obtain ⟨es, clock, hb, hg, hsz, _⟩ := (hob _ _ hl).mapblock rfl hkind h.1
    refine ⟨_, h.2, _, .val _, fun w' hw => ?_⟩
    have hb' : w'.heap[b]? = some (.map es clock) := by rw [hw b (kind_lt hkind)]; exact hb
    unfold execOp
    simp [ho, resolve, invoke, builtin, hv, Builtin.len_, run_underlying hu, MapKept.run_getObj_map hb', goInt, hsz]
  · exact h.elim
/-- A truth that is told but where c holds. -/
class Told where
  k : Bool → Prop
/-- It is told b: false where c holds. -/
def pmaybe (c : Prop) [h : Told] : Prop := ∀ b : Bool, (c → b = false) → h.k b
theorem pmaybe_k {c : Prop} {k : Bool → Prop} (h : ∀ b : Bool, (c → b = false) → k b) : @pmaybe c ⟨k⟩ := h
/-- x == nil, x != nil -/
def pnile (P : Program) (neg : Bool) (t : TypeId) (x y : PV) (K : PV → Prop) : Prop :=
  match tf P t with
  | some ⟨.slice _ _ _, _, _, _, _⟩ => match y with
    | .val (.slice none 0 0) => match x with
      | .val (.slice none 0 0) => K (pbool (!neg))
      | .list _ xs => @pmaybe (xs ≠ []) ⟨fun b => K (pbool (if neg then !b else b))⟩
      | .row _ _ len => @pmaybe (len ≠ 0) ⟨fun b => K (pbool (if neg then !b else b))⟩
      | _ => False
    | _ => False
  | some ⟨.pointer _, _, _, _, _⟩ => match y with
    | .val (.pointer none) => match x with
      | .ptr _ _ => K (pbool neg)
      | .iptr _ _ => K (pbool neg)
      | .val (.pointer none) => K (pbool (!neg))
      | _ => False
    | _ => False
  | some ⟨.map _ _, _, _, _, _⟩ => match y with
    | .val (.map none) => match x with
      | .mp _ => K (pbool neg)
      | .val (.map none) => K (pbool (!neg))
      | _ => False
    | _ => False
  | _ => False
theorem equal_slice {t e : TypeId} (hu : P.underlying t = some (.slice e)) (bs : Option Addr) (n m : Nat) (w' : World) : Sem.run P (Op.equal t (.slice bs n m) (.slice none 0 0)) w' = .ok bs.isNone w' := by
  show Sem.run P (Op.equalIn (9999 + 1) t _ _) w' = _
  unfold Op.equalIn
  cases bs <;> simp [run_underlying hu]
theorem equal_ptr {t e : TypeId} (hu : P.underlying t = some (.pointer e)) (bs : Option Addr) (w' : World) : Sem.run P (Op.equal t (.pointer bs) (.pointer none)) w' = .ok bs.isNone w' := by
  show Sem.run P (Op.equalIn (9999 + 1) t _ _) w' = _
  unfold Op.equalIn
  cases bs <;> simp [run_underlying hu]
theorem equal_map {t k e : TypeId} (hu : P.underlying t = some (.map k e)) (bs : Option Nat) (w' : World) : Sem.run P (Op.equal t (.map bs) (.map none)) w' = .ok bs.isNone w' := by
  show Sem.run P (Op.equalIn (9999 + 1) t _ _) w' = _
  unfold Op.equalIn
  cases bs <;> simp [run_underlying hu]
theorem pnile_sound {K : PV → Prop} {neg : Bool} {t u : TypeId} {x y : Operand} {px py : PV} (ho : o.op = .binOp (if neg then .neq else .eql) t x y u) (hx : Rep w A px (ρ x)) (hy : Rep w A py (ρ y)) (h : pnile P neg t px py K) : ∃ r, K r ∧ Gives P w A ρ o r := by
  have fin : ∀ (b : Bool) (vx vy : Value), ρ x = vx → ρ y = vy → K (pbool (b != neg)) → (∀ w', Sem.run P (Op.equal t vx vy) w' = .ok b w') → (∀ op w', Sem.run P (eqGuard op t x y vx vy) w' = .ok () w') →
      (binOp .eql t vx vy = (do pure (.bool (← Op.equal t vx vy)))) → (binOp .neq t vx vy = (do pure (.bool (!(← Op.equal t vx vy))))) → ∃ r, K r ∧ Gives P w A ρ o r := by
    intro b vx vy ex ey hk hv hg hb1 hb2
    refine ⟨_, hk, _, .val _, fun w' _ => ?_⟩
    unfold execOp
    cases neg with
    | true => simp [ho, ex, ey, hg, hb2, hv]
    | false => simp [ho, ex, ey, hg, hb1, hv]
  unfold pnile at h
  split at h
  · rename_i hF
    have hu := (tf_slice hF rfl).1
    split at h
    · have ey := hy.val_eq
      have sl : ∀ (bs : Option Addr) (n m : Nat), ρ x = .slice bs n m → K (pbool (bs.isNone != neg)) → ∃ r, K r ∧ Gives P w A ρ o r := fun bs n m hv hk =>
        fin bs.isNone _ _ hv ey hk (equal_slice hu bs n m) (fun op w' => by cases op <;> rfl) rfl rfl
      split at h
      · exact sl _ _ _ hx.val_eq (by cases neg <;> simpa using h)
      · rename_i es' xs
        rcases hx.list_inv with ⟨rfl, ad, c, hv⟩ | ⟨b, off, c, f, hA, hc, hv, hle, hc1, hc2⟩
        · exact sl _ _ _ hv (by have := h ad.isNone fun h => absurd rfl h; cases neg <;> simpa using this)
        · exact sl _ _ _ hv (by have := h false fun _ => rfl; cases neg <;> simpa using this)
      · rename_i n es' len
        rcases hx.row_inv with ⟨_, rfl, hv⟩ | ⟨b, c, N, t', rfl, hv, _⟩
        · exact sl _ _ _ hv (by have := h true fun h => absurd rfl h; cases neg <;> simpa using this)
        · exact sl _ _ _ hv (by have := h false fun _ => rfl; cases neg <;> simpa using this)
      · exact h.elim
    · exact h.elim
  · rename_i hF
    have hu := tf_pointer hF rfl
    split at h
    · have ey := hy.val_eq
      have pp : ∀ (bs : Option Addr), ρ x = .pointer bs → K (pbool (bs.isNone != neg)) → ∃ r, K r ∧ Gives P w A ρ o r := fun bs hv hk =>
        fin bs.isNone _ _ hv ey hk (equal_ptr hu bs) (fun op w' => by cases op <;> rfl) rfl rfl
      split at h
      · obtain ⟨b, rfl, hv, _⟩ := hx.ptr_inv
        exact pp _ hv (by cases neg <;> simpa using h)
      · obtain ⟨b, off0, f, hA, hv, h1, h2⟩ := hx.iptr_inv
        exact pp _ hv (by cases neg <;> simpa using h)
      · exact pp _ hx.val_eq (by cases neg <;> simpa using h)
      · exact h.elim
    · exact h.elim
  · rename_i hF
    have hu := tf_map hF rfl
    split at h
    · have ey := hy.val_eq
      have pp : ∀ (bs : Option Nat), ρ x = .map bs → K (pbool (bs.isNone != neg)) → ∃ r, K r ∧ Gives P w A ρ o r := fun bs hv hk =>
        fin bs.isNone _ _ hv ey hk (equal_map hu bs) (fun op w' => by cases op <;> rfl) rfl rfl
      split at h
      · obtain ⟨b, rfl, hv, _⟩ := hx.mp_inv
        exact pp _ hv (by cases neg <;> simpa using h)
      · exact pp _ hx.val_eq (by cases neg <;> simpa using h)
      · exact h.elim
    · exact h.elim
  · exact h.elim
/-- cap(nil) -/
def pcap (P : Program) (t : TypeId) (x : PV) (K : PV → Prop) : Prop :=
  match tf P t, x with
  | some ⟨.slice _ _ _, _, _, _, _⟩, .val (.slice none 0 0) => K (pint .i64 0)
  | _, _ => False
theorem pcap_sound {K : PV → Prop} {t : TypeId} {x : Operand} {px : PV} (ho : o.op = .call { callee := .builtin .cap, args := #[x], argTypes := #[t] }) (hx : Rep w A px (ρ x)) (h : pcap P t px K) : ∃ r, K r ∧ Gives P w A ρ o r := by
  unfold pcap at h
  split at h
  · rename_i hF
    have hu := (tf_slice hF rfl).1
    refine ⟨_, h, _, .val _, fun w' hw => ?_⟩
    unfold execOp
    simp [ho, resolve, invoke, builtin, hx.val_eq, Builtin.cap_, run_underlying hu, goInt]
  · exact h.elim
/-- append(nil, make([]T, n)...) -/
def pgrow (P : Program) (σ : PState) (d : Option Tmp) (t u : TypeId) (s : PV) (n : Int) (K : PState → Prop) : Prop :=
  match tf P t, tf P u, s with
  | some ⟨.slice e es eb, _, _, _, _⟩, some ⟨.int _, _, _, _, _⟩, .val (.slice none 0 0) => match tf P e with
    | some ⟨_, _, _, _, some z⟩ => z.cells.size = es ∧ 0 < es ∧ 0 < n ∧ n ≤ 9223372036854775807 ∧ n * eb ≤ 140737488355328 ∧
        @pfresh (names σ.heap) ⟨fun n' => K (PState.put ⟨σ.frame, (n', ⟨e, true, es, []⟩) :: σ.heap⟩ d (.row n' es n.toNat))⟩
    | _ => False
  | _, _, _ => False
theorem run_append_zeros {t u ty e : TypeId} {i : TypeInfo} {z : Value} {kd kd' : IntKind} (ht : P.underlying t = some (.slice e)) (hu : P.underlying u = some (.int kd)) (hi : P.info? e = some i) (hz : i.zero = some z) {m : Nat}
    (hg : 0 < m) (h63 : m ≤ 9223372036854775807) (hfit : m * i.bytes ≤ 140737488355328) (hsz : 0 < i.size) :
    Sem.run P (Builtin.append_ #[t, u] ty #[.slice none 0 0, .int kd' m]) w = .ok (.slice (some (at_ w.heap.size 0)) m (grownCap w m 0 e))
        (w.drew.alloc (.cells (Builtin.zeroCells z.cells m ++ Builtin.zeroCells z.cells (grownCap w m 0 e - m)) e)) := by
  have hn : ¬ (m = 0) := by omega
  have hwr : IntKind.i64.wrap (m : Int) = m := IntWalk.i64_in _ (by omega)
  have h63' : ¬ (9223372036854775807 < (m : Int)) := by omega
  have hfit' := growslice_fits (need := m) (old := 0) (bytes := i.bytes) hg hfit
  have h48' : ¬ (281474976710656 < Builtin.nextslicecap m 0 * i.bytes) := by omega
  have h48 : ¬ ((281474976710656 : Int) < (m : Int) * (i.bytes : Int)) := by
    have : ((m * i.bytes : Nat) : Int) ≤ (140737488355328 : Nat) := Int.ofNat_le.2 hfit
    rw [Int.natCast_mul] at this
    omega
  have hms : ¬ (m = 0 ∨ i.size = 0) := by omega
  have hms1 : ¬ (m * i.size = 0) := by simp only [Nat.mul_eq_zero]; exact hms
  have h0 : ¬ ((m : Int) < 0) := by omega
  simp only [Builtin.append_, List.getElem?_toArray, List.getElem?_cons_zero, List.getElem?_cons_succ, Sem.run_bind, run_underlying ht, Result.andThen_ok, run_underlying hu]
  simp [sizeOf, typeInfo, zeroValue, hi, hz, hn, hwr, h0, h63', h48, h48', hms, hms1, Question.forced, newRow, grownCap, asInt, asIntOf, Builtin.firstCells, IntKind.max, IntKind.signed, IntKind.bits]
theorem pgrow_sound {t u : TypeId} {s x : Operand} {kd : IntKind} {n : Int} (hs : Sim G E A σ a w) (ho : o.op = .call { callee := .builtin .append, args := #[s, x], argTypes := #[t, u] }) (hx : Rep w A (.val (.int kd n)) (a.eval x))
    (h : pgrow P σ o.dst t u (opnd G σ.frame s) n K) : Steps1 P G E false o K a w := by
  unfold pgrow at h
  split at h
  · rename_i e es eb s1 s2 s3 s4 kd2 s5 s6 s7 s8 hF hU hse
    have hsr := hs.opnd s
    rw [hse] at hsr
    obtain ⟨hu, i, hi, his, hib⟩ := tf_slice hF rfl
    have hui := tf_int hU rfl
    split at h
    · rename_i t1 t2 t3 t4 z hz
      obtain ⟨hzs, hes, hn0, h63, hfit, hk⟩ := h
      obtain ⟨d', i', hd', hi', hFe'⟩ := tf_some hz
      have hiz : i.zero = some z := by
        rw [hi] at hi'
        cases hi'
        injection hFe' with _ _ _ _ h5
        exact h5.symm
      subst his
      subst hib
      obtain ⟨m, rfl⟩ : ∃ m : Nat, n = m := ⟨n.toNat, by omega⟩
      have hrun := run_append_zeros (P := P) (w := w) (ty := o.type) (kd' := kd) hu hui hi hiz (m := m) (by omega) (by omega) (Int.ofNat_le.1 (by rw [Int.natCast_mul]; exact hfit)) hes
      have hge := grownCap_ge w m 0 e
      have hcm := grownCap_le_maxLen w m 0 e (by simp only [maxLen]; omega)
      have hs0 : Sim G E A σ a w.drew := hs.drawn
      have hsize : (Builtin.zeroCells z.cells m ++ Builtin.zeroCells z.cells (grownCap w m 0 e - m)).size = grownCap w m 0 e * i.size := by
        rw [Array.size_append, size_zeroCells, size_zeroCells, hzs, ← Nat.add_mul]
        congr 1
        omega
      obtain ⟨hfr, hsim⟩ := hs0.new (Builtin.zeroCells z.cells m ++ Builtin.zeroCells z.cells (grownCap w m 0 e - m)) (0, 0) ⟨e, true, i.size, []⟩ (fun _ => undef) (fun j _ h => by omega) ⟨fun _ => rfl, fun k => by cases k⟩ (fun j p hp => by simp at hp)
      refine ⟨.slice (some (at_ w.heap.size 0)) m (grownCap w m 0 e), _, _, A, .inl ?_, hk _ hfr, hsim.put o.dst (p := .row (w.drew.heap.size : Nat) i.size (m : Int).toNat) ?_, fun h => by cases h⟩
      · rw [← hsr.val_eq, ← hx.val_eq] at hrun
        unfold execOp
        simp [ho, resolve, invoke, builtin, hrun]
      · rw [Int.toNat_natCast]
        refine Rep.row _ _ _ _ _ e ?_ hsize hge hcm
        have := heap_alloc_new w.drew (.cells (Builtin.zeroCells z.cells m ++ Builtin.zeroCells z.cells (grownCap w m 0 e - m)) e)
        simp only [World.shape?]
        rw [this]
    · exact h.elim
  · exact h.elim
/-- The address of a slice's memory. -/
def pusd (x : PV) (K : PV → Prop) : Prop :=
  match x with
  | .row n _ len => 0 < len ∧ K (.ptr n 0)
  | .val (.slice none 0 0) => K (.val (.pointer none))
  | _ => False
theorem pusd_sound {K : PV → Prop} {t : TypeId} {x : Operand} {px : PV} (ho : o.op = .call { callee := .builtin .unsafeSliceData, args := #[x], argTypes := #[t] }) (hx : Rep w A px (ρ x)) (h : pusd px K) :
    ∃ r, K r ∧ ∃ v, Rep w A r v ∧ (execOp ρ o).run P w = .ok (.value v) w := by
  unfold pusd at h
  split at h
  · rename_i n es len
    obtain ⟨h0, hk⟩ := h
    rcases hx.row_inv with ⟨hn, rfl, hv⟩ | ⟨b, c, N, t', rfl, hv, hsh, hN, hlc, hmx⟩
    · omega
    · refine ⟨_, hk, .pointer (some (at_ b 0)), .ptr b 0 _ hsh, ?_⟩
      have hr := Lib.run_unsafeSliceData_row (P := P) (w := w) #[t] o.type (at_ b 0) len c (by omega)
      unfold execOp
      simp [ho, resolve, invoke, builtin, hv, hr]
  · refine ⟨_, h, .pointer none, .val _, ?_⟩
    have hv := hx.val_eq
    have hr : (Builtin.unsafeSliceData_ #[t] o.type #[.slice none 0 0]).run P w = .ok (.pointer none) w := rfl
    unfold execOp
    simp [ho, resolve, invoke, builtin, hv, hr]
  · exact h.elim
theorem freezeN_heap {b k : Nat} (hk : k ≠ 0) {cur : Array Value} {t : TypeId} (h : w.heap[b]? = some (.cells cur t (0, 0))) : (w.freeze ⟨b, 0, none⟩ k).heap[b]? = some (.cells cur t (0, 0 + k)) ∧ (∀ x, x ≠ b → (w.freeze ⟨b, 0, none⟩ k).heap[x]? = w.heap[x]?) ∧ (w.freeze ⟨b, 0, none⟩ k).heap.size = w.heap.size := by
  unfold World.freeze
  rw [if_neg hk]
  refine ⟨?_, fun x hx => ?_, by simp⟩
  · simp only [Array.getElem?_modify, if_pos, h, Option.map_some]
    rfl
  · simp only [Array.getElem?_modify]
    rw [if_neg (fun e => hx e.symm)]
theorem Ext.markN {b k : Nat} (hk : k ≠ 0) {cur : Array Value} {t : TypeId} (h : w.heap[b]? = some (.cells cur t (0, 0))) : Ext (fun x => x = b) w (w.freeze ⟨b, 0, none⟩ k) := by
  obtain ⟨h1, h2, h3⟩ := freezeN_heap hk h
  refine ⟨by unfold World.freeze; rw [if_neg hk], by unfold World.freeze; rw [if_neg hk], by unfold World.freeze; rw [if_neg hk], by omega, fun x _ hx => h2 x hx, fun x y hy => ?_⟩
  unfold kindOf at hy ⊢
  by_cases hx : x = b
  · subst hx
    rw [h1]
    rw [h] at hy
    exact hy
  · rw [h2 x hx]
    exact hy
/-- An object is given up: its block may have turned. -/
theorem Sim.giveup (hs : Sim G E A σ a w) {n : Int} {ob : PObj} {b : Nat} (hl : look σ.heap n = some ob) (hn : n = b) {w' : World} (he : Ext (fun x => x = b) w w') : Sim G E A ⟨σ.frame, del σ.heap n⟩ a w' := by
  have hmem := look_mem hl
  obtain ⟨hb1, hb2, hb3⟩ := hs.own n ob hmem b hn
  have hAb : ∀ x, A x → ¬ x = b := fun x hx e => hb2 (e ▸ hx)
  refine ⟨hs.ext.trans he (fun x hx e => by
      subst e
      rcases hb3 with h | h
      · omega
      · exact h), fun x hx => Nat.lt_of_lt_of_le (hs.lt x hx) he.size, hs.a0, hs.a1, fun g => (hs.globs g).ext he (fun _ h => h) hAb, (names_del_sub n σ.heap).nodup hs.nodup, fun m o' h => ?_, fun m o' h x hx => ?_, fun m o' h hm => ?_, hs.defers, hs.size, fun i p hp => ?_⟩
  · obtain ⟨hne, hm⟩ := mem_del hs.nodup h
    exact (hs.objs m o' hm).ext he (fun _ h => h) hAb (fun x hx e => hne (by rw [hx, e, hn]))
  · obtain ⟨hne, hm⟩ := mem_del hs.nodup h
    obtain ⟨q1, q2, q3⟩ := hs.own m o' hm x hx
    exact ⟨Nat.lt_of_lt_of_le q1 he.size, q2, q3⟩
  · obtain ⟨hne, hm'⟩ := mem_del hs.nodup h
    exact hs.neg m o' hm' hm
  · obtain ⟨v, hv, hr⟩ := hs.frame i p hp
    exact ⟨v, hv, hr.ext he (fun _ h => h) hAb⟩
/-- The string that shares a row's memory: the row is given up. -/
def pust (P : Program) (σ : PState) (d : Option Tmp) (pt : TypeId) (x k : PV) (K : PState → Prop) : Prop :=
  match x, k with
  | .ptr n 0, .val (.int .i64 m) => match look σ.heap n, tf P pt with
    | some ob, some ⟨.pointer e, _, _, _, _⟩ => ob.ty = e ∧ P.cellsOf e = 1 ∧ ob.grow = true ∧ m = ob.cells.length ∧ 0 < ob.cells.length ∧ m ≤ 9223372036854775807 ∧ ob.cells.all isByte = true ∧
      K (PState.put ⟨σ.frame, del σ.heap n⟩ d (pstr (ob.cells.map unb)))
    | _, _ => False
  | .val (.pointer none), .val (.int .i64 m) => m = 0 ∧ K (σ.put d (pstr []))
  | _, _ => False
theorem pust_sound {pt it : TypeId} {x k : Operand} (hs : Sim G E A σ a w) (ho : o.op = .call { callee := .builtin .unsafeString, args := #[x, k], argTypes := #[pt, it] }) (h : pust P σ o.dst pt (opnd G σ.frame x) (opnd G σ.frame k) K) : Steps1 P G E false o K a w := by
  unfold pust at h
  have hx := hs.opnd x
  have hk := hs.opnd k
  split at h
  · rename_i n m hxe hke
    rw [hxe] at hx
    rw [hke] at hk
    have ek := hk.val_eq
    split at h
    · rename_i ob e s1 s2 s3 s4 hl hF
      obtain ⟨hty, hce, hg, hm, h0, h63, hall, hK⟩ := h
      have hpt := tf_pointer hF rfl
      obtain ⟨b, x', rfl, hv, hsh⟩ : ∃ (b : Nat) (x' : TypeId × Nat), n = b ∧ a.eval x = .pointer (some (at_ b 0)) ∧ w.shape? b = some x' := by
        generalize a.eval x = v at hx
        cases hx with
        | ptr b off x' hs' => exact ⟨b, x', rfl, rfl, hs'⟩
      obtain ⟨cur, fz, f, hh, hu, hgz, hc⟩ := (hs.objs _ ob (look_mem hl)).block rfl hsh
      have hz := hgz.1 hg
      subst hz
      have hsz : ob.cells.length ≤ cur.size := by
        rcases Nat.lt_or_ge cur.size ob.cells.length with h | h
        · have := (hc cur.size _ (List.getElem?_eq_getElem h)).1
          simp at this
        · exact h
      have hcell : ∀ (j : Nat) (y : UInt8), (ob.cells.map unb)[j]? = some y → w.cell? ((⟨b, 0, none⟩ : Addr).add j) = some (.int .u8 y.toNat) := by
        intro j y hy
        rw [List.getElem?_map] at hy
        cases hj : ob.cells[j]? with
        | none => rw [hj] at hy; cases hy
        | some u =>
          rw [hj] at hy
          cases hy
          have hb := List.all_eq_true.1 hall u (List.mem_of_getElem? hj)
          obtain ⟨g1, g2, g3⟩ := hc j u hj
          have e1 : u = .val (.int .u8 (unb u).toNat) := by
            cases u with
            | val v =>
              cases v with
              | int kd z =>
                cases kd <;> simp [isByte] at hb
                simp only [unb]
                congr 2
                rw [UInt8.toNat_ofNat']
                omega
              | _ => simp [isByte] at hb
            | _ => simp [isByte] at hb
          have e2 := g3
          rw [e1] at e2
          have e3 := e2.val_eq
          have e4 : (⟨b, 0, none⟩ : Addr).add j = at_ b j := by
            simp [Addr.add, at_]
            omega
          rw [e4, cell_of_block hh, g1, e3]
      have hne : ob.cells.map unb ≠ [] := by
        intro e0
        have := congrArg List.length e0
        simp at this
        rw [this] at h0
        simp at h0
      have hrun := Lib.run_unsafeString_row (P := P) w pt it o.type e hpt hce b cur.size (by simp [World.shape?, hh, hty]) (ob.cells.map unb) hne (by simpa using hsz) (by simp; omega) hcell
      have hlen : (ob.cells.map unb).length = ob.cells.length := List.length_map _
      rw [hlen] at hrun
      have he := Ext.markN (k := ob.cells.length) (by omega) hh
      refine ⟨_, _, _, A, .inl ?_, hK, (hs.giveup hl rfl he).put o.dst (.val _), fun h => Bool.noConfusion h⟩
      unfold execOp
      simp [ho, resolve, invoke, builtin, hv, ek, hm, hrun, mk]
    · exact h.elim
  · rename_i m hxe hke
    rw [hxe] at hx
    rw [hke] at hk
    have ex := hx.val_eq
    have ek := hk.val_eq
    obtain ⟨rfl, hK⟩ := h
    have hrun := Lib.run_unsafeString_none (P := P) w pt it o.type none
    refine ⟨_, _, _, A, .inl ?_, hK, hs.put o.dst (.val _), fun h => Bool.noConfusion h⟩
    unfold execOp
    simp [ho, resolve, invoke, builtin, ex, ek, hrun, mk]
    rfl
  · exact h.elim
theorem pmmake_hint {t : TypeId} {x : Operand} (hs : Sim G E A σ a w) (ho : o.op = .makeMap t (some x)) {kd : IntKind} {n : Int} (hx : opnd G σ.frame x = .val (.int kd n)) {kt et : TypeId} {s1 s2 : Nat} {s3 : Bool} {s4 : Option Value} (hF : tf P t = some ⟨.map kt et, s1, s2, s3, s4⟩)
    (h : pmmake σ o.dst t K) : Steps1 P G E q o K a w := by
  obtain ⟨hfr, hsim⟩ := hs.newMap t
  have hv := hs.opnd x
  rw [hx] at hv
  have ev := hv.val_eq
  have hu := tf_map hF rfl
  refine ⟨.map (some w.heap.size), _, _, A, .inl ?_, h _ hfr, hsim.put o.dst (.mp _ ?_), fun _ b hb => Below.heap_alloc w _ b hb⟩
  · unfold execOp
    simp [ho, ev, Instr.makeMap, run_underlying hu, asInt, asIntOf]
  · unfold kindOf
    rw [heap_alloc_new]
end
end Go.PM

namespace Go.PM
open Go.RowKit
section
variable {P : Program} {G : Globs} {E : Amb} {A : Nat → Prop} {σ : PState} {a : Act} {w : World} {o : Oper} {K : PState → Prop} {q : Bool}
theorem upd_self {n : Int} {o : PObj} : ∀ {H : Heap}, look H n = some o → upd H n o = H
  | [], h => by simp [look] at h
  | (m, y) :: r, h => by
    simp only [look] at h
    simp only [upd]
    split
    · rename_i e; rw [if_pos e] at h; cases h; subst e; rfl
    · rename_i hne; rw [if_neg hne] at h; rw [upd_self h]
theorem pcopy_core {t u : TypeId} {s x : Operand} (hs : Sim G E A σ a w) (ho : o.op = .call { callee := .builtin .copy, args := #[s, x], argTypes := #[t, u] }) {e : TypeId} {es eb : Nat} {F : TF} (hF : tf P t = some F) (hti : F.ti = .slice e es eb)
    {m : Nat} {ys : List PV} (hsrc : psrc P σ.heap u es (opnd G σ.frame x) = some (m, ys)) {n : Int} {off len : Nat} {ob : PObj} (hl : look σ.heap n = some ob) (hoff : off + len * es ≤ ob.cells.length)
    (hv : (len = 0 ∧ ∃ ad c, a.eval s = .slice ad 0 c) ∨ ∃ b c : Nat, n = b ∧ a.eval s = .slice (some (at_ b off)) len c ∧ ∃ sh, w.shape? b = some sh)
    (hk : K (PState.put ⟨σ.frame, upd σ.heap n { ob with cells := ob.cells.take off ++ ys.take (min m len * es) ++ ob.cells.drop (off + min m len * es) }⟩ o.dst (pint .i64 (min m len : Nat)))) : Steps1 P G E false o K a w := by
  obtain ⟨hu, i, hi, his, _⟩ := tf_slice hF hti
  subst his
  obtain ⟨news, hs1, hyl, hy⟩ := psrc_sound (hs.opnd x) (fun n o h => hs.objs n o (look_mem h)) hsrc
  have hmin : Nat.min m len = min m len := rfl
  have hf := hs1.first (min m len) (Nat.min_le_left _ _) w (Keeps.refl w)
  have hle : min m len * i.size ≤ m * i.size := Nat.mul_le_mul_right _ (Nat.min_le_left _ _)
  have hle2 : min m len * i.size ≤ len * i.size := Nat.mul_le_mul_right _ (Nat.min_le_right _ _)
  have hyn : ys.length = m * i.size := by rw [hyl, hs1.count]
  have hnn : news.length = m * i.size := hs1.count
  rcases hv with ⟨rfl, ad, c, hv⟩ | ⟨b, c, rfl, hv, sh, hsx⟩
  · simp only [Nat.min_zero, Nat.zero_mul, List.take_zero, List.append_nil, Nat.add_zero, List.take_append_drop] at hk hf
    rw [upd_self (show look σ.heap n = some { ob with cells := ob.cells } from hl)] at hk
    refine ⟨_, w, _, A, .inl ?_, hk, hs.put o.dst (.val _), fun h => by cases h⟩
    unfold execOp
    have hst : ∀ w', Sem.run P (match ad with | some a => storeCells a ([] : List Value) | none => pure ()) w' = .ok () w' := by intro w'; cases ad <;> rfl
    cases ad <;> simp [ho, resolve, invoke, builtin, Builtin.copy_, run_underlying hu, hv, hs1.len, sizeOf, typeInfo, hi, hf, storeCells, goInt]
  · obtain ⟨cur, fz, f, hh, hun, hg, hc⟩ := (hs.objs _ ob (look_mem hl)).block rfl hsx
    have hcl : ob.cells.length ≤ cur.size := by
      rcases Nat.lt_or_ge cur.size ob.cells.length with h | h
      · have := (hc cur.size _ (List.getElem?_eq_getElem h)).1
        simp at this
      · exact h
    have htl : (ys.take (min m len * i.size)).length = min m len * i.size := by rw [List.length_take, hyn, Nat.min_eq_left hle]
    have hvl : (news.take (min m len * i.size)).length = min m len * i.size := by rw [List.length_take, hnn, Nat.min_eq_left hle]
    have hst := hs.store (vs := news.take (min m len * i.size)) (xs := ys.take (min m len * i.size)) (off := off) hl rfl hsx (by rw [htl, hvl]) (by omega) (.inl (by rw [htl]; omega)) (fun j p hp => by
      rw [List.getElem?_take] at hp
      split at hp
      · rename_i hj
        obtain ⟨h1, v, hv, hr⟩ := hy j p hp
        exact ⟨h1, v, by rw [List.getElem?_take, if_pos hj]; exact hv, hr⟩
      · cases hp)
    rw [htl] at hst
    have hone : ∀ v ∈ news.take (min m len * i.size), v.oneCell' = true := by
      intro v hv
      obtain ⟨j, hj, rfl⟩ := List.getElem_of_mem (List.mem_of_mem_take hv)
      have hj' : j < ys.length := by omega
      obtain ⟨h1, v', hv', hr⟩ := hy j _ (List.getElem?_eq_getElem hj')
      rw [List.getElem?_eq_getElem hj] at hv'
      cases hv'
      exact (one_cells h1 hr).2
    have hrun := run_storeCells_cells (P := P) b off (news.take (min m len * i.size)) 0 w (fun j hj => by
      have : off + 0 + j < cur.size := by rw [hvl] at hj; omega
      simp [World.cell?, hh]; omega) (fun j hj => by
      have hlt : off + 0 + j < cur.size := by rw [hvl] at hj; omega
      have := hun (off + 0 + j) hlt
      obtain ⟨lo, hi⟩ := fz
      simp [World.frozen?, hh]
      simp at this
      exact this) hone
    have hrun' : Sem.run P (storeCells (at_ b off) (news.take (min m len * i.size)) 0) w = .ok () (w.setCells b off (news.take (min m len * i.size))) := by simpa using hrun
    refine ⟨_, _, _, A, .inl ?_, hk, hst.put o.dst (.val _), fun h => by cases h⟩
    unfold execOp
    simp [ho, resolve, invoke, builtin, Builtin.copy_, run_underlying hu, hv, hs1.len, sizeOf, typeInfo, hi, hmin, hf, hrun', goInt]
theorem pcopy_sound {t u : TypeId} {s x : Operand} (hs : Sim G E A σ a w) (ho : o.op = .call { callee := .builtin .copy, args := #[s, x], argTypes := #[t, u] })
    (h : pcopy P σ o.dst t u (opnd G σ.frame s) (opnd G σ.frame x) K) : Steps1 P G E false o K a w := by
  unfold pcopy at h
  split at h
  · rename_i e es eb s1 s2 s3 s4 hF
    split at h
    · rename_i m ys hsrc
      have hsr := hs.opnd s
      split at h
      · rename_i n es' len hse
        rw [hse] at hsr
        split at h
        · rename_i ob hl
          obtain ⟨rfl, hoff, hk⟩ := h
          refine pcopy_core (off := 0) (len := len) hs ho hF rfl hsrc hl (by omega) ?_ (by simpa using hk)
          rcases hsr.row_inv with ⟨hn, rfl, hv⟩ | ⟨b, c, N, t', hn, hv, hsx, _⟩
          · exact .inl ⟨rfl, _, _, hv⟩
          · exact .inr ⟨b, c, hn, hv, _, hsx⟩
        · exact h.elim
      · rename_i n es' off len hse
        rw [hse] at hsr
        split at h
        · rename_i ob hl
          obtain ⟨rfl, hoff, hk⟩ := h
          refine pcopy_core (off := off) (len := len) hs ho hF rfl hsrc hl hoff ?_ hk
          rcases hsr.sub_inv with ⟨rfl, ad, c, hv⟩ | ⟨b, c, hn, hv, _, xs, hsx⟩
          · exact .inl ⟨rfl, _, _, hv⟩
          · exact .inr ⟨b, c, hn, hv, xs, hsx⟩
        · exact h.elim
      · exact h.elim
    · exact h.elim
  · exact h.elim
/-- The elements of a row. -/
def elemsOf (es : Nat) (cells : List PV) (len : Nat) : List PV :=
  if es = 1 then cells.take len else (List.range len).map fun i => .agg ((cells.drop (i * es)).take es)
theorem elemsOf_flat {es len : Nat} {cells : List PV} (hes : 0 < es) (hle : len * es ≤ cells.length) (h1 : ∀ p ∈ cells, p.one = true) :
    flat (elemsOf es cells len) = cells.take (len * es) ∧ (elemsOf es cells len).length = len ∧ ∀ x ∈ elemsOf es cells len, x.cells.length = es := by
  unfold elemsOf
  split
  · rename_i he
    subst he
    rw [Nat.mul_one] at hle ⊢
    refine ⟨flat_one fun p hp => h1 p (List.mem_of_mem_take hp), by simp [Nat.min_eq_left hle], fun x hx => ?_⟩
    rw [one_cell (h1 x (List.mem_of_mem_take hx))]
    rfl
  · have key : ∀ len, len * es ≤ cells.length → flat ((List.range len).map fun i => PV.agg ((cells.drop (i * es)).take es)) = cells.take (len * es) := by
      intro len
      induction len with
      | zero => intro _; simp [flat]
      | succ n ih =>
        intro hl
        rw [Nat.succ_mul] at hl
        rw [List.range_succ, List.map_append, flat, List.flatMap_append]
        have := ih (by omega)
        rw [flat] at this
        rw [this]
        simp only [List.map_cons, List.map_nil, List.flatMap_cons, List.flatMap_nil, List.append_nil, PV.cells]
        rw [Nat.succ_mul, List.take_add]
    refine ⟨key len hle, by simp, fun x hx => ?_⟩
    obtain ⟨i, hi, rfl⟩ := List.mem_map.1 hx
    have hi' : i < len := by simpa using hi
    have : (i + 1) * es ≤ len * es := Nat.mul_le_mul_right _ hi'
    rw [Nat.succ_mul] at this
    simp only [PV.cells, List.length_take, List.length_drop]
    omega
theorem frz_list {es len off : Nat} {cells : List PV} {b : Nat} {f : Nat → Value} {A' : Nat → Prop} (hb : A' b) (hes : 0 < es) (hle : off + len * es ≤ cells.length)
    (hc : ∀ (j : Nat) (u : PV), cells[j]? = some u → w.cell? (at_ b j) = some (f j) ∧ u.one = true ∧ Rep w A' u (f j)) {c : Nat} (hl : len ≤ c) :
    Rep w A' (.list es (elemsOf es (cells.drop off) len)) (.slice (some (at_ b off)) len c) := by
  have h1 : ∀ p ∈ cells.drop off, p.one = true := by
    intro p hp
    obtain ⟨j, hj⟩ := List.mem_iff_getElem?.1 (List.mem_of_mem_drop hp)
    exact (hc j p hj).2.1
  obtain ⟨e1, e2, e3⟩ := elemsOf_flat (cells := cells.drop off) (len := len) hes (by simp; omega) h1
  have hget : ∀ (j : Nat) (u : PV), (flat (elemsOf es (cells.drop off) len))[j]? = some u → cells[off + j]? = some u := by
    intro j u hu
    rw [e1, List.getElem?_take] at hu
    split at hu
    · rwa [List.getElem?_drop] at hu
    · cases hu
  have := Rep.list (w := w) (A := A') es (elemsOf es (cells.drop off) len) b off c (fun j => f (off + j)) hb (by rw [e2]; exact hl) e3
    (fun j u hu => ⟨(hc _ u (hget j u hu)).1, (hc _ u (hget j u hu)).2.1⟩) (fun j u hu => (hc _ u (hget j u hu)).2.2)
  rw [e2] at this
  exact this
/-- A literal's row: as memory that nobody turns, or as a row of one's own. -/
class Born where
  im : Prop
  mu : Int → Prop
def pborn (l : List Int) [h : Born] : Prop := h.im ∨ ∀ n : Int, n ∉ l → h.mu n
/-- []T{..} -/
def pbuildS (P : Program) (σ : PState) (d : Option Tmp) (t : TypeId) (len : Nat) (parts : List (Nat × PV)) (K : PState → Prop) : Prop :=
  match tf P t with
  | some ⟨.slice e es _, _, _, _, _⟩ => match tf P e with
    | some Fe => match Fe.zero with
      | some z => match pfill (fun i => some (i * es, es)) (times len (vcells z)) parts with
        | some cs => len * es ≤ 16777216 ∧ z.cells.size = es ∧ 0 < es ∧ cs.all PV.one = true ∧ @pborn (names σ.heap) ⟨K (σ.put d (.list es (elemsOf es cs len))), fun n => K (PState.put ⟨σ.frame, (n, ⟨e, true, es, cs⟩) :: σ.heap⟩ d (.row n es len))⟩
        | none => False
      | none => False
    | none => False
  | _ => False
theorem pfill_length {place : Nat → Option (Nat × Nat)} : ∀ (ps : List (Nat × PV)) (cs out : List PV), pfill place cs ps = some out → out.length = cs.length
  | [], cs, out, h => by simp [pfill] at h; rw [h]
  | (i, x) :: ps, cs, out, h => by
    simp only [pfill] at h
    split at h
    · split at h
      · rename_i hc
        rw [pfill_length ps _ out h]
        simp
        omega
      · cases h
    · cases h
theorem pbuildS_sound {t : TypeId} {len : Nat} {parts : Array (Nat × Operand)} (hs : Sim G E A σ a w) (ho : o.op = .buildSlice t len parts) (h : pbuildS P σ o.dst t len (parts.toList.map fun p => (p.1, opnd G σ.frame p.2)) K) :
    Steps1 P G E q o K a w := by
  unfold pbuildS at h
  split at h
  · rename_i e es eb s1 s2 s3 s4 hF
    obtain ⟨hu, i, hi, his, _⟩ := tf_slice hF rfl
    subst his
    split at h
    · rename_i Fe hFe
      split at h
      · rename_i z hz
        split at h
        · rename_i cs hfill
          obtain ⟨hle, hzs, hes, h1, hk⟩ := h
          obtain ⟨res, hf, hres⟩ := fill_reps (w := w) (A := A) (place := fun i' => some (i' * i.size, i.size)) (place' := fun i' => some (i' * i.size, i.size)) (fun _ _ _ h => h) _ (parts.toList.map fun p => (p.1, a.eval p.2)) _ _ cs (times_reps z len i.size hzs) (by simp)
            (fun k p hk => by
              rw [List.getElem?_map] at hk
              cases hj : parts.toList[k]? with
              | none => rw [hj] at hk; cases hk
              | some r =>
                rw [hj] at hk
                cases hk
                refine ⟨a.eval r.2, ?_, hs.opnd r.2⟩
                rw [List.getElem?_map, hj]
                rfl) hfill
          have hrsz : res.size = len * i.size := by
            rw [hres.1, pfill_length _ _ _ hfill, times_length]
            simp [vcells, hzs]
          have hrun : (execOp a.eval o).run P w = .ok (.value (.slice (some (at_ w.heap.size 0)) len len)) (w.alloc (.cells res e)) := by
            have hz0 := zero_run hFe hz
            have hmap : (parts.map fun x => (x.1, a.eval x.2)).toList = parts.toList.map fun p => (p.1, a.eval p.2) := by simp
            unfold execOp
            simp only [ho, Instr.buildSlice, Sem.run_bind, run_underlying hu, Result.andThen_ok, sizeOf, typeInfo, run_program, hi, Sem.run_pure]
            rw [if_neg (by omega)]
            split
            · rename_i h0
              have hf0 : Instr.fill (fun i' => some (i' * i.size, i.size)) (Array.map (fun x => (#[] : Array Value)[x % (#[] : Array Value).size]!) (Array.range (len * i.size))) (parts.map fun x => (x.1, a.eval x.2)).toList = some res := by
                have e0 : ∀ g h : Nat → Value, Array.map g (Array.range 0) = Array.map h (Array.range 0) := by
                  intro g h
                  apply Array.ext
                  · simp
                  · intro k h1; simp at h1
                rw [hmap, ← hf, h0]
                exact congrArg (fun c => Instr.fill (fun i' => some (i' * i.size, i.size)) c (parts.toList.map fun p => (p.1, a.eval p.2))) (e0 _ _)
              simp only [Sem.run_bind, Sem.run_pure, Result.andThen_ok, hf0]
              simp [newRow, newObj, Sem.run]
            · rw [← hmap] at hf
              simp only [Sem.run_bind, hz0, Result.andThen_ok, Sem.run_pure, hf]
              simp [newRow, newObj, Sem.run]
          rcases hk with hk | hk
          · have hfresh : (w.heap.size : Int) ∉ names σ.heap := by
              intro h
              obtain ⟨⟨n, o'⟩, hno, hn⟩ := List.mem_map.1 h
              have := (hs.own n o' hno w.heap.size hn).1
              omega
            have he : Ext (fun _ => False) w (w.alloc (.cells res e)) := Ext.alloc _ _ _
            have hg := hs.grow he
            have hA : ∀ b, A b → (A b ∨ b = w.heap.size) := fun b h => .inl h
            have hm := hg.more (A' := fun b => A b ∨ b = w.heap.size) hA (fun b hb => by
              rcases hb with h | h
              · exact .inl h
              · subst h
                exact .inr ⟨by simp, hs.ext.size, hfresh⟩)
            refine ⟨_, _, _, _, .inl hrun, hk, hm.put o.dst ?_, fun _ b hb => Below.heap_alloc w _ b hb⟩
            have hl := frz_list (w := w.alloc (.cells res e)) (A' := fun b => A b ∨ b = w.heap.size) (es := i.size) (len := len) (off := 0) (cells := cs) (b := w.heap.size) (f := fun j => res.getD j undef) (c := len) (.inr rfl) hes
              (by rw [pfill_length _ _ _ hfill, times_length]; simp [vcells, hzs]) (fun j u hu => by
                obtain ⟨r1, r2⟩ := hres.fn j u hu
                refine ⟨?_, List.all_eq_true.1 h1 u (List.mem_of_getElem? hu), r2.ext he hA (fun _ _ h => h)⟩
                rw [cell_of_block (heap_alloc_new w _)]
                exact r1) (Nat.le_refl _)
            rwa [List.drop_zero] at hl
          refine step_new hs hres (fun u hu => List.all_eq_true.1 h1 u hu) e true i.size (fun n => .row n i.size len) (fun b => .slice (some (at_ b 0)) len len)
            (fun w' hsh => Rep.row _ _ _ _ _ e hsh hrsz (Nat.le_refl _) (by
              have : len ≤ len * i.size := Nat.le_mul_of_pos_right _ hes
              simp only [maxLen]; omega)) hrun hk
        · exact h.elim
      · exact h.elim
    · exact h.elim
  · exact h.elim
/-- What holds when a call has come back. -/
def CallEnd (G : Globs) (E : Amb) (q : Bool) (a : Act) (w : World) (d : Option Tmp) (K : PState → Prop) (e : Ending) (w' : World) : Prop :=
  ∃ v σ' A', e = .returned v ∧ K σ' ∧ Sim G E A' σ' (a.put d v) w' ∧ (q = true → Keeps w w')
/-- A call of function fn with the pure arguments args, from the state σ. -/
def pcall (q : Bool) (P : Program) (G : Globs) (σ : PState) (d : Option Tmp) (fn : FuncId) (args : List PV) (K : PState → Prop) : Prop :=
  ∀ E A a w (vals : Array Value), Sim G E A σ a w → vals.size = args.length → (∀ (i : Nat) (p : PV), args[i]? = some p → ∃ v : Value, vals[i]? = some v ∧ Rep w A p v) →
    Calls P fn vals w (CallEnd G E q a w d K)
/-- What follows, where it is not looked at. -/
class Cont where
  k : PState → Prop
def pcallI (q : Bool) (P : Program) (G : Globs) (σ : PState) (d : Option Tmp) (fn : FuncId) (args : List PV) [c : Cont] : Prop := pcall q P G σ d fn args c.k
/-- the function has a body of its own -/
def callable (P : Program) (f : FuncId) : Bool :=
  match P.funcs[f]? with
  | some fn => fn.body.isSome && !(fn.name == "runtime.NumGoroutine")
  | none => false
theorem callable_run {f : FuncId} (h : callable P f = true) (args : Array Value) (w : World) : Sem.run P (callFunc f args) w = .ok (.enter f args) w := by
  unfold callable at h
  split at h
  · rename_i fn hf
    simp only [Bool.and_eq_true, Bool.not_eq_true'] at h
    have hb : fn.body.isNone = false := by
      cases hq : fn.body with
      | none => rw [hq] at h; simp at h
      | some c => rfl
    have hne : fn.name ≠ "runtime.NumGoroutine" := by simpa using h.2
    have hbn : fn.body ≠ none := by intro e; rw [e] at hb; cases hb
    unfold callFunc
    simp [hf, hne, hbn]
  · cases h
/-- a builtin -/
def pbuiltin (q : Bool) (P : Program) (G : Globs) (d : Option Tmp) (b : Builtin) (args : List Operand) (ts : List TypeId) (σ : PState) (K : PState → Prop) : Prop :=
  match b with
  | .len => match args, ts with
    | [x], [t] => match opnd G σ.frame x with
      | .mp n => pmlen P σ.heap t n fun r => K (σ.put d r)
      | px => plen P t px fun r => K (σ.put d r)
    | _, _ => False
  | .delete => match args, ts with
    | [x, k], [t, _] => q = false ∧ pmdel P σ d t (opnd G σ.frame x) (opnd G σ.frame k) K
    | _, _ => False
  | .append => match args, ts with
    | [x, y], [t, u] => match opnd G σ.frame y with
      | .val (.int _ n) => q = false ∧ pgrow P σ d t u (opnd G σ.frame x) n K
      | py => q = false ∧ pappend P σ d t u (opnd G σ.frame x) py K
    | _, _ => False
  | .cap => match args, ts with
    | [x], [t] => pcap P t (opnd G σ.frame x) fun r => K (σ.put d r)
    | _, _ => False
  | .copy => match args, ts with
    | [x, y], [t, u] => q = false ∧ pcopy P σ d t u (opnd G σ.frame x) (opnd G σ.frame y) K
    | _, _ => False
  | .min => pmm true (args.map (opnd G σ.frame)) fun r => K (σ.put d r)
  | .max => pmm false (args.map (opnd G σ.frame)) fun r => K (σ.put d r)
  | .unsafeSliceData => match args, ts with
    | [x], [_] => pusd (opnd G σ.frame x) fun r => K (σ.put d r)
    | _, _ => False
  | .unsafeString => match args, ts with
    | [x, k], [pt, _] => q = false ∧ pust P σ d pt (opnd G σ.frame x) (opnd G σ.frame k) K
    | _, _ => False
  | _ => False
/-- What is not nil. -/
def pnck (x : PV) (K : PV → Prop) : Prop :=
  match x with
  | .ptr n off => K (.ptr n off)
  | .iptr cs off => K (.iptr cs off)
  | .func f caps => K (.func f caps)
  | .val (.func (.yield l) x y) => K (.val (.func (.yield l) x y))
  | _ => False
/-- one operation -/
def pop (q : Bool) (P : Program) (G : Globs) (o : Oper) (σ : PState) (K : PState → Prop) : Prop :=
  match o.op with
  | .move x => K (σ.put o.dst (opnd G σ.frame x))
  | .assign x => K (σ.put o.dst (opnd G σ.frame x))
  | .pick c x y => ppick (opnd G σ.frame c) (opnd G σ.frame x) (opnd G σ.frame y) fun r => K (σ.put o.dst r)
  | .alloc t => palloc P σ o.dst t K
  | .box t x => pbox σ o.dst t (opnd G σ.frame x) K
  | .build t ps => pbuild P t (ps.toList.map fun p => (p.1, opnd G σ.frame p.2)) fun r => K (σ.put o.dst r)
  | .buildSlice t n ps => pbuildS P σ o.dst t n (ps.toList.map fun p => (p.1, opnd G σ.frame p.2)) K
  | .load t x => pldop P σ.heap t (opnd G σ.frame x) fun r => K (σ.put o.dst r)
  | .store t x y => q = false ∧ pstore P σ o.dst t (opnd G σ.frame x) (opnd G σ.frame y) K
  | .nilCheck x => pnck (opnd G σ.frame x) fun r => K (σ.put o.dst r)
  | .binOp op t x y _ => match opnd G σ.frame y with
    | .val (.slice none 0 0) | .val (.pointer none) | .val (.map none) => match op with
      | .eql => pnile P false t (opnd G σ.frame x) (opnd G σ.frame y) fun r => K (σ.put o.dst r)
      | .neq => pnile P true t (opnd G σ.frame x) (opnd G σ.frame y) fun r => K (σ.put o.dst r)
      | _ => False
    | _ => match opnd G σ.frame x, op with
    | .agg _, .eql => pageq P false t (opnd G σ.frame x) (opnd G σ.frame y) fun r => K (σ.put o.dst r)
    | .agg _, .neq => pageq P true t (opnd G σ.frame x) (opnd G σ.frame y) fun r => K (σ.put o.dst r)
    | .val (.bool _), .eql => pageq P false t (opnd G σ.frame x) (opnd G σ.frame y) fun r => K (σ.put o.dst r)
    | .val (.bool _), .neq => pageq P true t (opnd G σ.frame x) (opnd G σ.frame y) fun r => K (σ.put o.dst r)
    | _, _ => pbin op (opnd G σ.frame x) (opnd G σ.frame y) fun r => K (σ.put o.dst r)
  | .unOp op _ x => pun op (opnd G σ.frame x) fun r => K (σ.put o.dst r)
  | .convert s d x => match tf P s, tf P d with
    | some ⟨.string, _, _, _, _⟩, some ⟨.slice _ _ _, _, _, _, _⟩ => pbytes P σ o.dst s d (opnd G σ.frame x) K
    | some ⟨.slice _ _ _, _, _, _, _⟩, some ⟨.slice _ _ _, _, _, _, _⟩ => q = false ∧ pmark P σ o.dst s d (opnd G σ.frame x) K
    | _, _ => pconv P σ.heap s d (opnd G σ.frame x) fun r => K (σ.put o.dst r)
  | .sliceToArrayPointer t x => parr P t (opnd G σ.frame x) fun r => K (σ.put o.dst r)
  | .makeFunc fn first cs => match fn, first.toList with
    | .func f, [] => K (σ.put o.dst (.func f (cs.toList.map (opnd G σ.frame))))
    | _, _ => False
  | .makeSlice t l c => pmakes P σ o.dst t (opnd G σ.frame l) (opnd G σ.frame c) K
  | .slice t x lo hi mx => pslice P t (opnd G σ.frame x) (lo.map (opnd G σ.frame)) (hi.map (opnd G σ.frame)) (mx.map (opnd G σ.frame)) fun r => K (σ.put o.dst r)
  | .fieldAddr t x k => pfaddr P t (opnd G σ.frame x) k fun r => K (σ.put o.dst r)
  | .field t x k => pfield P t (opnd G σ.frame x) k fun r => K (σ.put o.dst r)
  | .indexAddr t x i => piaddr P t (opnd G σ.frame x) (opnd G σ.frame i) fun r => K (σ.put o.dst r)
  | .index t x i => pindex P t (opnd G σ.frame x) (opnd G σ.frame i) fun r => K (σ.put o.dst r)
  | .extract x k => pextract (opnd G σ.frame x) k fun r => K (σ.put o.dst r)
  | .lookup t x k ok => pmlook P σ.heap t (opnd G σ.frame x) (opnd G σ.frame k) ok fun r => K (σ.put o.dst r)
  | .mapUpdate t x k v => q = false ∧ pmupd P σ o.dst t (opnd G σ.frame x) (opnd G σ.frame k) (opnd G σ.frame v) K
  | .makeMap t r => match r with
    | none => pmmake σ o.dst t K
    | some x => match opnd G σ.frame x, tf P t with
      | .val (.int _ _), some ⟨.map _ _, _, _, _, _⟩ => pmmake σ o.dst t K
      | _, _ => False
  | .call c => match c.callee with
    | .builtin b => pbuiltin q P G o.dst b c.args.toList c.argTypes.toList σ K
    | .value f => match opnd G σ.frame f with
      | .func fn caps => callable P fn = true ∧ @pcallI q P G σ o.dst fn (c.args.toList.map (opnd G σ.frame) ++ caps) ⟨K⟩
      | _ => False
    | .invoke _ _ => False
  | _ => False
theorem wp_of_gives {p : PV → Prop} {next : Act → World → Prop} {Q : Exit → Act → World → Prop} (hs : Sim G E A σ a w) (h : ∃ r, K (σ.put o.dst r) ∧ Gives P w A a.eval o r)
    (hn : ∀ σ' A' a' w', K σ' → Sim G E A' σ' a' w' → (q = true → Keeps w w') → next a' w') : o.wp P a w next Q := by
  obtain ⟨r, hk, v, hr, hrun⟩ := h
  unfold Oper.wp
  rw [hrun w (Keeps.refl w)]
  exact hn _ A _ _ hk (hs.put o.dst hr) (fun _ => Keeps.refl w)
theorem wp_of_steps {next : Act → World → Prop} {Q : Exit → Act → World → Prop} (h : Steps1 P G E q o K a w) (hn : ∀ σ' A' a' w', K σ' → Sim G E A' σ' a' w' → (q = true → Keeps w w') → next a' w') : o.wp P a w next Q := by
  obtain ⟨v, w1, σ', A', hrun, hk, hs, hq⟩ := h
  unfold Oper.wp
  rcases hrun with hrun | ⟨hrun, rfl⟩
  · rw [hrun]; exact hn _ _ _ _ hk hs hq
  · rw [hrun]; exact hn _ _ _ _ hk hs hq
end
end Go.PM

namespace Go.PM
open Go.RowKit
section
variable {P : Program} {G : Globs} {E : Amb} {A : Nat → Prop} {σ : PState} {a : Act} {w : World} {o : Oper} {K : PState → Prop} {q : Bool}
theorem gives_nil {x : Operand} (ho : o.op = .nilCheck x) (hs : Sim G E A σ a w) (h : pnck (opnd G σ.frame x) fun r => K (σ.put o.dst r)) : ∃ r, K (σ.put o.dst r) ∧ Gives P w A a.eval o r := by
  have hx := hs.opnd x
  unfold pnck at h
  split at h
  · rename_i n off e
    rw [e] at hx
    obtain ⟨b, rfl, hv, _⟩ := hx.ptr_inv
    refine ⟨_, h, _, hx, fun w' _ => ?_⟩
    unfold execOp
    simp [ho, hv]
  · rename_i cs off e
    rw [e] at hx
    obtain ⟨b, off0, f, hA, hv, h1, h2⟩ := hx.iptr_inv
    refine ⟨_, h, _, hx, fun w' _ => ?_⟩
    unfold execOp
    simp [ho, hv]
  · rename_i f caps e
    rw [e] at hx
    refine ⟨_, h, _, hx, fun w' _ => ?_⟩
    unfold execOp
    cases hx' : a.eval x with
    | func fn first cap =>
      rw [hx'] at hx
      cases hx
      simp [ho, hx']
    | _ => rw [hx'] at hx; cases hx
  · rename_i l u v e
    rw [e] at hx
    have hv := hx.val_eq
    refine ⟨_, h, _, hx, fun w' _ => ?_⟩
    unfold execOp
    simp [ho, hv]
  · exact h.elim
theorem pop_sound (hs : Sim G E A σ a w) (h : pop q P G o σ K) {next : Act → World → Prop} {Q : Exit → Act → World → Prop}
    (hn : ∀ σ' A' a' w', K σ' → Sim G E A' σ' a' w' → (q = true → Keeps w w') → next a' w') : o.wp P a w next Q := by
  have D : (∃ r, K (σ.put o.dst r) ∧ Gives P w A a.eval o r) → o.wp P a w next Q := fun h => wp_of_gives (p := fun _ => True) hs h hn
  have S : ∀ q', (q = true → q' = true) → Steps1 P G E q' o K a w → o.wp P a w next Q := by
    intro q' hq h
    refine wp_of_steps h fun σ' A' a' w' hk hs' hq' => hn σ' A' a' w' hk hs' (fun e => hq' (hq e))
  have F : ∀ {c : Prop}, q = false → (q = true → c) := fun h h' => by rw [h] at h'; cases h'
  have hob : ∀ n o, look σ.heap n = some o → ObjRep w A n o := fun n o h => hs.objs n o (look_mem h)
  unfold pop at h
  split at h
  · rename_i x ho
    exact D ⟨_, h, _, hs.opnd x, fun w' _ => by unfold execOp; simp [ho]⟩
  · rename_i x ho
    exact D ⟨_, h, _, hs.opnd x, fun w' _ => by unfold execOp; simp [ho]⟩
  · rename_i c x y ho
    exact D (ppick_sound ho (hs.opnd c) (hs.opnd x) (hs.opnd y) h)
  · rename_i t ho
    exact S q id (palloc_sound hs ho h)
  · rename_i t x ho
    exact S q id (pbox_sound hs ho h)
  · rename_i t ps ho
    exact D (pbuild_sound (parts := ps.toList) (by simpa using ho) hs.opnd h)
  · rename_i t n ps ho
    exact S q id (pbuildS_sound hs ho h)
  · rename_i t x ho
    exact D (pldop_sound ho (hs.opnd x) hob h)
  · rename_i t x y ho
    exact S false (F h.1) (pstore_sound hs ho h.2)
  · rename_i x ho
    exact D (gives_nil ho hs h)
  · rename_i op t x y u ho
    split at h
    · split at h
      · exact D (pnile_sound (neg := false) ho (hs.opnd x) (hs.opnd y) h)
      · exact D (pnile_sound (neg := true) ho (hs.opnd x) (hs.opnd y) h)
      · exact h.elim
    · split at h
      · exact D (pnile_sound (neg := false) ho (hs.opnd x) (hs.opnd y) h)
      · exact D (pnile_sound (neg := true) ho (hs.opnd x) (hs.opnd y) h)
      · exact h.elim
    · split at h
      · exact D (pnile_sound (neg := false) ho (hs.opnd x) (hs.opnd y) h)
      · exact D (pnile_sound (neg := true) ho (hs.opnd x) (hs.opnd y) h)
      · exact h.elim
    split at h
    · exact D (pageq_sound (neg := false) ho (hs.opnd x) (hs.opnd y) h)
    · exact D (pageq_sound (neg := true) ho (hs.opnd x) (hs.opnd y) h)
    · exact D (pageq_sound (neg := false) ho (hs.opnd x) (hs.opnd y) h)
    · exact D (pageq_sound (neg := true) ho (hs.opnd x) (hs.opnd y) h)
    · exact D (pbin_sound ho (hs.opnd x) (hs.opnd y) h)
  · rename_i op t x ho
    exact D (pun_sound ho (hs.opnd x) h)
  · rename_i s d x ho
    split at h
    · exact S q id (pbytes_sound hs ho h)
    · exact S false (F h.1) (pmark_sound hs ho h.2)
    · exact D (pconv_sound ho (hs.opnd x) hob h)
  · rename_i t x ho
    exact D (parr_sound ho (hs.opnd x) h)
  · rename_i fn first cs ho
    split at h
    · rename_i f hfirst
      have e1 : first = #[] := by simpa using hfirst
      subst e1
      exact D (pfunc_sound (cs := cs.toList) (by simpa using ho) hs.opnd h)
    · exact h.elim
  · rename_i t l c ho
    exact S q id (pmakes_sound hs ho h)
  · rename_i t x lo hi mx ho
    exact D (pslice_sound ho hs.opnd h)
  · rename_i t x k ho
    exact D (pfaddr_sound ho (hs.opnd x) h)
  · rename_i t x k ho
    exact D (pfield_sound ho (hs.opnd x) h)
  · rename_i t x i ho
    exact D (piaddr_sound ho (hs.opnd x) (hs.opnd i) h)
  · rename_i t x i ho
    exact D (pindex_sound ho (hs.opnd x) (hs.opnd i) h)
  · rename_i x k ho
    exact D (pextract_sound ho (hs.opnd x) h)
  · rename_i t x k ok ho
    exact D (pmlook_sound ho (hs.opnd x) (hs.opnd k) hob h)
  · rename_i t x k v ho
    exact S false (F h.1) (pmupd_sound hs ho h.2)
  · rename_i t r ho
    split at h
    · exact S q id (pmmake_sound hs ho h)
    · split at h
      · rename_i hx hF
        exact S q id (pmmake_hint hs ho hx hF h)
      · exact h.elim
  · rename_i c ho
    obtain ⟨callee, ⟨xs⟩, ⟨ts⟩⟩ := c
    simp only at h ho
    split at h
    · rename_i b
      unfold pbuiltin at h
      split at h
      · split at h
        · split at h
          · rename_i n e
            exact D (pmlen_sound ho (e ▸ hs.opnd _) hob h)
          · exact D (plen_sound (ty := 0) ho (hs.opnd _) h)
        · exact h.elim
      · split at h
        · exact S false (F h.1) (pmdel_sound hs ho h.2)
        · exact h.elim
      · split at h
        · split at h
          · rename_i kd n e
            exact S false (F h.1) (pgrow_sound (kd := kd) (n := n) hs ho (e ▸ hs.opnd _) h.2)
          · exact S false (F h.1) (pappend_sound hs ho h.2)
        · exact h.elim
      · split at h
        · exact D (pcap_sound ho (hs.opnd _) h)
        · exact h.elim
      · split at h
        · exact S false (F h.1) (pcopy_sound hs ho h.2)
        · exact h.elim
      · exact D (pmm_sound (mn := true) (xs := xs) ho hs.opnd h)
      · exact D (pmm_sound (mn := false) (xs := xs) ho hs.opnd h)
      · split at h
        · obtain ⟨r, hk, v, hr, hrun⟩ := pusd_sound ho (hs.opnd _) h
          exact S q id ⟨v, w, _, A, .inl hrun, hk, hs.put o.dst hr, fun _ => Keeps.refl w⟩
        · exact h.elim
      · split at h
        · exact S false (F h.1) (pust_sound hs ho h.2)
        · exact h.elim
      · exact h.elim
    · rename_i f
      split at h
      · rename_i fn caps hf
        obtain ⟨hc, h⟩ := h
        have hfv := hs.opnd f
        rw [hf] at hfv
        obtain ⟨g, hv, hg⟩ : ∃ g : Nat → Value, a.eval f = .func (.func fn) #[] ((List.range caps.length).map g).toArray ∧ ∀ (j : Nat) (u : PV), caps[j]? = some u → Rep w A u (g j) := by
          cases hq : a.eval f with
          | func fn' first cap =>
            rw [hq] at hfv
            cases hfv with
            | func fn caps g h2 => exact ⟨g, rfl, h2⟩
          | _ => rw [hq] at hfv; cases hfv
        have hrun : (execOp a.eval o).run P w = .ok (.enter fn (xs.toArray.map a.eval ++ ((List.range caps.length).map g).toArray)) w := by
          unfold execOp
          simp only [ho, resolve, Sem.run_bind, hv, Deferred.ofValue, Sem.run_pure, Result.andThen_ok, Array.empty_append, invoke, callable_run hc]
        unfold Oper.wp
        rw [hrun]
        have hcall := h E A a w (xs.toArray.map a.eval ++ ((List.range caps.length).map g).toArray) hs (by simp) (fun i p hp => by
          by_cases hi : i < xs.length
          · rw [List.getElem?_append_left (by simpa using hi)] at hp
            simp [hi] at hp
            subst hp
            exact ⟨a.eval xs[i], by rw [Array.getElem?_append_left (by simpa using hi)]; simp [hi], hs.opnd _⟩
          · rw [List.getElem?_append_right (by simp; omega)] at hp
            simp only [List.length_map] at hp
            have hlt : i - xs.length < caps.length := (List.getElem?_eq_some_iff.1 hp).1
            refine ⟨g (i - xs.length), ?_, hg _ p hp⟩
            rw [Array.getElem?_append_right (by simp; omega)]
            simp [hlt])
        refine Calls.mono hcall fun e w' he => ?_
        obtain ⟨v, σ', A', rfl, hk, hs', hq⟩ := he
        exact hn σ' A' _ _ hk hs' hq
      · exact h.elim
    · exact h.elim
  · exact h.elim
theorem yielded_of (hs : Sim G E A σ a w) {ops : Array Oper} {g : Nat} {s : Tmp} {b : Bool} (hd : ((ops.toList.map (·.dst))[g]?).join = some s) (hf : σ.frame.getD s .junk = .val (.bool b)) :
    yielded ops a.tmps g = some b ∧ ∃ x : Value, a.tmps[s]? = some x ∧ x = .bool b := by
  have hlt : s < σ.frame.length := by
    rcases Nat.lt_or_ge s σ.frame.length with h | h
    · exact h
    · rw [List.getD_eq_getElem?_getD, List.getElem?_eq_none h] at hf
      cases hf
  have hfr : σ.frame[s]? = some (.val (.bool b)) := by
    rw [List.getD_eq_getElem?_getD, List.getElem?_eq_getElem hlt] at hf
    rw [List.getElem?_eq_getElem hlt]
    simpa using hf
  obtain ⟨v, hv, hr⟩ := hs.frame s _ hfr
  have := hr.val_eq
  subst this
  refine ⟨?_, _, hv, rfl⟩
  have hds : (ops[g]?).bind (·.dst) = some s := by
    rw [List.getElem?_map] at hd
    cases hq : ops[g]? with
    | none => simp [hq] at hd
    | some o => simp [hq] at hd; simp [hd]
  simp [yielded, hds, hv]
theorem yielded_none (hs : Sim G E A σ a w) {ops : Array Oper} {g : Nat} {s : Tmp} {vs : Array Value} (hd : ((ops.toList.map (·.dst))[g]?).join = some s) (hf : σ.frame.getD s .junk = .val (.tuple vs)) :
    yielded ops a.tmps g = none := by
  have hlt : s < σ.frame.length := by
    rcases Nat.lt_or_ge s σ.frame.length with h | h
    · exact h
    · rw [List.getD_eq_getElem?_getD, List.getElem?_eq_none h] at hf
      cases hf
  have hfr : σ.frame[s]? = some (.val (.tuple vs)) := by
    rw [List.getD_eq_getElem?_getD, List.getElem?_eq_getElem hlt] at hf
    rw [List.getElem?_eq_getElem hlt]
    simpa using hf
  obtain ⟨v, hv, hr⟩ := hs.frame s _ hfr
  have := hr.val_eq
  subst this
  have hds : (ops[g]?).bind (·.dst) = some s := by
    rw [List.getElem?_map] at hd
    cases hq : ops[g]? with
    | none => simp [hq] at hd
    | some o => simp [hq] at hd; simp [hd]
  simp [yielded, hds, hv]
theorem put_same (hs : Sim G E A σ a w) {s : Tmp} {v : Value} (hv : a.tmps[s]? = some v) {p : PV} (hr : Rep w A p v) : Sim G E A (σ.put (some s) p) a w := by
  have := hs.put (some s) hr
  have e : a.put (some s) v = a := by
    obtain ⟨tmps, defers⟩ := a
    simp only [Act.put]
    congr 1
    apply Array.ext
    · simp
    · intro i h1 h2
      by_cases hi : s = i
      · subst hi
        have hv' : tmps[s]? = some v := hv
        rw [Array.getElem?_eq_getElem h2] at hv'
        cases hv'
        simp
      · rw [Array.getElem_setIfInBounds_ne h2 hi]
  rw [e] at this
  exact this
end
end Go.PM

namespace Go.PM
open Go.RowKit
section
variable {P : Program} {G : Globs} {E : Amb} {A : Nat → Prop} {σ : PState} {a : Act} {w : World} {o : Oper} {q : Bool}
/-- What a result variable holds. -/
def PRes (P : Program) (σ : PState) (rv : ResultVar) (p : PV) : Prop :=
  match rv with
  | .tmp t => p = σ.frame.getD t .junk
  | .cell x t => match tf P t, σ.frame.getD x .junk with
    | some F, .ptr n off => match look σ.heap n with
      | some o => pload F o.cells off (fun r => p = r)
      | none => False
    | _, _ => False
def presList (P : Program) (σ : PState) : List ResultVar → List PV → Prop
  | [], [] => True
  | r :: rs, p :: ps => PRes P σ r p ∧ presList P σ rs ps
  | _, _ => False
/-- What a function hands back. -/
def PResult (P : Program) (σ : PState) (rs : List ResultVar) (res : PV) : Prop :=
  match rs with
  | [r] => PRes P σ r res
  | rs => ∃ ps, presList P σ rs ps ∧ res = .tuple ps
def resSem (tmps : Array Value) (rv : ResultVar) : Sem Value :=
  match rv with
  | .tmp t => pure (tmps.getD t undef)
  | .cell x t => do loadVar t (← asAddr (tmps.getD x undef))
theorem results_eq (fn : Func) (tmps : Array Value) : results fn tmps = (do
    let vs ← fn.results.mapM (resSem tmps)
    pure (if h : vs.size = 1 then vs[0] else .tuple vs)) := by
  have : (fun rv : ResultVar => (match rv with
    | .tmp t => pure (tmps.getD t undef)
    | .cell a t => do loadVar t (← asAddr (tmps.getD a undef)) : Sem Value)) = resSem tmps := by
    funext rv
    cases rv <;> rfl
  rw [← this]
  rfl
theorem pres_run (hs : Sim G E A σ a w) {rv : ResultVar} {p : PV} (h : PRes P σ rv p) : ∃ v, Rep w A p v ∧
    Sem.run P (resSem a.tmps rv) w = .ok v w := by
  cases rv with
  | tmp t =>
    simp only [PRes] at h
    subst h
    exact ⟨_, hs.opnd (.tmp t), rfl⟩
  | cell x t =>
    simp only [PRes] at h
    split at h
    · rename_i F n off hF hx
      split at h
      · rename_i ob hl
        have hr := hs.opnd (.tmp x)
        simp only [opnd, hx] at hr
        obtain ⟨b, rfl, hv, xs, hsx⟩ := hr.ptr_inv
        obtain ⟨cur, fz, f, hh, _, _, hc⟩ := (hs.objs _ ob (look_mem hl)).block rfl hsx
        obtain ⟨r, hk, v, hrep, hrun⟩ := load_gives (P := P) (w := w) (A := A) (ρ := fun _ => .pointer (some (at_ b off))) (o := ⟨none, .load t (.tmp x), 0, "", #[], none⟩) (K := fun r => p = r) (b := b) (off0 := 0) (off := off) rfl hF (by simp) (cs := ob.cells) (f := f)
          (fun j u hu => by rw [cell_of_block hh, Nat.zero_add]; exact (hc j u hu).1) (fun j u hu => (hc j u hu).2.2) h
        subst hk
        refine ⟨v, hrep, ?_⟩
        have := hrun w (Keeps.refl w)
        unfold execOp at this
        simp only [Instr.loadAt, Instr.sureAddr, Sem.run_bind, Sem.run_pure, Result.andThen_ok] at this
        have hv' : a.tmps.getD x undef = .pointer (some (at_ b off)) := hv
        simp only [resSem, hv', asAddr, Sem.run_bind, Sem.run_pure, Result.andThen_ok]
        generalize Sem.run P (loadVar t (at_ b off)) w = r at this ⊢
        cases r with
        | ok v' w' => simp [Result.andThen] at this; obtain ⟨rfl, rfl⟩ := this; rfl
        | halt x w' => simp [Result.andThen] at this
      · exact h.elim
    · exact h.elim
theorem presList_run (hs : Sim G E A σ a w) : ∀ (rs : List ResultVar) (ps : List PV), presList P σ rs ps → ∃ vs : List Value, vs.length = ps.length ∧ rs.length = ps.length ∧
    (∀ (j : Nat) (u : PV), ps[j]? = some u → ∃ v, vs[j]? = some v ∧ Rep w A u v) ∧
    Sem.run P (rs.mapM (resSem a.tmps)) w = .ok vs w
  | [], [], _ => ⟨[], rfl, rfl, by simp, rfl⟩
  | r :: rs, p :: ps, h => by
    obtain ⟨v, hr, hrun⟩ := pres_run hs h.1
    obtain ⟨vs, h1, h2, h3, h4⟩ := presList_run hs rs ps h.2
    refine ⟨v :: vs, by simp [h1], by simp [h2], fun j u hu => ?_, ?_⟩
    · cases j with
      | zero => simp at hu; subst hu; exact ⟨v, rfl, hr⟩
      | succ j => simpa using h3 j u (by simpa using hu)
    · rw [List.mapM_cons]
      simp only [Sem.run_bind, hrun, Result.andThen_ok, h4, Sem.run_pure]
  | [], _ :: _, h => h.elim
  | _ :: _, [], h => h.elim
theorem results_sound (hs : Sim G E A σ a w) {fn : Func} {rs : List ResultVar} (hrs : fn.results = rs.toArray) {res : PV} (h : PResult P σ rs res) : ∃ v, Rep w A res v ∧ Sem.run P (results fn a.tmps) w = .ok v w := by
  have key : ∀ ps, presList P σ rs ps → ∃ vs : List Value, vs.length = ps.length ∧ (∀ (j : Nat) (u : PV), ps[j]? = some u → ∃ v, vs[j]? = some v ∧ Rep w A u v) ∧
      Sem.run P (results fn a.tmps) w = .ok (if vs.length = 1 then vs.getD 0 undef else .tuple vs.toArray) w := by
    intro ps hps
    obtain ⟨vs, h1, h2, h3, h4⟩ := presList_run hs rs ps hps
    refine ⟨vs, h1, h3, ?_⟩
    have hm : Sem.run P (fn.results.mapM (resSem a.tmps)) w = .ok vs.toArray w := by
      rw [hrs, Array.mapM_eq_mapM_toList]
      change Sem.run P ((rs.mapM _) >>= fun l => pure l.toArray) w = _
      rw [Sem.run_bind, h4]
      rfl
    rw [results_eq, Sem.run_bind, hm]
    simp only [Result.andThen_ok, List.size_toArray]
    by_cases hl : vs.length = 1
    · rw [dif_pos hl, if_pos hl]
      simp [List.getD_eq_getElem?_getD, hl]
    · rw [dif_neg hl, if_neg hl]
      rfl
  match rs, h, key with
  | [r], h, key =>
    obtain ⟨vs, h1, h3, h4⟩ := key [res] ⟨h, trivial⟩
    obtain ⟨v, hv, hr⟩ := h3 0 res rfl
    refine ⟨v, hr, ?_⟩
    rw [h4, if_pos (by simpa using h1)]
    simp [List.getD_eq_getElem?_getD, hv]
  | [], h, key =>
    simp only [PResult] at h
    obtain ⟨ps, hps, rfl⟩ := h
    obtain ⟨vs, h1, h3, h4⟩ := key ps hps
    have : ps = [] := by
      cases ps with
      | nil => rfl
      | cons p ps => exact hps.elim
    subst this
    have : vs = [] := List.eq_nil_of_length_eq_zero h1
    subst this
    exact ⟨.tuple #[], Rep.tuple [] (fun _ => undef) (by simp), by rw [h4]; rfl⟩
  | r :: r' :: rs, h, key =>
    simp only [PResult] at h
    obtain ⟨ps, hps, rfl⟩ := h
    obtain ⟨vs, h1, h3, h4⟩ := key ps hps
    have hl : 2 ≤ ps.length := by
      match ps, hps with
      | p :: p' :: ps, _ => simp
      | [p], hps => exact hps.2.elim
      | [], hps => exact hps.elim
    have hne : vs.length ≠ 1 := by omega
    refine ⟨.tuple vs.toArray, ?_, by rw [h4, if_neg hne]⟩
    have := Rep.tuple (w := w) (A := A) ps (fun j => vs.getD j undef) (fun j u hu => by
      obtain ⟨v, hv, hr⟩ := h3 j u hu
      rw [show vs.getD j undef = v by simp [List.getD_eq_getElem?_getD, hv]]
      exact hr)
    have e : (List.range ps.length).map (fun j => vs.getD j undef) = vs := by
      apply List.ext_getElem
      · simp [h1]
      · intro j h1 h2
        simp [List.getD_eq_getElem?_getD, List.getElem?_eq_getElem h2]
    rw [e] at this
    exact this
/-- Of a heap some objects are taken. -/
def Sub (H' H : Heap) : Prop := (∀ x ∈ H', x ∈ H) ∧ (names H').Nodup
/-- A function's body is left. -/
def Fin (P : Program) (rs : List ResultVar) (R : PV → Heap → Prop) (e : Exit) (σ : PState) : Prop :=
  (match e with | .normal | .ret => True | _ => False) ∧ ∃ res H, PResult P σ rs res ∧ Sub H σ.heap ∧ R res H
theorem Sim.sub (hs : Sim G E A σ a w) {H : Heap} (hH : Sub H σ.heap) : Sim G E A ⟨σ.frame, H⟩ a w :=
  ⟨hs.ext, hs.lt, hs.a0, hs.a1, hs.globs, hH.2, fun n o h => hs.objs n o (hH.1 _ h), fun n o h => hs.own n o (hH.1 _ h), fun n o h => hs.neg n o (hH.1 _ h), hs.defers, hs.size, hs.frame⟩
theorem Sim.bare (hs : Sim G E A σ a w) (hD : E.T.D = [] := by rfl) : Sim G E A ⟨[], σ.heap⟩ ⟨#[], []⟩ w :=
  ⟨hs.ext, hs.lt, hs.a0, hs.a1, hs.globs, hs.nodup, hs.objs, hs.own, hs.neg, hD.symm, rfl, fun i p h => by simp at h⟩
theorem PCalls_of_W {f : FuncId} {fn : Func} {c : Code} {n : Nat} {rs : List ResultVar} {args : List PV} {Hin : Heap} {R : PV → Heap → Prop} (hf : P.funcs[f]? = some fn) (hb : fn.body = some c) (hn : fn.ntmps = n) (hrs : fn.results = rs.toArray)
    (h : W P G (Hin.map (·.1)) c ⟨args ++ List.replicate (n - args.length) .junk, Hin⟩ (Fin P rs R)) : PCalls P G f args Hin R := by
  intro w A F vals hA hG hnd hobj hown hsz hvals
  refine calls_of_wp hf hb ?_
  have hs : Sim G ⟨w, A, Hin.map (·.1), F⟩ A ⟨args ++ List.replicate (n - args.length) .junk, Hin⟩ { tmps := vals ++ Array.replicate (fn.ntmps - vals.size) undef, defers := [] } w := by
    refine ⟨Ext.refl _ _, hA, fun _ h => h, fun _ h => .inl h, hG, hnd, hobj, fun m o h b hb => ?_, fun m o h _ => .inr (List.mem_map.2 ⟨_, h, rfl⟩), rfl, by simp [hsz, hn], fun i p hp => ?_⟩
    · obtain ⟨h1, h2⟩ := hown m o h b hb
      exact ⟨h1, h2, .inr (List.mem_map.2 ⟨_, h, hb⟩)⟩
    · by_cases hi : i < args.length
      · rw [List.getElem?_append_left hi] at hp
        obtain ⟨v, hv, hr⟩ := hvals i p hp
        refine ⟨v, ?_, hr⟩
        rw [Array.getElem?_append_left (by rw [hsz]; exact hi)]
        exact hv
      · rw [List.getElem?_append_right (by omega), List.getElem?_replicate] at hp
        split at hp
        · rename_i hlt
          cases hp
          refine ⟨undef, ?_, .junk _⟩
          rw [Array.getElem?_append_right (by rw [hsz]; omega), Array.getElem?_replicate, if_pos (by rw [hsz, hn]; exact hlt)]
        · cases hp
  refine h _ rfl A _ w hs _ ?_
  intro e σ' a' w' A' hfin hs'
  obtain ⟨he, res, H, hres, hH, hR⟩ := hfin
  obtain ⟨v, hr, hrun⟩ := results_sound (P := P) hs' hrs hres
  have post : Ending.returned v = .returned v ∧ _ := ⟨rfl, (hs'.sub hH).bare⟩
  cases e with
  | normal => exact ⟨hs'.defers, v, hrun, v, A', res, H, rfl, hR, hr, post.2⟩
  | ret => exact ⟨hs'.defers, v, hrun, v, A', res, H, rfl, hR, hr, post.2⟩
  | _ => exact he.elim
/-- what comes back from a call without objects of the caller's -/
theorem Sim.called {w' : World} {A1 A' : Nat → Prop} {Hout : Heap} {F : List Int} (hs : Sim G E A σ a w) (hF : ∀ n, n ∈ names σ.heap ∨ n ∈ E.F → n ∈ F) (hs' : Sim G ⟨w, A1, [], F⟩ A' ⟨[], Hout⟩ ⟨#[], []⟩ w')
    (hA : ∀ b, A b → A' b) (hA' : ∀ b, A' b → A b ∨ w.heap.size ≤ b) : (∀ n ∈ names Hout, n ∉ names σ.heap) ∧ Sim G E A' ⟨σ.frame, Hout ++ σ.heap⟩ a w' := by
  have he : Ext (fun _ => False) w w' := hs'.ext.mono (fun x hx => (List.not_mem_nil hx).elim)
  have hm : ∀ b, A b → ¬ False := fun _ _ h => h
  have hdis : ∀ n ∈ names Hout, n ∉ names σ.heap := by
    intro n hn hn'
    obtain ⟨⟨n1, o1⟩, h1, rfl⟩ := List.mem_map.1 hn
    obtain ⟨⟨n2, o2⟩, h2, e2⟩ := List.mem_map.1 hn'
    simp only at e2
    subst e2
    by_cases hneg : n2 < 0
    · rcases hs'.neg n2 o1 h1 hneg with h | h
      · exact h (hF _ (.inl hn'))
      · exact (List.not_mem_nil h).elim
    · obtain ⟨b, hb⟩ : ∃ b : Nat, n2 = b := ⟨n2.toNat, by omega⟩
      obtain ⟨q1, q2, q3⟩ := hs'.own n2 o1 h1 b hb
      have := (hs.own n2 o2 h2 b hb).1
      rcases q3 with h | h
      · simp only at h; omega
      · exact (List.not_mem_nil h).elim
  refine ⟨hdis, hs.ext.trans he (fun _ _ h => h.elim), hs'.lt, fun b hb => hA b (hs.a0 b hb), fun b hb => ?_, hs'.globs, ?_, fun n o h => ?_, fun n o h b hb => ?_, fun n o h hn => ?_, hs.defers, hs.size, fun i p hp => ?_⟩
  · rcases hA' b hb with h | h
    · exact hs.a1 b h
    · exact .inr (Nat.le_trans hs.ext.size h)
  · rw [List.map_append]
    exact List.nodup_append.2 ⟨hs'.nodup, hs.nodup, fun x hx y hy e => hdis x hx (e ▸ hy)⟩
  · rcases List.mem_append.1 h with h | h
    · exact hs'.objs n o h
    · exact (hs.objs n o h).ext he hA hm (fun _ _ h => h)
  · rcases List.mem_append.1 h with h | h
    · obtain ⟨q1, q2, q3⟩ := hs'.own n o h b hb
      refine ⟨q1, q2, .inl ?_⟩
      rcases q3 with h | h
      · exact Nat.le_trans hs.ext.size h
      · exact (List.not_mem_nil h).elim
    · obtain ⟨q1, q2, q3⟩ := hs.own n o h b hb
      refine ⟨Nat.lt_of_lt_of_le q1 he.size, fun hb' => ?_, q3⟩
      rcases hA' b hb' with h | h
      · exact q2 h
      · omega
  · rcases List.mem_append.1 h with h | h
    · rcases hs'.neg n o h hn with h | h
      · exact .inl fun h' => h (hF _ (.inr h'))
      · exact (List.not_mem_nil h).elim
    · exact hs.neg n o h hn
  · obtain ⟨v, hv, hr⟩ := hs.frame i p hp
    exact ⟨v, hv, hr.ext he hA hm⟩
theorem keeps_of_sim {w' : World} {A1 A' : Nat → Prop} {Hout : Heap} {F : List Int} (hs' : Sim G ⟨w, A1, [], F⟩ A' ⟨[], Hout⟩ ⟨#[], []⟩ w') : Keeps w w' :=
  fun b hb => hs'.ext.block b hb (fun h => (List.not_mem_nil h).elim)
/-- A call by contract: the arguments as they are. -/
theorem pcall_plain {fn : FuncId} {args : List PV} {R : PV → Heap → Prop} {d : Option Tmp} {K : PState → Prop} (hc : PCalls P G fn args [] R)
    (hk : ∀ res Hout, R res Hout → (∀ n ∈ names Hout, n ∉ names σ.heap) → K (PState.put ⟨σ.frame, Hout ++ σ.heap⟩ d res)) : pcall q P G σ d fn args K := by
  intro E A a w vals hs hsz hvals
  refine (hc w A (names σ.heap ++ E.F) vals hs.lt hs.globs (by simp) (by simp) (by simp) hsz hvals).mono ?_
  rintro e w' ⟨v, A', res, Hout, rfl, hR, hr, hs'⟩
  obtain ⟨hdis, hsim⟩ := hs.called (fun n h => List.mem_append.2 h) hs' hs'.a0 hs'.a1
  exact ⟨v, _, A', rfl, hk res Hout hR hdis, hsim.put d hr, fun _ => keeps_of_sim hs'⟩
/-- nothing in it lies in memory that nobody turns -/
inductive Flat : PV → Prop
  | val (v : Value) : Flat (.val v)
  | agg (cs : List PV) (h : ∀ c ∈ cs, Flat c) : Flat (.agg cs)
  | tuple (cs : List PV) (h : ∀ c ∈ cs, Flat c) : Flat (.tuple cs)
  | row (n : Int) (es len : Nat) : Flat (.row n es len)
  | ptr (n : Int) (off : Nat) : Flat (.ptr n off)
  | junk : Flat .junk
theorem Flat.rep {p : PV} (h : Flat p) : ∀ {v : Value} {A' : Nat → Prop}, Rep w A p v → Rep w A' p v := by
  induction h with
  | val u => intro v A' hr; rw [hr.val_eq]; exact .val u
  | agg cs h ih =>
    intro v A' hr
    obtain ⟨f, rfl, h2⟩ := hr.agg_inv
    exact .agg cs f fun j u hu => ih u (List.mem_of_getElem? hu) (h2 j u hu)
  | tuple cs h ih =>
    intro v A' hr
    obtain ⟨f, rfl, h2⟩ := hr.tuple_inv
    exact .tuple cs f fun j u hu => ih u (List.mem_of_getElem? hu) (h2 j u hu)
  | row n es len =>
    intro v A' hr
    cases hr with
    | rownil n es hn => exact .rownil n es hn
    | row b es len c N t hs hN hl hm => exact .row b es len c N t hs hN hl hm
  | ptr n off =>
    intro v A' hr
    cases hr with | ptr b off x hs => exact .ptr b off x hs
  | junk => intro v A' _; exact .junk v
end
end Go.PM

namespace Go.PM
open Go.RowKit
/-- The second frame forgets. -/
def wkF : List PV → List PV → Prop
  | [], [] => True
  | p :: r, p' :: r' => (p' = .junk ∨ p' = p) ∧ wkF r r'
  | _, _ => False
def Wk (σ τ : PState) : Prop := wkF σ.frame τ.frame ∧ Sub τ.heap σ.heap
theorem wkF_get : ∀ (l l' : List PV), wkF l l' → l.length = l'.length ∧ ∀ (i : Nat) (p : PV), l'[i]? = some p → p = .junk ∨ l[i]? = some p
  | [], [], _ => ⟨rfl, by simp⟩
  | p :: r, p' :: r', h => by
    obtain ⟨h1, h2⟩ := wkF_get r r' h.2
    refine ⟨by simp [h1], fun i q hq => ?_⟩
    cases i with
    | zero =>
      simp at hq
      subst hq
      rcases h.1 with e | e
      · exact .inl e
      · exact .inr (by simp [e])
    | succ i => simpa using h2 i q (by simpa using hq)
  | [], _ :: _, h => h.elim
  | _ :: _, [], h => h.elim
section
variable {P : Program} {G : Globs} {E : Amb} {A : Nat → Prop} {σ τ : PState} {a : Act} {w : World} {c x y : Code} {K : Exit → PState → Prop} {I : List Int}
theorem Sim.wk (hs : Sim G E A σ a w) (h : Wk σ τ) : Sim G E A τ a w := by
  obtain ⟨h1, h2⟩ := wkF_get _ _ h.1
  have h3 := hs.sub h.2
  refine ⟨h3.ext, h3.lt, h3.a0, h3.a1, h3.globs, h3.nodup, h3.objs, h3.own, h3.neg, h3.defers, by rw [hs.size, h1], fun i p hp => ?_⟩
  rcases h2 i p hp with rfl | h
  · have hi : i < τ.frame.length := (List.getElem?_eq_some_iff.1 hp).1
    have : i < a.tmps.size := by rw [hs.size, h1]; exact hi
    exact ⟨a.tmps[i], by simp [this], .junk _⟩
  · exact hs.frame i p h
theorem W_wk (h : Wk σ τ) (hw : W P G I c τ K) : W P G I c σ K := fun E hE A a w hs Q hq => hw E hE A a w (hs.wk h) Q hq
theorem W_loopW (R : Nat → PState → Prop) (n0 : Nat) (τ0 : PState) (hw : Wk σ τ0) (h0 : R n0 τ0)
    (round : ∀ n τ, R n τ → W P G I c τ (seqK (fun σ'' => ∃ n' τ', n' < n ∧ Wk σ'' τ' ∧ R n' τ') K)) : W P G I (.loop c) σ K := by
  refine W_wk hw (W_loop R n0 h0 fun n σ' hI => ?_)
  intro E hE A a w hs Q hq
  refine round n σ' hI E hE A a w hs Q fun e σ'' a' w' A' hk hs' => ?_
  cases e with
  | normal =>
    obtain ⟨n', τ', hlt, hwk, hI'⟩ := hk
    exact hq .normal τ' a' w' A' ⟨n', hlt, hI'⟩ (hs'.wk hwk)
  | _ => exact hq _ _ _ _ _ hk hs'
theorem W_adopt (i : Nat) (e : TypeId) (es : Nat) (hi : σ.frame[i]? = some pnil) (h : ∀ n : Int, n ∉ names σ.heap → W P G I c ⟨σ.frame.set i (.row n es 0), (n, ⟨e, true, es, []⟩) :: σ.heap⟩ K) : W P G I c σ K := by
  intro E hE A a w hs Q hq
  obtain ⟨n, hneg, hnot, hs0⟩ := hs.adopt e es
  refine h n hnot E hE A a w ?_ Q hq
  obtain ⟨v, hv, hr⟩ := hs.frame i _ hi
  have := put_same (σ := ⟨σ.frame, (n, ⟨e, true, es, []⟩) :: σ.heap⟩) hs0 hv (p := .row n es 0) (by rw [hr.val_eq]; exact .rownil n es hneg)
  exact this
def frz1 (n : Int) (cells : List PV) : PV → PV
  | .row m es len => if m = n then (if len * es ≤ cells.length ∧ 0 < es then .list es (elemsOf es cells len) else .junk) else .row m es len
  | .sub m es off len => if m = n then (if off + len * es ≤ cells.length ∧ 0 < es then .list es (elemsOf es (cells.drop off) len) else .junk) else .sub m es off len
  | .ptr m off => if m = n then .iptr cells off else .ptr m off
  | p => p
def frz (n : Int) (cells : List PV) : PV → PV
  | .agg cs => .agg (cs.map (frz1 n cells))
  | .tuple cs => .tuple (cs.map (frz1 n cells))
  | .func f cs => .func f (cs.map (frz1 n cells))
  | p => frz1 n cells p
/-- the frozen object's readings -/
theorem frz1_rep {n : Int} {o : PObj} {A' : Nat → Prop} (hA : ∀ b, A b → A' b) (hn : ∀ b : Nat, n = b → A' b) (ho : ObjRep w A n o) {p : PV} {v : Value} (h : Rep w A p v) : Rep w A' (frz1 n o.cells p) v := by
  have hmono : ∀ {p : PV} {v : Value}, Rep w A p v → Rep w A' p v := fun h => h.mono hA (fun _ _ _ _ h => h) (fun _ _ h => h)
  have hobj : ∀ (b : Nat) (x : TypeId × Nat), n = b → w.shape? b = some x → ∃ f : Nat → Value, ∀ (j : Nat) (u : PV), o.cells[j]? = some u → w.cell? (at_ b j) = some (f j) ∧ u.one = true ∧ Rep w A' u (f j) := by
    intro b x hb hsx
    obtain ⟨cur, fz, f, hh, _, _, hc⟩ := ho.block hb hsx
    exact ⟨f, fun j u hu => ⟨by rw [cell_of_block hh]; exact (hc j u hu).1, (hc j u hu).2.1, hmono (hc j u hu).2.2⟩⟩
  unfold frz1
  split
  · rename_i m es len
    split
    · rename_i hm
      subst hm
      split
      · rename_i hc
        rcases h.row_inv with ⟨hneg, rfl, rfl⟩ | ⟨b, c, N, t', hb, rfl, hsx, _, hl, _⟩
        · have : elemsOf es o.cells 0 = [] := by unfold elemsOf; split <;> simp
          rw [this]
          exact .nil _ _ _
        · obtain ⟨f, hf⟩ := hobj b _ hb hsx
          have := frz_list (w := w) (off := 0) (len := len) (es := es) (hn b hb) hc.2 (by omega) hf hl
          simpa using this
      · exact .junk _
    · exact hmono h
  · rename_i m es off len
    split
    · rename_i hm
      subst hm
      split
      · rename_i hc
        rcases h.sub_inv with ⟨rfl, a', c, rfl⟩ | ⟨b, c, hb, rfl, hl, xs, hsx⟩
        · have : elemsOf es (o.cells.drop off) 0 = [] := by unfold elemsOf; split <;> simp
          rw [this]
          exact .nil _ _ _
        · obtain ⟨f, hf⟩ := hobj b _ hb hsx
          exact frz_list (w := w) (off := off) (len := len) (es := es) (hn b hb) hc.2 hc.1 hf hl
      · exact .junk _
    · exact hmono h
  · rename_i m off
    split
    · rename_i hm
      subst hm
      obtain ⟨b, hb, rfl, xs, hsx⟩ := h.ptr_inv
      obtain ⟨f, hf⟩ := hobj b _ hb hsx
      have := Rep.iptr (w := w) (A := A') o.cells b 0 off f (hn b hb) (fun j u hu => by rw [Nat.zero_add]; exact (hf j u hu).1) (fun j u hu => (hf j u hu).2.2)
      simpa using this
    · exact hmono h
  · exact hmono h
theorem frz_rep {n : Int} {o : PObj} {A' : Nat → Prop} (hA : ∀ b, A b → A' b) (hn : ∀ b : Nat, n = b → A' b) (ho : ObjRep w A n o) {p : PV} {v : Value} (h : Rep w A p v) : Rep w A' (frz n o.cells p) v := by
  have hget : ∀ (cs : List PV) (f : Nat → Value), (∀ (j : Nat) (u : PV), cs[j]? = some u → Rep w A u (f j)) → ∀ (j : Nat) (u : PV), (cs.map (frz1 n o.cells))[j]? = some u → Rep w A' u (f j) := by
    intro cs f hf j u hu
    rw [List.getElem?_map] at hu
    cases hj : cs[j]? with
    | none => rw [hj] at hu; cases hu
    | some q =>
      rw [hj] at hu
      cases hu
      exact frz1_rep hA hn ho (hf j q hj)
  unfold frz
  split
  · obtain ⟨f, rfl, hf⟩ := h.agg_inv
    have := Rep.agg (w := w) (A := A') _ f (hget _ f hf)
    simpa using this
  · obtain ⟨f, rfl, hf⟩ := h.tuple_inv
    have := Rep.tuple (w := w) (A := A') _ f (hget _ f hf)
    simpa using this
  · rename_i fn cs
    cases h with
    | func fn caps f hf =>
      have := Rep.func (w := w) (A := A') fn _ f (hget _ f hf)
      simpa using this
  · exact frz1_rep hA hn ho h
end
end Go.PM

namespace Go.PM
open Go.RowKit
theorem W_seq_k {P : Program} {G : Globs} {x y : Code} {σ : PState} {K : Exit → PState → Prop} {I : List Int} (h : ∀ next : PState → Prop, (∀ σ', W P G I y σ' K → next σ') → W P G I x σ (seqK next K)) : W P G I (.seq x y) σ K :=
  W_seq (h _ fun _ h => h)
theorem wr64 (x : Int) (h1 : -9223372036854775808 ≤ x) (h2 : x ≤ 9223372036854775807) : IntKind.i64.wrap x = x := IntWalk.i64_in x ⟨h1, h2⟩
theorem toNat_sub1 (k : Nat) : ((k : Int) - 1).toNat = k - 1 := by omega
theorem toNat_add1 (k : Nat) : ((k : Int) + 1).toNat = k + 1 := by omega
/-- the end of a function -/
theorem Fin_ret {P : Program} {rs : List ResultVar} {R : PV → Heap → Prop} {σ : PState} {res : PV} {H : Heap} (h1 : PResult P σ rs res) (h2 : Sub H σ.heap) (h3 : R res H) : Fin P rs R .ret σ := ⟨trivial, res, H, h1, h2, h3⟩
theorem Sub_nil (H : Heap) : Sub [] H := ⟨by simp, by simp [names]⟩
theorem Sub_refl {H : Heap} (h : (names H).Nodup) : Sub H H := ⟨fun _ h => h, h⟩
end Go.PM

namespace Go.PM
open Go.RowKit
/-- An operation that hands back a value and leaves the world as it is. -/
def isD (P : Program) : Op → Bool
  | .move _ | .assign _ | .pick _ _ _ | .build _ _ | .load _ _ | .nilCheck _ | .binOp _ _ _ _ _ | .unOp _ _ _ | .sliceToArrayPointer _ _ | .makeFunc _ _ _ | .slice _ _ _ _ _
  | .fieldAddr _ _ _ | .field _ _ _ | .indexAddr _ _ _ | .index _ _ _ | .extract _ _ | .lookup _ _ _ _ => true
  | .convert s d _ => match tf P s, tf P d with
    | some ⟨.string, _, _, _, _⟩, some ⟨.slice _ _ _, _, _, _, _⟩ => false
    | some ⟨.slice _ _ _, _, _, _, _⟩, some ⟨.slice _ _ _, _, _, _, _⟩ => false
    | _, _ => true
  | .call c => match c.callee with
    | .builtin .len | .builtin .min | .builtin .max => true
    | _ => false
  | _ => false
/-- An operation that does not look at the world. -/
def isM : Op → Bool
  | .move _ | .assign _ | .binOp .add _ _ _ _ | .binOp .sub _ _ _ _ | .binOp .mul _ _ _ _ => true
  | _ => false
section
variable {P : Program} {G : Globs} {E : Amb} {A : Nat → Prop} {σ : PState} {a : Act} {w : World} {o : Oper} {K : PState → Prop} {q : Bool}
theorem pop_gives (hs : Sim G E A σ a w) (hd : isD P o.op = true) (h : pop q P G o σ K) : ∃ r, K (σ.put o.dst r) ∧ Gives P w A a.eval o r := by
  have hob : ∀ n o, look σ.heap n = some o → ObjRep w A n o := fun n o h => hs.objs n o (look_mem h)
  unfold pop at h
  split at h
  · rename_i x ho
    exact ⟨_, h, _, hs.opnd x, fun w' _ => by unfold execOp; simp [ho]⟩
  · rename_i x ho
    exact ⟨_, h, _, hs.opnd x, fun w' _ => by unfold execOp; simp [ho]⟩
  · rename_i c x y ho
    exact ppick_sound ho (hs.opnd c) (hs.opnd x) (hs.opnd y) h
  · rename_i t ho
    rw [ho] at hd; cases hd
  · rename_i t x ho
    rw [ho] at hd; cases hd
  · rename_i t ps ho
    exact pbuild_sound (parts := ps.toList) (by simpa using ho) hs.opnd h
  · rename_i t n ps ho
    rw [ho] at hd; cases hd
  · rename_i t x ho
    exact pldop_sound ho (hs.opnd x) hob h
  · rename_i t x y ho
    rw [ho] at hd; cases hd
  · rename_i x ho
    exact gives_nil ho hs h
  · rename_i op t x y u ho
    split at h
    · split at h
      · exact pnile_sound (neg := false) ho (hs.opnd x) (hs.opnd y) h
      · exact pnile_sound (neg := true) ho (hs.opnd x) (hs.opnd y) h
      · exact h.elim
    · split at h
      · exact pnile_sound (neg := false) ho (hs.opnd x) (hs.opnd y) h
      · exact pnile_sound (neg := true) ho (hs.opnd x) (hs.opnd y) h
      · exact h.elim
    · split at h
      · exact pnile_sound (neg := false) ho (hs.opnd x) (hs.opnd y) h
      · exact pnile_sound (neg := true) ho (hs.opnd x) (hs.opnd y) h
      · exact h.elim
    split at h
    · exact pageq_sound (neg := false) ho (hs.opnd x) (hs.opnd y) h
    · exact pageq_sound (neg := true) ho (hs.opnd x) (hs.opnd y) h
    · exact pageq_sound (neg := false) ho (hs.opnd x) (hs.opnd y) h
    · exact pageq_sound (neg := true) ho (hs.opnd x) (hs.opnd y) h
    · exact pbin_sound ho (hs.opnd x) (hs.opnd y) h
  · rename_i op t x ho
    exact pun_sound ho (hs.opnd x) h
  · rename_i s d x ho
    split at h
    · rename_i h1 h2
      rw [ho] at hd
      simp [isD, h1, h2] at hd
    · rename_i h1 h2
      rw [ho] at hd
      simp [isD, h1, h2] at hd
    · exact pconv_sound ho (hs.opnd x) hob h
  · rename_i t x ho
    exact parr_sound ho (hs.opnd x) h
  · rename_i fn first cs ho
    split at h
    · rename_i f hfirst
      have e1 : first = #[] := by simpa using hfirst
      subst e1
      exact pfunc_sound (cs := cs.toList) (by simpa using ho) hs.opnd h
    · exact h.elim
  · rename_i t l c ho
    rw [ho] at hd; cases hd
  · rename_i t x lo hi mx ho
    exact pslice_sound ho hs.opnd h
  · rename_i t x k ho
    exact pfaddr_sound ho (hs.opnd x) h
  · rename_i t x k ho
    exact pfield_sound ho (hs.opnd x) h
  · rename_i t x i ho
    exact piaddr_sound ho (hs.opnd x) (hs.opnd i) h
  · rename_i t x i ho
    exact pindex_sound ho (hs.opnd x) (hs.opnd i) h
  · rename_i x k ho
    exact pextract_sound ho (hs.opnd x) h
  · rename_i t x k ok ho
    exact pmlook_sound ho (hs.opnd x) (hs.opnd k) hob h
  · rename_i t x k v ho
    rw [ho] at hd; cases hd
  · rename_i t r ho
    rw [ho] at hd; cases hd
  · rename_i c ho
    obtain ⟨callee, ⟨xs⟩, ⟨ts⟩⟩ := c
    simp only at h ho
    rw [ho] at hd
    split at h
    · rename_i b
      unfold pbuiltin at h
      split at h
      · split at h
        · split at h
          · rename_i n e
            exact pmlen_sound ho (e ▸ hs.opnd _) hob h
          · exact plen_sound (ty := 0) ho (hs.opnd _) h
        · exact h.elim
      · cases hd
      · cases hd
      · cases hd
      · cases hd
      · exact pmm_sound (mn := true) (xs := xs) ho hs.opnd h
      · exact pmm_sound (mn := false) (xs := xs) ho hs.opnd h
      · cases hd
      · cases hd
      · exact h.elim
    · cases hd
    · exact h.elim
  · exact h.elim
theorem run_any {op : BinOp} {t u : TypeId} {x y : Operand} {ρ : Operand → Value} {r : Next} (hop : op = .add ∨ op = .sub ∨ op = .mul) (ho : o.op = .binOp op t x y u)
    (hv : (∃ k a k' b, ρ x = .int k a ∧ ρ y = .int k' b) ∨ ∃ s s', ρ x = .string s ∧ ρ y = .string s') (h : (execOp ρ o).run P w = .ok r w) (w' : World) : (execOp ρ o).run P w' = .ok r w' := by
  have g0 : ∀ (w' : World) (a b : Value), Sem.run P (eqGuard op t x y a b) w' = .ok () w' := by
    intro w' a b
    rcases hop with rfl | rfl | rfl <;> rfl
  unfold execOp at h ⊢
  rcases hv with ⟨k, a, k', b, e1, e2⟩ | ⟨s, s', e1, e2⟩
  · simp only [ho, e1, e2, Sem.run_bind, g0] at h ⊢
    by_cases hk : k = k'
    · subst hk
      rcases hop with rfl | rfl | rfl
      all_goals
        simp [binOp, Op.intArith] at h ⊢
        exact h
    · rcases hop with rfl | rfl | rfl
      all_goals
        simp [binOp, hk] at h
  · simp only [ho, e1, e2, Sem.run_bind, g0] at h ⊢
    rcases hop with rfl | rfl | rfl
    · simp [binOp, Op.stringOp] at h ⊢
      split at h
      · cases h
      · rename_i hl
        rw [if_neg hl]
        injection h with h
        rw [h]
    · simp [binOp, Op.stringOp] at h
    · simp [binOp, Op.stringOp] at h
theorem pop_givesM (hs : Sim G E A σ a w) (hm : isM o.op = true) (h : pop q P G o σ K) : ∃ r, K (σ.put o.dst r) ∧ ∃ v, Rep w A r v ∧ ∀ w', (execOp a.eval o).run P w' = .ok (.value v) w' := by
  have bin : ∀ {op : BinOp} {t u : TypeId} {x y : Operand}, (op = .add ∨ op = .sub ∨ op = .mul) → o.op = .binOp op t x y u → pbin op (opnd G σ.frame x) (opnd G σ.frame y) (fun r => K (σ.put o.dst r)) →
      ∃ r, K (σ.put o.dst r) ∧ ∃ v, Rep w A r v ∧ ∀ w', (execOp a.eval o).run P w' = .ok (.value v) w' := by
    intro op t u x y hop ho hp
    obtain ⟨r, hk, v, hr, hrun⟩ := pbin_sound ho (hs.opnd x) (hs.opnd y) hp
    refine ⟨r, hk, v, hr, run_any hop ho ?_ (hrun w (Keeps.refl w))⟩
    have hx := hs.opnd x
    have hy := hs.opnd y
    unfold pbin at hp
    split at hp
    · rename_i k a' k' b e1 e2
      rw [e1] at hx
      rw [e2] at hy
      exact .inl ⟨k, a', k', b, hx.val_eq, hy.val_eq⟩
    · rename_i s s' e1 e2
      rw [e1] at hx
      rw [e2] at hy
      exact .inr ⟨s, s', hx.val_eq, hy.val_eq⟩
    · exact hp.elim
  have hop : (∃ x, o.op = .move x ∨ o.op = .assign x) ∨ ∃ op t x y u, (op = .add ∨ op = .sub ∨ op = .mul) ∧ o.op = .binOp op t x y u := by
    cases hop : o.op <;> rw [hop] at hm <;> first | (cases hm; done) | exact .inl ⟨_, .inl rfl⟩ | exact .inl ⟨_, .inr rfl⟩ | skip
    rename_i op t x y u
    refine .inr ⟨op, t, x, y, u, ?_, rfl⟩
    cases op <;> first | (cases hm; done) | simp
  rcases hop with ⟨x, hx⟩ | ⟨op, t, x, y, u, hop, ho⟩
  · have key : ∀ w', (execOp a.eval o).run P w' = .ok (.value (a.eval x)) w' := by
      intro w'
      unfold execOp
      rcases hx with hx | hx <;> rw [hx] <;> rfl
    have hk : K (σ.put o.dst (opnd G σ.frame x)) := by
      unfold pop at h
      rcases hx with hx | hx <;> rw [hx] at h <;> exact h
    exact ⟨_, hk, _, hs.opnd x, key⟩
  · refine bin hop ho ?_
    unfold pop at h
    rw [ho] at h
    simp only at h
    rcases hop with rfl | rfl | rfl
    all_goals
      repeat' first
        | exact h
        | exact h.elim
        | contradiction
        | split at h
end
section
variable {P : Program} {ops : Array Oper} {Q : Exit → Act → World → Prop} {md : Region.Mode}
theorem Keeps.trans {a b c : World} (h : Keeps a b) (k : Keeps b c) : Keeps a c := by
  intro x hx
  have h1 := h x hx
  have hlt : x < b.heap.size := by
    rw [Array.getElem?_eq_getElem hx] at h1
    exact (Array.getElem?_eq_some_iff.1 h1).1
  rw [k x hlt, h1]
/-- Does j come ahead of i? (f: how many steps are looked at) -/
def before (md : Region.Mode) (ops : Array Oper) : Nat → Nat → Nat → Bool
  | 0, _, _ => false
  | f + 1, j, i => match ops[i]? with
    | none => false
    | some o => (o.after.any fun e => Region.binds md e && e.on == j) || o.after.any fun e => Region.binds md e && before md ops f j e.on
def tailOk (md : Region.Mode) (ops : Array Oper) (f : Nat) (listed : Array Bool) (i : Nat) : Bool :=
  (List.range ops.size).all fun j => !(listed.getD j false) || (match ops[j]? with | some o => isM o.op | none => true) || before md ops f j i
def Closed (md : Region.Mode) (ops : Array Oper) (listed : Array Bool) : Prop :=
  ∀ j o, listed.getD j false = true → ops[j]? = some o → ∀ e ∈ o.after, Region.binds md e = true → listed.getD e.on false = true
theorem before_listed {listed : Array Bool} (hc : Closed md ops listed) {i : Nat} : ∀ (f j : Nat) (o : Oper), ops[j]? = some o → (∀ e ∈ o.after, Region.binds md e = true → listed.getD e.on false = true) →
    before md ops f i j = true → listed.getD i false = true
  | 0, _, _, _, _, h => by simp [before] at h
  | f + 1, j, o, ho, hall, h => by
    simp only [before, ho, Bool.or_eq_true] at h
    rcases h with h | h
    · obtain ⟨e, he, hb⟩ := Array.any_eq_true'.1 h
      simp only [Bool.and_eq_true, beq_iff_eq] at hb
      exact hb.2 ▸ hall e he hb.1
    · obtain ⟨e, he, hb⟩ := Array.any_eq_true'.1 h
      simp only [Bool.and_eq_true] at hb
      have hl := hall e he hb.1
      cases hq : ops[e.on]? with
      | none =>
        have h2 := hb.2
        cases f with
        | zero => simp [before] at h2
        | succ f => simp [before, hq] at h2
      | some o' => exact before_listed hc f e.on o' hq (hc e.on o' hl hq) hb.2
/-- All orders, with what each step leaves as it was. -/
def wpAnyK (P : Program) (md : Region.Mode) (ops : Array Oper) (f : Nat) (Q : Exit → Act → World → Prop) : Nat → Array Bool → Array Bool → Act → World → Prop
  | 0, listed, _, a, w => Region.ready md ops listed = [] ∧ Q .normal a w
  | fuel + 1, listed, loose, a, w =>
    (Region.ready md ops listed = [] → Q .normal a w) ∧
    ∀ i ∈ Region.ready md ops listed, wpOp P ops Q i (fun a' w' => (tailOk md ops f loose i = false → Keeps w w') ∧ wpAnyK P md ops f Q fuel (listed.setIfInBounds i true) loose a' w') a w
theorem wpAnyK_any {f : Nat} : ∀ (fuel : Nat) (listed loose : Array Bool) (a : Act) (w : World), wpAnyK P md ops f Q fuel listed loose a w → wpAny P md ops Q fuel listed a w
  | 0, _, _, _, _, h => h
  | fuel + 1, listed, _, a, w, h => ⟨h.1, fun i hi => wpOp_mono (fun a' w' h' => wpAnyK_any fuel _ _ a' w' h'.2) (h.2 i hi)⟩
theorem tailOk_less {f i j : Nat} {loose : Array Bool} (ht : tailOk md ops f loose j = false) : tailOk md ops f (loose.setIfInBounds i true) j = false := by
  cases ht2 : tailOk md ops f (loose.setIfInBounds i true) j with
  | false => rfl
  | true =>
    exfalso
    rw [show tailOk md ops f loose j = true from ?_] at ht
    · cases ht
    · refine List.all_eq_true.2 fun k hk => ?_
      have := List.all_eq_true.1 ht2 k hk
      cases hlk : loose.getD k false with
      | false => simp
      | true =>
        rw [getD_set_true hlk] at this
        simpa using this
theorem wpAnyK_less {f i : Nat} : ∀ (fuel : Nat) (listed loose : Array Bool) (a : Act) (w : World), wpAnyK P md ops f Q fuel listed (loose.setIfInBounds i true) a w → wpAnyK P md ops f Q fuel listed loose a w
  | 0, _, _, _, _, h => h
  | fuel + 1, listed, loose, a, w, h => ⟨h.1, fun j hj => wpOp_mono (fun a' w' h' => ⟨fun ht => h'.1 (tailOk_less ht), wpAnyK_less fuel _ _ a' w' h'.2⟩) (h.2 j hj)⟩
def YieldsC (P : Program) (ops : Array Oper) (o : Oper) (v : Value) (a : Act) (w : World) : Prop :=
  (Region.wanted o (yielded ops a.tmps) = true ∧ ∀ w', (isM o.op = false → Keeps w w') → (execOp a.eval o).run P w' = .ok (.value v) w') ∨
  (Region.wanted o (yielded ops a.tmps) = false ∧ v = undef)
theorem YieldsC.wpOp {i : Nat} {o : Oper} {v : Value} {a : Act} {w : World} (hi : ops[i]? = some o) (hy : YieldsC P ops o v a w)
    {K : Act → World → Prop} (h : K (a.put o.dst v) w) : wpOp P ops Q i K a w := by
  unfold Go.wpOp
  simp only [hi]
  rcases hy with ⟨hw, hv⟩ | ⟨hw, rfl⟩
  · simp only [hw, if_true, Oper.wp, hv w (fun _ => Keeps.refl w), Oper.upon]; exact .inl h
  · simp only [hw, Bool.false_eq_true, if_false]; exact h
theorem YieldsC.of_same {o : Oper} {v : Value} {a a' : Act} {w w' : World} (hy : YieldsC P ops o v a w) (he : execOp a'.eval o = execOp a.eval o)
    (hw : Region.wanted o (yielded ops a'.tmps) = Region.wanted o (yielded ops a.tmps)) (hk : isM o.op = false → Keeps w w') : YieldsC P ops o v a' w' := by
  unfold YieldsC at *
  rw [he, hw]
  rcases hy with ⟨h1, h2⟩ | h
  · exact .inl ⟨h1, fun w'' hk'' => h2 w'' fun hm => (hk hm).trans (hk'' hm)⟩
  · exact .inr h
theorem wpOp_putC {j : Nat} {oi oj : Oper} {v : Value} (hj : ops[j]? = some oj) (hap : oi.apart ops oj = true)
    (hsi : ∀ cs b, oi.op ≠ .select cs b) (hsj : ∀ cs b, oj.op ≠ .select cs b)
    (hQ : ∀ c a w, Q (.panic c) (a.put oi.dst v) w → Q (.panic c) a w) {K : Act → World → Prop} {a : Act} {w : World}
    (hy : YieldsC P ops oi v a w) (h : wpOp P ops Q j (fun a' w' => (isM oi.op = false → Keeps w w') ∧ K a' w') (a.put oi.dst v) w) :
    wpOp P ops Q j (fun a' w' => YieldsC P ops oi v a' w' ∧ (isM oi.op = false → Keeps w w') ∧ K (a'.put oi.dst v) w') a w := by
  obtain ⟨h1, h2, h3⟩ := Oper.apart_spec hap
  have keep : ∀ (a : Act) (w w' : World), YieldsC P ops oi v a w → (isM oi.op = false → Keeps w w') → ∀ u, YieldsC P ops oi v (a.put oj.dst u) w' := fun a w w' hy hk u =>
    hy.of_same (execOp_put oi hsi a oj.dst u h3) (wanted_put oi a oj.dst u h3) hk
  have keepD : ∀ d, YieldsC P ops oi v { a with defers := d :: a.defers } w := fun d => hy.of_same rfl rfl (fun _ => Keeps.refl w)
  unfold wpOp at *
  simp only [hj] at *
  rw [wanted_put oj a oi.dst v h1] at h
  split
  · rename_i hw
    simp only [hw, if_true] at h
    rcases h with h | ⟨hasks, hlets⟩
    case inr => exact .inr ⟨by unfold Oper.asks at *; rw [execOp_put oj hsj a oi.dst v h1] at hasks; exact hasks, hlets⟩
    refine .inl ?_
    unfold Oper.wp at *
    rw [execOp_put oj hsj a oi.dst v h1] at h
    generalize (execOp a.eval oj).run P w = r at *
    cases r with
    | ok n w' =>
      cases n <;> simp only [Oper.upon] at h ⊢
      case value u => exact ⟨keep a w w' hy h.1 u, h.1, by rw [← Act.put_comm a v u h2]; exact h.2⟩
      case skip => exact ⟨keep a w w' hy h.1 _, h.1, by rw [← Act.put_comm a v undef h2]; exact h.2⟩
      case defer d =>
        refine ⟨keep _ w w' (keepD d) h.1 _, h.1, ?_⟩
        rw [← Act.put_comm _ v undef h2, ← Act.put_defers]
        exact h.2
      case enter f args =>
        refine Calls.mono h fun e w'' he => ?_
        cases e with
        | returned u => exact ⟨keep a w w'' hy he.1 u, he.1, by rw [← Act.put_comm a v u h2]; exact he.2⟩
        | panicked c => exact hQ _ _ _ he
        | outgrown => exact he
      case row row args => exact Rows.mono h fun u w'' he => ⟨keep a w w'' hy he.1 u, he.1, by rw [← Act.put_comm a v u h2]; exact he.2⟩
    | halt x w' =>
      cases x <;> simp only [Oper.upon] at h ⊢
      case panic u => exact hQ _ _ _ h
  · rename_i hw
    simp only [hw] at h
    exact ⟨keep a w w hy h.1 _, h.1, by rw [← Act.put_comm a v undef h2]; exact h.2⟩
theorem Closed.set {listed : Array Bool} (hc : Closed md ops listed) {i : Nat} (hr : i ∈ Region.ready md ops listed) : Closed md ops (listed.setIfInBounds i true) := by
  obtain ⟨_, oi, hoi, hall⟩ := mem_ready.1 hr
  intro j o hj ho e he hb
  by_cases hij : i = j
  · subst hij
    rw [hoi] at ho
    cases ho
    exact getD_set_true (hall e he hb)
  · rw [getD_set_ne false hij] at hj
    exact getD_set_true (hc j o hj ho e he hb)
theorem wpAnyK_first {f i : Nat} {oi : Oper} {v : Value} (hi : ops[i]? = some oi) (hsel : ∀ (j : Nat) (o : Oper) cs b, ops[j]? = some o → o.op ≠ .select cs b)
    (hQ : ∀ c a w, Q (.panic c) (a.put oi.dst v) w → Q (.panic c) a w) :
    ∀ (fuel : Nat) (listed loose : Array Bool) (a : Act) (w : World), Closed md ops listed → loose.size = listed.size →
      (∀ j oj, ops[j]? = some oj → j ≠ i → listed.getD j true = false → (∀ e ∈ oj.after, Region.binds md e = true → e.on ≠ i) → oi.apart ops oj = true) →
      i ∈ Region.ready md ops listed → YieldsC P ops oi v a w →
      wpAnyK P md ops f Q fuel (listed.setIfInBounds i true) (loose.setIfInBounds i true) (a.put oi.dst v) w → wpAnyK P md ops f Q (fuel + 1) listed loose a w := by
  intro fuel
  induction fuel with
  | zero =>
    intro listed loose a w _ hsz _ hr hy H
    refine ⟨fun h => (by rw [h] at hr; cases hr), fun j hj => ?_⟩
    by_cases hji : j = i
    · subst hji; exact hy.wpOp hi ⟨fun _ => Keeps.refl w, wpAnyK_less _ _ _ _ _ H⟩
    · have := ready_mono hj hji
      rw [H.1] at this
      cases this
  | succ fuel ih =>
    intro listed loose a w hcl hsz hfree hr hy H
    refine ⟨fun h => (by rw [h] at hr; cases hr), fun j hj => ?_⟩
    by_cases hji : j = i
    · subst hji; exact hy.wpOp hi ⟨fun _ => Keeps.refl w, wpAnyK_less _ _ _ _ _ H⟩
    · have h1 := H.2 j (ready_mono hj hji)
      obtain ⟨hjun, oj, hoj, hall⟩ := mem_ready.1 hj
      have hiun : listed.getD i false = false := by
        have h0 := (mem_ready.1 hr).1
        rcases Nat.lt_or_ge i listed.size with h' | h'
        · simp [h'] at h0 ⊢; exact h0
        · simp [Array.getElem?_eq_none h'] at h0
      have hnot : ∀ e ∈ oj.after, Region.binds md e = true → e.on ≠ i := fun e he hb heq => by
        have h1 := hall e he hb
        rw [heq, hiun] at h1
        cases h1
      have hntail : isM oi.op = false → tailOk md ops f (loose.setIfInBounds i true) j = false := by
        intro hm
        cases ht : tailOk md ops f (loose.setIfInBounds i true) j with
        | false => rfl
        | true =>
          exfalso
          have hlt : i < ops.size := (Array.getElem?_eq_some_iff.1 hi).1
          have hb := List.all_eq_true.1 ht i (List.mem_range.2 hlt)
          have hset : (loose.setIfInBounds i true).getD i false = true := by
            have h0 := (mem_ready.1 hr).1
            rcases Nat.lt_or_ge i listed.size with h' | h'
            · simp [hsz, h']
            · simp [Array.getElem?_eq_none h'] at h0
          simp only [hset, hi, hm, Bool.not_true, Bool.false_or] at hb
          have := before_listed hcl f j oj hoj hall hb
          rw [hiun] at this
          cases this
      have h2 := wpOp_putC hoj (hfree j oj hoj hji hjun hnot) (fun cs b => hsel i oi cs b hi) (fun cs b => hsel j oj cs b hoj) hQ hy
        (K := fun a' w' => (tailOk md ops f (loose.setIfInBounds i true) j = false → Keeps w w') ∧ wpAnyK P md ops f Q fuel ((listed.setIfInBounds i true).setIfInBounds j true) (loose.setIfInBounds i true) a' w')
        (wpOp_mono (fun a' w' h => ⟨fun hm => h.1 (hntail hm), h⟩) h1)
      have hfree' : ∀ k ok, ops[k]? = some ok → k ≠ i → (listed.setIfInBounds j true).getD k true = false →
          (∀ e ∈ ok.after, Region.binds md e = true → e.on ≠ i) → oi.apart ops ok = true := fun k ok hk hki hun hno => by
        refine hfree k ok hk hki ?_ hno
        by_cases hjk : j = k
        · subst hjk; exact hjun
        · rw [getD_set_ne true hjk] at hun; exact hun
      have htl : tailOk md ops f loose j = false → tailOk md ops f (loose.setIfInBounds i true) j = false := by
        intro ht
        cases ht2 : tailOk md ops f (loose.setIfInBounds i true) j with
        | false => rfl
        | true =>
          exfalso
          rw [show tailOk md ops f loose j = true from ?_] at ht
          · cases ht
          · refine List.all_eq_true.2 fun k hk => ?_
            have := List.all_eq_true.1 ht2 k hk
            cases hlk : loose.getD k false with
            | false => simp
            | true =>
              rw [getD_set_true hlk] at this
              simpa using this
      refine wpOp_mono (fun a' w' h3 => ⟨fun ht => h3.2.2.1 (htl ht), ih (listed.setIfInBounds j true) loose a' w' (hcl.set hj) (by simpa using hsz) hfree' (ready_mono hr (Ne.symm hji)) h3.1 ?_⟩) h2
      rw [Array.setIfInBounds_comm _ _ hji]
      exact h3.2.2.2
/-- An order that stands for all: 'op' names the next operation (and whether it is to be quiet); 'alt' several of which any may be next. -/
inductive Plan where
  | done
  | stop
  | op (i : Nat) (q : Bool) (r : Plan)
  | alt (i : Nat) (q : Bool) (p more : Plan)
def planOk (P : Program) (md : Region.Mode) (ops : Array Oper) (f : Nat) : Plan → Nat → Array Bool → Array Bool → List Nat → Bool
  | .done, _, listed, _, cov => (Region.ready md ops listed).isEmpty && cov.isEmpty
  | .stop, n, listed, _, cov => n != 0 && !(Region.ready md ops listed).isEmpty && (Region.ready md ops listed).all fun i => cov.contains i
  | .op _ _ _, 0, _, _, _ => false
  | .op i q r, n + 1, listed, loose, cov => cov.isEmpty && (match ops[i]? with
    | none => false
    | some o => if isD P o.op then q && Region.free md ops listed i && (Region.ready md ops listed).contains i && planOk P md ops f r n (listed.setIfInBounds i true) (loose.setIfInBounds i true) []
      else (match Region.ready md ops listed with | [k] => k == i | _ => false) && (q || tailOk md ops f loose i) && planOk P md ops f r n (listed.setIfInBounds i true) loose [])
  | .alt _ _ _ _, 0, _, _, _ => false
  | .alt i q p more, n + 1, listed, loose, cov => (q || tailOk md ops f loose i) && (Region.ready md ops listed).contains i && planOk P md ops f p n (listed.setIfInBounds i true) loose [] && planOk P md ops f more (n + 1) listed loose (i :: cov)
def planAll (P : Program) (l : List Oper) (f : Nat) (L : Plan) : Bool :=
  Region.noSelect l.toArray && P.follows .mixedOrders && planOk P .any l.toArray f L l.length (Array.replicate l.length false) (Array.replicate l.length false) []
end
section
variable {P : Program} {G : Globs} {E : Amb} {K : PState → Prop}
/-- one operation, with its guard -/
def popG (P : Program) (G : Globs) (ds : List (Option Tmp)) (o : Oper) (q : Bool) (σ : PState) [c : Cont] : Prop :=
  match o.guard with
  | none => pop q P G o σ c.k
  | some (g, want) => match (ds[g]?).join with
    | some s => match σ.frame.getD s .junk with
      | .val (.bool b) => @pguard b want ⟨pop q P G o (σ.put (some s) (pbool want)) c.k, c.k ((σ.put (some s) (pbool (!want))).put o.dst (.val (.tuple #[])))⟩
      | .val (.tuple _) => c.k (σ.put o.dst (.val (.tuple #[])))
      | _ => False
    | none => False
/-- operations in the order L -/
def popsD (P : Program) (G : Globs) (I : List Int) (ds : List (Option Tmp)) (l : List Oper) : Plan → PState → (PState → Prop) → Prop
  | .done, σ, K => K σ
  | .stop, _, _ => True
  | .op i q r, σ, K => ∃ τ : PState, (∀ E : Amb, E.I = I → ∀ A a w, Sim G E A σ a w → ∃ A', Sim G E A' τ a w) ∧ match l[i]? with
    | none => False
    | some o => @popG P G ds o q τ ⟨fun σ' => popsD P G I ds l r σ' K⟩
  | .alt i q p more, σ, K => ∃ τ : PState, (∀ E : Amb, E.I = I → ∀ A a w, Sim G E A σ a w → ∃ A', Sim G E A' τ a w) ∧ (match l[i]? with
    | none => False
    | some o => @popG P G ds o q τ ⟨fun σ' => popsD P G I ds l p σ' K⟩) ∧ popsD P G I ds l more τ K
theorem popG_case {ops : Array Oper} {o : Oper} {q : Bool} {σ : PState} {A : Nat → Prop} {a : Act} {w : World} {K : PState → Prop} (hs : Sim G E A σ a w) (h : @popG P G (ops.toList.map (·.dst)) o q σ ⟨K⟩) :
    (Region.wanted o (yielded ops a.tmps) = true ∧ ∃ σ1, Sim G E A σ1 a w ∧ pop q P G o σ1 K) ∨ (Region.wanted o (yielded ops a.tmps) = false ∧ ∃ σ1, Sim G E A σ1 (a.put o.dst undef) w ∧ K σ1) := by
  unfold popG at h
  split at h
  · rename_i hg
    exact .inl ⟨by simp [Region.wanted, hg], σ, hs, h⟩
  · rename_i g want hg
    split at h
    · rename_i s hd
      split at h
      · rename_i b hf
        obtain ⟨hy, x, hx, rfl⟩ := yielded_of hs hd hf
        by_cases hb : b = want
        · subst hb
          exact .inl ⟨by simp [Region.wanted, hg, hy], _, put_same hs hx (.val _), h.1 rfl⟩
        · have hb' : b = !want := by
            revert hb
            cases b <;> cases want <;> decide
          subst hb'
          exact .inr ⟨by simp [Region.wanted, hg, hy], _, (put_same hs hx (.val _)).put o.dst (.val _), h.2 rfl⟩
      · rename_i vs hf
        have hy := yielded_none hs hd hf
        exact .inr ⟨by simp [Region.wanted, hg, hy], _, hs.put o.dst (.val _), h⟩
      · exact h.elim
    · exact h.elim
theorem popG_step {ops : Array Oper} {f i : Nat} {md : Region.Mode} {Q : Exit → Act → World → Prop} {o : Oper} {q : Bool} {σ : PState} {A : Nat → Prop} {a : Act} {w : World} {K : PState → Prop} {loose : Array Bool} {R : Act → World → Prop}
    (ho : ops[i]? = some o) (hs : Sim G E A σ a w) (h : @popG P G (ops.toList.map (·.dst)) o q σ ⟨K⟩) (hqt : q = true ∨ tailOk md ops f loose i = true) (rest : ∀ σ' A' a' w', Sim G E A' σ' a' w' → K σ' → R a' w') :
    wpOp P ops Q i (fun a' w' => (tailOk md ops f loose i = false → Keeps w w') ∧ R a' w') a w := by
  unfold wpOp
  simp only [ho]
  rcases popG_case hs h with ⟨hw, σ1, hs1, h1⟩ | ⟨hw, σ1, hs1, h1⟩
  · rw [if_pos hw]
    refine .inl (pop_sound hs1 h1 fun σ' A' a' w' hk hs' hkeep => ⟨fun ht => ?_, rest σ' A' a' w' hs' hk⟩)
    rcases hqt with hq | hq
    · exact hkeep hq
    · rw [hq] at ht; cases ht
  · rw [if_neg (by simp [hw])]
    exact ⟨fun _ => Keeps.refl w, rest _ _ _ _ hs1 h1⟩
/-- What is known of a plan that was gone through. -/
def Gone (P : Program) (md : Region.Mode) (ops : Array Oper) (f : Nat) (Q : Exit → Act → World → Prop) (p : Plan) (n : Nat) (listed loose : Array Bool) (cov : List Nat) (a : Act) (w : World) : Prop :=
  match p with
  | .done | .op _ _ _ => wpAnyK P md ops f Q n listed loose a w
  | .stop | .alt _ _ _ _ => ∃ m, n = m + 1 ∧ Region.ready md ops listed ≠ [] ∧ ∀ j ∈ Region.ready md ops listed, j ∈ cov ∨
      wpOp P ops Q j (fun a' w' => (tailOk md ops f loose j = false → Keeps w w') ∧ wpAnyK P md ops f Q m (listed.setIfInBounds j true) loose a' w') a w
theorem Gone.any {md : Region.Mode} {ops : Array Oper} {f n : Nat} {Q : Exit → Act → World → Prop} {p : Plan} {listed loose : Array Bool} {a : Act} {w : World} (h : Gone P md ops f Q p n listed loose [] a w) : wpAnyK P md ops f Q n listed loose a w := by
  unfold Gone at h
  split at h
  · exact h
  · exact h
  · obtain ⟨m, rfl, hne, hall⟩ := h
    exact ⟨fun e => absurd e hne, fun j hj => (hall j hj).resolve_left (by simp)⟩
  · obtain ⟨m, rfl, hne, hall⟩ := h
    exact ⟨fun e => absurd e hne, fun j hj => (hall j hj).resolve_left (by simp)⟩
theorem popsD_sound {I : List Int} (hE : E.I = I) {ops : Array Oper} {f : Nat} {md : Region.Mode} {Q : Exit → Act → World → Prop} (hsel : Region.noSelect ops = true) (hQ : ∀ c a w, ¬ Q (.panic c) a w)
    (hq : ∀ σ' A' a' w', K σ' → Sim G E A' σ' a' w' → Q .normal a' w') :
    ∀ (L : Plan) (n : Nat) (listed loose : Array Bool) (cov : List Nat) (σ : PState) (A : Nat → Prop) (a : Act) (w : World), Sim G E A σ a w → Closed md ops listed → loose.size = listed.size → planOk P md ops f L n listed loose cov = true →
      popsD P G I (ops.toList.map (·.dst)) ops.toList L σ K → Gone P md ops f Q L n listed loose cov a w
  | .done, n, listed, loose, cov, σ, A, a, w, hs, _, _, hp, h => by
    simp only [planOk, List.isEmpty_iff, Bool.and_eq_true] at hp
    show wpAnyK P md ops f Q n listed loose a w
    cases n with
    | zero => exact ⟨hp.1, hq σ A a w h hs⟩
    | succ n => exact ⟨fun _ => hq σ A a w h hs, fun i hi => by rw [hp.1] at hi; cases hi⟩
  | .stop, n, listed, loose, cov, σ, A, a, w, hs, _, _, hp, h => by
    simp only [planOk, Bool.and_eq_true, bne_iff_ne, ne_eq, Bool.not_eq_true', List.isEmpty_eq_false_iff, List.all_eq_true, List.contains_iff_mem] at hp
    obtain ⟨⟨h1, h2⟩, h3⟩ := hp
    refine ⟨n - 1, by omega, h2, fun j hj => .inl (h3 j hj)⟩
  | .op i q r, 0, listed, loose, cov, σ, A, a, w, hs, _, _, hp, h => by simp [planOk] at hp
  | .alt i q p more, 0, listed, loose, cov, σ, A, a, w, hs, _, _, hp, h => by simp [planOk] at hp
  | .alt i q p more, n + 1, listed, loose, cov, σ, A, a, w, hs, hcl, hsz, hp, h => by
    simp only [planOk, Bool.and_eq_true, Bool.or_eq_true, List.contains_iff_mem] at hp
    obtain ⟨⟨⟨hqt, hr⟩, hp1⟩, hp2⟩ := hp
    simp only [popsD] at h
    obtain ⟨τ, hx, h1, h2⟩ := h
    obtain ⟨A, hs⟩ := hx E hE A a w hs
    obtain ⟨m, hm, hne, hall⟩ := popsD_sound hE hsel hQ hq more (n + 1) listed loose (i :: cov) τ A a w hs hcl hsz hp2 h2 |> fun g => (show ∃ m, n + 1 = m + 1 ∧ Region.ready md ops listed ≠ [] ∧ ∀ j ∈ Region.ready md ops listed, j ∈ i :: cov ∨
      wpOp P ops Q j (fun a' w' => (tailOk md ops f loose j = false → Keeps w w') ∧ wpAnyK P md ops f Q m (listed.setIfInBounds j true) loose a' w') a w from by
        cases more with
        | stop => exact g
        | alt _ _ _ _ => exact g
        | done => simp [planOk] at hp2
        | op _ _ _ => simp [planOk] at hp2)
    cases hm
    refine ⟨n, rfl, hne, fun j hj => ?_⟩
    rcases hall j hj with hmem | hst
    · rcases List.mem_cons.1 hmem with rfl | hmem
      · refine .inr ?_
        split at h1
        · exact h1.elim
        · rename_i o ho
          exact popG_step (by simpa using ho) hs h1 hqt fun σ' A' a' w' hs' hk => (popsD_sound hE hsel hQ hq p n _ _ [] σ' A' a' w' hs' (hcl.set hr) (by simpa using hsz) hp1 hk).any
      · exact .inl hmem
    · exact .inr hst
  | .op i q r, n + 1, listed, loose, cov, σ, A, a, w, hs, hcl, hsz, hp, h => by
    show wpAnyK P md ops f Q (n + 1) listed loose a w
    simp only [popsD] at h
    obtain ⟨τ, hx, h⟩ := h
    obtain ⟨A, hs⟩ := hx E hE A a w hs
    split at h
    · exact h.elim
    · rename_i o ho
      have ho' : ops[i]? = some o := by simpa using ho
      simp only [planOk, ho', Bool.and_eq_true] at hp
      obtain ⟨_, hp⟩ := hp
      by_cases hD : isD P o.op = true
      · rw [if_pos hD] at hp
        simp only [Bool.and_eq_true] at hp
        obtain ⟨⟨⟨_, hfree⟩, hready⟩, hp2⟩ := hp
        have hr : i ∈ Region.ready md ops listed := List.contains_iff_mem.1 hready
        have hsp := Region.noSelect_spec hsel
        have rest := fun {σ' : PState} {A' : Nat → Prop} {a' : Act} {w' : World} (hs' : Sim G E A' σ' a' w') (h' : popsD P G I (ops.toList.map (·.dst)) ops.toList r σ' K) =>
          (popsD_sound hE hsel hQ hq r n _ _ [] σ' A' a' w' hs' (hcl.set hr) (by simpa using hsz) hp2 h').any
        rcases popG_case hs h with ⟨hw, σ1, hs1, h1⟩ | ⟨hw, σ1, hs1, h1⟩
        · have hg : ∃ p, popsD P G I (ops.toList.map (·.dst)) ops.toList r (σ1.put o.dst p) K ∧ ∃ v, Rep w A p v ∧ ∀ w', (isM o.op = false → Keeps w w') → (execOp a.eval o).run P w' = .ok (.value v) w' := by
            cases hm : isM o.op with
            | false =>
              obtain ⟨p, hk, v, hrep, hrun⟩ := pop_gives hs1 hD h1
              exact ⟨p, hk, v, hrep, fun w' hk' => hrun w' (hk' rfl)⟩
            | true =>
              obtain ⟨p, hk, v, hrep, hrun⟩ := pop_givesM hs1 hm h1
              exact ⟨p, hk, v, hrep, fun w' _ => hrun w'⟩
          obtain ⟨p, hk, v, hrep, hrun⟩ := hg
          exact wpAnyK_first (v := v) ho' hsp (fun c a w h => absurd h (hQ _ _ _)) n listed loose a w hcl hsz (Region.free_spec ho' hfree) hr (.inl ⟨hw, hrun⟩) (rest (hs1.put o.dst hrep) hk)
        · exact wpAnyK_first (v := undef) ho' hsp (fun c a w h => absurd h (hQ _ _ _)) n listed loose a w hcl hsz (Region.free_spec ho' hfree) hr (.inr ⟨hw, rfl⟩) (rest hs1 h1)
      · rw [if_neg hD] at hp
        simp only [Bool.and_eq_true, Bool.or_eq_true] at hp
        obtain ⟨⟨hr1, hqt⟩, hp2⟩ := hp
        have hr : Region.ready md ops listed = [i] := by
          split at hr1
          · rename_i k hk
            rw [hk, beq_iff_eq.1 hr1]
          · cases hr1
        have hmem : i ∈ Region.ready md ops listed := by rw [hr]; exact List.mem_singleton.2 rfl
        refine ⟨fun h0 => (by rw [hr] at h0; cases h0), fun j hj => ?_⟩
        rw [hr] at hj
        rw [List.mem_singleton.1 hj]
        exact popG_step ho' hs h hqt fun σ' A' a' w' hs' hk => (popsD_sound hE hsel hQ hq r n _ _ [] σ' A' a' w' hs' (hcl.set hmem) (by simpa using hsz) hp2 hk).any
theorem Sim.drew {A : Nat → Prop} {σ : PState} {a : Act} {w : World} (hs : Sim G E A σ a w) : Sim G E A σ a { w with drawn := w.drawn + 1 } := by
  have he : Ext (fun _ => False) w { w with drawn := w.drawn + 1 } := ⟨rfl, rfl, rfl, Nat.le_refl _, fun _ _ _ => rfl, fun _ _ h => h⟩
  refine ⟨hs.ext.trans he (fun _ _ h => h.elim), hs.lt, hs.a0, hs.a1, fun g => (hs.globs g).ext he (fun _ h => h) (fun _ _ h => h), hs.nodup, fun n o h => (hs.objs n o h).ext he (fun _ h => h) (fun _ _ h => h) (fun _ _ h => h), hs.own, hs.neg, hs.defers, hs.size, fun i p hp => ?_⟩
  obtain ⟨v, hv, hr⟩ := hs.frame i p hp
  exact ⟨v, hv, hr.ext he (fun _ h => h) (fun _ _ h => h)⟩
theorem W_region_draw {I : List Int} {id : Nat} {l : List Oper} {K : Exit → PState → Prop} {σ : PState} (f : Nat) (L : Plan) (hp : planAll P l f L = true)
    (h : popsD P G I (l.map (·.dst)) l L σ (K .normal)) : W P G I (.region id l.toArray true) σ K := by
  intro E hE A a w hs Q hq
  simp only [planAll, Bool.and_eq_true] at hp
  obtain ⟨⟨h1, h3⟩, h4⟩ := hp
  refine wp_mono (Q := fun e a w => e = .normal ∧ ∃ σ' A', K .normal σ' ∧ Sim G E A' σ' a w) ?_ fun e a w ⟨he, σ', A', hk, hs'⟩ => he ▸ hq _ _ _ _ _ hk hs'
  refine wp_region_any h3 (wpAnyK_any (f := f) _ _ (Array.replicate l.length false) _ _ ?_)
  have := (popsD_sound (P := P) (G := G) (E := E) hE (K := K .normal) (ops := l.toArray) (f := f) (md := .any) (Q := fun e a w => e = .normal ∧ ∃ σ' A', K .normal σ' ∧ Sim G E A' σ' a w) h1
    (fun c a w h => by obtain ⟨h, _⟩ := h; cases h) (fun σ' A' a' w' hk hs' => ⟨rfl, σ', A', hk, hs'⟩) L l.length (Array.replicate l.length false) (Array.replicate l.length false) [] σ A a _ hs.drew
    (fun j o hj => by
      exfalso
      rcases Nat.lt_or_ge j l.length with h | h
      · simp [h] at hj
      · simp [h] at hj) rfl (by simpa using h4) (by simpa using h)).any
  simpa using this
end
end Go.PM

namespace Go.PM
open Go.RowKit
theorem Fin_ret1 {P : Program} {t : Tmp} {R : PV → Heap → Prop} {σ : PState} {res : PV} {H : Heap} (h1 : σ.frame.getD t .junk = res) (h2 : Sub H σ.heap) (h3 : R res H) : Fin P [.tmp t] R .ret σ :=
  Fin_ret (show PResult P σ [.tmp t] res from h1.symm) h2 h3
theorem Fin_ret2 {P : Program} {t u : Tmp} {R : PV → Heap → Prop} {σ : PState} {p q : PV} {H : Heap} (h1 : σ.frame.getD t .junk = p) (h1' : σ.frame.getD u .junk = q) (h2 : Sub H σ.heap) (h3 : R (.tuple [p, q]) H) : Fin P [.tmp t, .tmp u] R .ret σ :=
  Fin_ret (show PResult P σ [.tmp t, .tmp u] (.tuple [p, q]) from ⟨[p, q], ⟨h1.symm, h1'.symm, trivial⟩, rfl⟩) h2 h3
theorem Fin_ret3 {P : Program} {t u v : Tmp} {R : PV → Heap → Prop} {σ : PState} {p q r : PV} {H : Heap} (h1 : σ.frame.getD t .junk = p) (h1' : σ.frame.getD u .junk = q) (h1'' : σ.frame.getD v .junk = r) (h2 : Sub H σ.heap) (h3 : R (.tuple [p, q, r]) H) :
    Fin P [.tmp t, .tmp u, .tmp v] R .ret σ :=
  Fin_ret (show PResult P σ [.tmp t, .tmp u, .tmp v] (.tuple [p, q, r]) from ⟨[p, q, r], ⟨h1.symm, h1'.symm, h1''.symm, trivial⟩, rfl⟩) h2 h3
theorem map_getD {α : Type} (f : α → PV) (xs : List α) (i : Nat) (h : i < xs.length) : (xs.map f).getD i .junk = f xs[i] := by
  simp [List.getD_eq_getElem?_getD, h]
theorem W_loop_k {P : Program} {G : Globs} {σ : PState} {c : Code} {K : Exit → PState → Prop} {I : List Int} (R : Nat → PState → Prop) (n0 : Nat) (τ0 : PState) (hw : Wk σ τ0) (h0 : R n0 τ0)
    (round : ∀ n τ, R n τ → ∀ lp : PState → Prop, (∀ σ'' n' τ', n' < n → Wk σ'' τ' → R n' τ' → lp σ'') → W P G I c τ (seqK lp K)) : W P G I (.loop c) σ K :=
  W_loopW R n0 τ0 hw h0 fun n τ hR => round n τ hR _ fun _ n' τ' h1 h2 h3 => ⟨n', τ', h1, h2, h3⟩
/-- A call by contract. -/
theorem pcall_k {q : Bool} {P : Program} {G : Globs} {σ : PState} {fn : FuncId} {args : List PV} {R : PV → Heap → Prop} {d : Option Tmp} {K : PState → Prop} (hc : PCalls P G fn args [] R)
    (hk : ∀ res Hout, R res Hout → (∀ n ∈ names Hout, n ∉ names σ.heap) → K (PState.put ⟨σ.frame, Hout ++ σ.heap⟩ d res)) : @pcallI q P G σ d fn args ⟨K⟩ :=
  pcall_plain hc hk
end Go.PM

namespace Go.PM
theorem pfresh_k {l : List Int} {k : Int → Prop} {C : Prop} (hc : C) (h : ∀ n : Int, (C ∧ ∀ x ∈ l, (n = x) = False ∧ (x = n) = False) → k n) : @pfresh l ⟨k⟩ :=
  fun n hn => h n ⟨hc, fun _ hx => ⟨eq_false fun e => hn (e ▸ hx), eq_false fun e => hn (e ▸ hx)⟩⟩
theorem pborn_mu {l : List Int} {im : Prop} {k : Int → Prop} {C : Prop} (hc : C) (h : ∀ n : Int, (C ∧ ∀ x ∈ l, (n = x) = False ∧ (x = n) = False) → k n) : @pborn l ⟨im, k⟩ :=
  .inr fun n hn => h n ⟨hc, fun _ hx => ⟨eq_false fun e => hn (e ▸ hx), eq_false fun e => hn (e ▸ hx)⟩⟩
theorem pborn_im {l : List Int} {im : Prop} {k : Int → Prop} (h : im) : @pborn l ⟨im, k⟩ := .inl h
theorem pguard_tt (x y : Prop) : @pguard true true ⟨x, y⟩ = x := by simp [pguard]
theorem pguard_tf (x y : Prop) : @pguard true false ⟨x, y⟩ = y := by simp [pguard]
theorem pguard_ft (x y : Prop) : @pguard false true ⟨x, y⟩ = y := by simp [pguard]
theorem pguard_ff (x y : Prop) : @pguard false false ⟨x, y⟩ = x := by simp [pguard]
end Go.PM

namespace Go.PM
open Go.RowKit
section
variable {P : Program} {G : Globs} {E : Amb} {A : Nat → Prop} {σ : PState} {a : Act} {w : World}
@[reducible] def frzH (n : Int) (cells : List PV) (H : Heap) : Heap := (del H n).map fun x => (x.1, { x.2 with cells := x.2.cells.map (frz1 n cells) })
def frzOk (n : Int) (cells : List PV) (H : Heap) : Prop := ∀ x ∈ del H n, ∀ u ∈ x.2.cells, (frz1 n cells u).one = true
theorem Sim.freeze (hs : Sim G E A σ a w) {n : Int} {o : PObj} (hI : n ∉ E.I) (hl : look σ.heap n = some o) (hone : frzOk n o.cells σ.heap) :
    Sim G E (fun b => A b ∨ (b : Int) = n) ⟨σ.frame.map (frz n o.cells), frzH n o.cells σ.heap⟩ a w := by
  have hob := hs.objs n o (look_mem hl)
  have hA : ∀ b, A b → (A b ∨ (b : Int) = n) := fun b h => .inl h
  have hn : ∀ b : Nat, n = b → (A b ∨ (b : Int) = n) := fun b h => .inr h.symm
  have hnn := names_del_not n σ.heap hs.nodup
  have hs2 := (hs.drop n).more (A' := fun b => A b ∨ (b : Int) = n) hA (fun b hb => by
    rcases hb with h | h
    · exact .inl h
    · obtain ⟨h1, h2, h3⟩ := hs.own n o (look_mem hl) b h.symm
      refine .inr ⟨h1, ?_, by rw [h]; exact hnn⟩
      rcases h3 with h3 | h3
      · exact h3
      · exact absurd (h ▸ h3 : n ∈ E.I) hI)
  have hnames : names (frzH n o.cells σ.heap) = names (del σ.heap n) := by
    simp [names, Function.comp_def]
  have hmem : ∀ m o', (m, o') ∈ frzH n o.cells σ.heap → ∃ o1, (m, o1) ∈ del σ.heap n ∧ o' = { o1 with cells := o1.cells.map (frz1 n o.cells) } := by
    intro m o' hm
    obtain ⟨⟨m1, o1⟩, h1, e⟩ := List.mem_map.1 hm
    cases e
    exact ⟨o1, h1, rfl⟩
  refine ⟨hs2.ext, hs2.lt, hs2.a0, hs2.a1, hs2.globs, ?_, fun m o' hm => ?_, fun m o' hm => ?_, fun m o' hm => ?_, hs2.defers, by simp [hs2.size], fun i p hp => ?_⟩
  · show (names _).Nodup
    rw [hnames]
    exact hs2.nodup
  · obtain ⟨o1, h1, rfl⟩ := hmem m o' hm
    rcases hs.objs m o1 (mem_del hs.nodup h1).2 with ⟨g1, g2, g3⟩ | ⟨b, cur, fz, f, rfl, q1, q2, q3, q4⟩ | ⟨b, es, clock, rfl, q1, q2, q3, q5, q6, q4⟩ | ⟨b, x, ps, rfl, q1, q2, q3, q4, q5, q6⟩
    · exact .inl ⟨g1, g2, by simp [g3]⟩
    rotate_left
    · refine .inr (.inr (.inl ⟨b, es, clock, rfl, q1, q2, by simp [q3], q5, q6, fun j u hu => ?_⟩))
      simp only [List.getElem?_map] at hu
      cases hj : o1.cells[j]? with
      | none => rw [hj] at hu; cases hu
      | some q =>
        rw [hj] at hu
        cases hu
        obtain ⟨e, k, v, r1, rfl, r2, r3⟩ := q4 j q hj
        exact ⟨e, k, v, r1, rfl, r2.mono hA (fun _ _ _ _ h => h) (fun _ _ h => h), r3.mono hA (fun _ _ _ _ h => h) (fun _ _ h => h)⟩
    · refine .inr (.inr (.inr ⟨b, x, ps.map (frz1 n o.cells), rfl, q1, q2, q3, by simp [q4, frz1], by simpa using q5, fun j u hu => ?_⟩))
      rw [List.getElem?_map] at hu
      cases hj : ps[j]? with
      | none => rw [hj] at hu; cases hu
      | some q =>
        rw [hj] at hu
        cases hu
        obtain ⟨v, r1, r2⟩ := q6 j q hj
        exact ⟨v, r1, frz1_rep hA hn hob r2⟩
    · refine .inr (.inl ⟨b, cur, fz, f, rfl, q1, q2, ⟨q3.1, fun k1 k2 => by simpa using q3.2 k1 k2⟩, fun j u hu => ?_⟩)
      simp only [List.getElem?_map] at hu
      cases hj : o1.cells[j]? with
      | none => rw [hj] at hu; cases hu
      | some q =>
        rw [hj] at hu
        cases hu
        exact ⟨(q4 j q hj).1, hone _ h1 q (List.mem_of_getElem? hj), frz1_rep hA hn hob (q4 j q hj).2.2⟩
  · obtain ⟨o1, h1, rfl⟩ := hmem m o' hm
    exact hs2.own m o1 h1
  · obtain ⟨o1, h1, rfl⟩ := hmem m o' hm
    exact hs2.neg m o1 h1
  · simp only [List.getElem?_map] at hp
    cases hj : σ.frame[i]? with
    | none => rw [hj] at hp; cases hp
    | some q =>
      rw [hj] at hp
      cases hp
      obtain ⟨v, hv, hr⟩ := hs.frame i q hj
      exact ⟨v, hv, frz_rep hA hn hob hr⟩
/-- One object after the other is turned no more; an object may be forgotten. -/
inductive Frz : PV → Heap → PV → Heap → Prop
  | refl (p : PV) (H : Heap) : Frz p H p H
  | step {p p' : PV} {H H' : Heap} (n : Int) (o : PObj) (hl : look H n = some o) (hone : frzOk n o.cells H) (h : Frz (frz n o.cells p) (frzH n o.cells H) p' H') : Frz p H p' H'
  | sub {p p' : PV} {H H1 H' : Heap} (hs : Sub H1 H) (h : Frz p H1 p' H') : Frz p H p' H'
theorem Sim.frz {A' : Nat → Prop} {p p' : PV} {H H' : Heap} (h : Frz p H p' H') : ∀ {A : Nat → Prop} {v : Value}, E.I = [] → Sim G E A ⟨[], H⟩ a w → Rep w A p v → ∃ A', Sim G E A' ⟨[], H'⟩ a w ∧ Rep w A' p' v := by
  induction h with
  | refl p H => intro A v _ hs hr; exact ⟨A, hs, hr⟩
  | step n o hl hone _ ih =>
    intro A v hI hs hr
    have h1 := hs.freeze (n := n) (o := o) (by rw [hI]; simp) hl hone
    exact ih hI h1 (frz_rep (fun b h => .inl h) (fun b h => .inr h.symm) (hs.objs n o (look_mem hl)) hr)
  | sub hsub _ ih =>
    intro A v hI hs hr
    exact ih hI (hs.sub hsub) hr
theorem PCalls.frz {f : FuncId} {args : List PV} {R R' : PV → Heap → Prop} (h : PCalls P G f args [] R) (hr : ∀ res H, R res H → ∃ res' H', Frz res H res' H' ∧ R' res' H') : PCalls P G f args [] R' := by
  intro w A F vals h1 h2 h3 h4 h5 h6 h7
  refine (h w A F vals h1 h2 h3 h4 h5 h6 h7).mono ?_
  rintro e w' ⟨v, A', res, Hout, he, hR, hrep, hs⟩
  obtain ⟨res', H', hf, hR'⟩ := hr _ _ hR
  obtain ⟨A2, hs2, hrep2⟩ := Sim.frz (A' := A') hf rfl hs hrep
  exact ⟨v, A2, res', H', he, hR', hrep2, hs2⟩
/-- one row handed back -/
theorem PCalls.frz_row {f : FuncId} {args : List PV} {R : PV → Heap → Prop} {xs : List PV} (h : PCalls P G f args [] R) (hr : ∀ res H, R res H → ∃ n ty, res = .row n 1 xs.length ∧ H = [(n, ⟨ty, true, 1, xs⟩)]) :
    PCalls P G f args [] (fun res H => res = .list 1 xs ∧ H = []) := by
  refine h.frz fun res H hR => ?_
  obtain ⟨n, ty, rfl, rfl⟩ := hr res H hR
  refine ⟨_, _, .step n ⟨ty, true, 1, xs⟩ (by simp [look]) (by simp [frzOk, del]) (.refl _ _), ?_, ?_⟩
  · simp [PM.frz, frz1, elemsOf]
  · simp [frzH, del]
/-- A function, its end out of sight. -/
theorem PCalls_k {f : FuncId} {fn : Func} {c : Code} {n : Nat} {rs : List ResultVar} {args : List PV} {Hin : Heap} {R : PV → Heap → Prop} (hf : P.funcs[f]? = some fn) (hb : fn.body = some c) (hn : fn.ntmps = n) (hrs : fn.results = rs.toArray)
    (h : ∀ fin : Exit → PState → Prop, (∀ e σ, Fin P rs R e σ → fin e σ) → W P G (Hin.map (·.1)) c ⟨args ++ List.replicate (n - args.length) .junk, Hin⟩ fin) : PCalls P G f args Hin R :=
  PCalls_of_W hf hb hn hrs (h _ fun _ _ h => h)
theorem bl_lit (l : List UInt8) : bl { data := l.toArray } = l := by simp [bl]
end
end Go.PM

namespace Go.PM
open Go.RowKit
/-- A frame of n slots: what was put last stands first. -/
def fr (n : Nat) (l : List (Nat × PV)) : List PV := l.foldr (fun x f => f.set x.1 x.2) (List.replicate n .junk)
theorem fr_length (n : Nat) : ∀ l : List (Nat × PV), (fr n l).length = n
  | [] => by simp [fr]
  | x :: l => by
    have := fr_length n l
    simp only [fr, List.foldr_cons, List.length_set] at this ⊢
    exact this
theorem fr_set (n : Nat) (l : List (Nat × PV)) (i : Nat) (v : PV) : (fr n l).set i v = fr n ((i, v) :: l) := rfl
theorem fr_getD_nil (n j : Nat) : (fr n []).getD j .junk = .junk := by
  simp only [fr, List.foldr_nil, List.getD_eq_getElem?_getD, List.getElem?_replicate]
  split <;> rfl
theorem fr_getD_cons (n i j : Nat) (v : PV) (l : List (Nat × PV)) : (fr n ((i, v) :: l)).getD j .junk = if i = j then (if i < n then v else .junk) else (fr n l).getD j .junk := by
  have hl := fr_length n l
  show ((fr n l).set i v).getD j .junk = _
  by_cases h : i = j
  · subst h
    rw [if_pos rfl]
    split
    · rename_i hi
      rw [List.getD_eq_getElem?_getD, List.getElem?_set_self (by omega)]
      rfl
    · rename_i hi
      rw [List.getD_eq_getElem?_getD, List.getElem?_eq_none (by simp; omega)]
      rfl
  · rw [if_neg h, List.getD_eq_getElem?_getD, List.getElem?_set_ne h, ← List.getD_eq_getElem?_getD]
theorem fr_same {n i : Nat} {v : PV} {l : List (Nat × PV)} (h : i < n) : (fr n ((i, v) :: l)).getD i .junk = v := by
  rw [fr_getD_cons, if_pos rfl, if_pos h]
theorem fr_other {n i j : Nat} {v : PV} {l : List (Nat × PV)} (h : i ≠ j) : (fr n ((i, v) :: l)).getD j .junk = (fr n l).getD j .junk := by
  rw [fr_getD_cons, if_neg h]
theorem wkF_of : ∀ (l l' : List PV), l.length = l'.length → (∀ i : Nat, l'.getD i .junk = .junk ∨ l.getD i .junk = l'.getD i .junk) → wkF l l'
  | [], [], _, _ => trivial
  | p :: r, p' :: r', hl, h => by
    refine ⟨?_, wkF_of r r' (by simpa using hl) fun i => by simpa using h (i + 1)⟩
    have := h 0
    simp only [List.getD_cons_zero] at this
    rcases this with e | e
    · exact .inl e
    · exact .inr e.symm
  | [], _ :: _, hl, _ => by simp at hl
  | _ :: _, [], hl, _ => by simp at hl
theorem fr_mem (n : Nat) : ∀ (l : List (Nat × PV)) (i : Nat), (fr n l).getD i .junk = .junk ∨ (i, (fr n l).getD i .junk) ∈ l
  | [], i => .inl (fr_getD_nil n i)
  | (j, v) :: l, i => by
    rw [fr_getD_cons]
    split
    · rename_i h
      subst h
      split
      · exact .inr (by simp)
      · exact .inl rfl
    · rcases fr_mem n l i with h | h
      · exact .inl h
      · exact .inr (List.mem_cons_of_mem _ h)
theorem wkF_fr {n : Nat} {l l' : List (Nat × PV)} (h : ∀ x ∈ l', (fr n l).getD x.1 .junk = x.2) : wkF (fr n l) (fr n l') := by
  refine wkF_of _ _ (by rw [fr_length, fr_length]) fun i => ?_
  rcases fr_mem n l' i with e | e
  · exact .inl e
  · exact .inr (h _ e)
def layFrom : Nat → List PV → List (Nat × PV)
  | _, [] => []
  | k, p :: r => (k, p) :: layFrom (k + 1) r
theorem fr_layFrom (n : Nat) : ∀ (args : List PV) (k i : Nat), k + args.length ≤ n → (fr n (layFrom k args)).getD i .junk = if k ≤ i ∧ i < k + args.length then args.getD (i - k) .junk else .junk
  | [], k, i, _ => by
    rw [layFrom, fr_getD_nil, if_neg (by simp only [List.length_nil]; omega)]
  | p :: r, k, i, h => by
    rw [layFrom, fr_getD_cons]
    simp only [List.length_cons] at h
    split
    · rename_i e
      subst e
      rw [if_pos (by omega), if_pos (by simp)]
      simp
    · rename_i e
      rw [fr_layFrom n r (k + 1) i (by omega)]
      by_cases hc : k + 1 ≤ i ∧ i < k + 1 + r.length
      · rw [if_pos hc, if_pos (by simp only [List.length_cons]; omega), show i - k = (i - (k + 1)) + 1 by omega, List.getD_cons_succ]
      · rw [if_neg hc, if_neg (by simp only [List.length_cons]; omega)]
theorem getD_ext : ∀ (l l' : List PV), l.length = l'.length → (∀ i : Nat, l.getD i .junk = l'.getD i .junk) → l = l'
  | [], [], _, _ => rfl
  | p :: r, p' :: r', hl, h => by
    have h0 := h 0
    simp only [List.getD_cons_zero] at h0
    rw [h0, getD_ext r r' (by simpa using hl) fun i => by simpa using h (i + 1)]
  | [], _ :: _, hl, _ => by simp at hl
  | _ :: _, [], hl, _ => by simp at hl
theorem fr_args {n : Nat} {args : List PV} (h : args.length ≤ n) : args ++ List.replicate (n - args.length) .junk = fr n (layFrom 0 args) := by
  refine getD_ext _ _ (by simp [fr_length]; omega) fun i => ?_
  rw [fr_layFrom n args 0 i (by omega)]
  by_cases hi : i < args.length
  · rw [if_pos (by omega), List.getD_eq_getElem?_getD, List.getElem?_append_left hi, ← List.getD_eq_getElem?_getD]
    simp
  · rw [if_neg (by omega), List.getD_eq_getElem?_getD, List.getElem?_append_right (by omega), List.getElem?_replicate]
    split <;> rfl
section
variable {P : Program} {G : Globs}
/-- A function, its end out of sight. -/
theorem PCalls_f {f : FuncId} {fn : Func} {c : Code} {n : Nat} {rs : List ResultVar} {args : List PV} {Hin : Heap} {R : PV → Heap → Prop} (hf : P.funcs[f]? = some fn) (hb : fn.body = some c) (hn : fn.ntmps = n) (hrs : fn.results = rs.toArray) (hl : args.length ≤ n)
    (h : ∀ fin : Exit → PState → Prop, (∀ e σ, Fin P rs R e σ → fin e σ) → W P G (Hin.map (·.1)) c ⟨fr n (layFrom 0 args), Hin⟩ fin) : PCalls P G f args Hin R :=
  PCalls_k hf hb hn hrs fun fin hfin => by rw [fr_args hl]; exact h fin hfin
end
theorem Wk_fr {n : Nat} {l l' : List (Nat × PV)} {H H' : Heap} (h : ∀ x ∈ l', (fr n l).getD x.1 .junk = x.2) (hs : Sub H' H) : Wk ⟨fr n l, H⟩ ⟨fr n l', H'⟩ := ⟨wkF_fr h, hs⟩
theorem fr_get (n : Nat) (l : List (Nat × PV)) (i : Nat) (p : PV) (h : (fr n l).getD i .junk = p) (hp : p ≠ .junk) : (fr n l)[i]? = some p := by
  rw [List.getD_eq_getElem?_getD] at h
  cases hq : (fr n l)[i]? with
  | none => rw [hq] at h; exact absurd h.symm hp
  | some q => rw [hq] at h; rw [← h]; rfl
section
variable {P : Program} {G : Globs}
theorem W_adopt_f {c : Code} {K : Exit → PState → Prop} {I : List Int} {n0 : Nat} {l : List (Nat × PV)} {H : Heap} (i : Nat) (e : TypeId) (es : Nat) (hi : (fr n0 l).getD i .junk = pnil)
    (h : ∀ n : Int, n ∉ names H → W P G I c ⟨fr n0 ((i, .row n es 0) :: l), (n, ⟨e, true, es, []⟩) :: H⟩ K) : W P G I c ⟨fr n0 l, H⟩ K :=
  W_adopt i e es (fr_get _ _ _ _ hi (by simp [pnil])) fun n hn => h n hn
end
attribute [irreducible] fr
end Go.PM

namespace Go.PM
open Go.RowKit
section
variable {P : Program} {G : Globs} {I : List Int} {σ τ υ : PState} {c : Code} {K : Exit → PState → Prop}
/-- What reads as σ also reads as τ. -/
def Wx (G : Globs) (I : List Int) (σ τ : PState) : Prop := ∀ E : Amb, E.I = I → ∀ A a w, Sim G E A σ a w → ∃ A', Sim G E A' τ a w
theorem Wx.refl (σ : PState) : Wx G I σ σ := fun _ _ A _ _ hs => ⟨A, hs⟩
theorem Wx.trans (h : Wx G I σ τ) (k : Wx G I τ υ) : Wx G I σ υ := fun E hE A a w hs => by
  obtain ⟨A', h'⟩ := h E hE A a w hs
  exact k E hE A' a w h'
theorem Wx.of_wk (h : Wk σ τ) : Wx G I σ τ := fun _ _ A _ _ hs => ⟨A, hs.wk h⟩
theorem W_x (h : Wx G I σ τ) (hw : W P G I c τ K) : W P G I c σ K := fun E hE A a w hs Q hq => by
  obtain ⟨A', h'⟩ := h E hE A a w hs
  exact hw E hE A' a w h' Q hq
theorem W_loop_x (R : Nat → PState → Prop) (n0 : Nat) (τ0 : PState) (hw : Wx G I σ τ0) (h0 : R n0 τ0)
    (round : ∀ n τ, R n τ → ∀ lp : PState → Prop, (∀ σ'' n' τ', n' < n → Wx G I σ'' τ' → R n' τ' → lp σ'') → W P G I c τ (seqK lp K)) : W P G I (.loop c) σ K := by
  refine W_x hw (W_loop R n0 h0 fun n σ' hI => ?_)
  intro E hE A a w hs Q hq
  refine round n σ' hI (fun σ'' => ∃ n' τ', n' < n ∧ Wx G I σ'' τ' ∧ R n' τ') (fun σ'' n' τ' h1 h2 h3 => ⟨n', τ', h1, h2, h3⟩) E hE A a w hs Q fun e σ'' a' w' A' hk hs' => ?_
  cases e with
  | normal =>
    obtain ⟨n', τ', hlt, hwx, hI'⟩ := hk
    obtain ⟨A2, hs2⟩ := hwx E hE A' a' w' hs'
    exact hq .normal τ' a' w' A2 ⟨n', hlt, hI'⟩ hs2
  | _ => exact hq _ _ _ _ _ hk hs'
theorem Wx.freeze {n : Int} {o : PObj} (hI : n ∉ I) (hl : look σ.heap n = some o) (hone : frzOk n o.cells σ.heap) : Wx G I σ ⟨σ.frame.map (frz n o.cells), frzH n o.cells σ.heap⟩ :=
  fun _ hE _ _ _ hs => ⟨_, hs.freeze (by rw [hE]; exact hI) hl hone⟩
theorem fr_map (n : Nat) (f : PV → PV) (hf : f .junk = .junk) : ∀ l : List (Nat × PV), (fr n l).map f = fr n (l.map fun x => (x.1, f x.2))
  | [] => by
    unfold fr
    simp [hf]
  | (i, v) :: l => by
    have := fr_map n f hf l
    rw [List.map_cons, ← fr_set, ← fr_set, ← this, List.map_set]
theorem Wx.freeze_f {N : Nat} {l : List (Nat × PV)} {H : Heap} (n : Int) {o : PObj} (hI : n ∉ I) (hl : look H n = some o) (hone : frzOk n o.cells H) :
    Wx G I ⟨fr N l, H⟩ ⟨fr N (l.map fun x => (x.1, frz n o.cells x.2)), frzH n o.cells H⟩ := by
  have := Wx.freeze (G := G) (σ := ⟨fr N l, H⟩) hI hl hone
  rwa [fr_map N _ (by simp [frz, frz1])] at this
/-- What reads as σ reads as one of T. -/
def Wxs (G : Globs) (I : List Int) (σ : PState) (T : PState → Prop) : Prop := ∀ E : Amb, E.I = I → ∀ A a w, Sim G E A σ a w → ∃ A' τ, T τ ∧ Sim G E A' τ a w
theorem Wxs.of {T : PState → Prop} (h : Wx G I σ τ) (ht : T τ) : Wxs G I σ T := fun E hE A a w hs => by
  obtain ⟨A', h'⟩ := h E hE A a w hs
  exact ⟨A', τ, ht, h'⟩
theorem Wxs.wx {T : PState → Prop} (h : Wx G I σ τ) (k : Wxs G I τ T) : Wxs G I σ T := fun E hE A a w hs => by
  obtain ⟨A', h'⟩ := h E hE A a w hs
  exact k E hE A' a w h'
/-- A nil slice in a cell becomes an empty row. -/
theorem Wxs.adopt_c {T : PState → Prop} (m : Int) (j : Nat) (e : TypeId) (es : Nat) {o : PObj} (hl : look σ.heap m = some o) (hj : o.cells[j]? = some pnil)
    (h : ∀ n : Int, n ∉ names σ.heap → Wxs G I ⟨σ.frame, (n, ⟨e, true, es, []⟩) :: upd σ.heap m { o with cells := o.cells.set j (.row n es 0) }⟩ T) : Wxs G I σ T := by
  intro E hE A a w hs
  obtain ⟨n, hneg, hnot, hs0⟩ := hs.adopt e es
  refine h n hnot E hE A a w ?_
  have hnd : (names σ.heap).Nodup := hs.nodup
  refine ⟨hs0.ext, hs0.lt, hs0.a0, hs0.a1, hs0.globs, ?_, fun k q hk => ?_, fun k q hk => ?_, fun k q hk => ?_, hs0.defers, hs0.size, hs0.frame⟩
  · show (n :: names (upd σ.heap m _)).Nodup
    rw [names_upd]
    exact List.nodup_cons.2 ⟨hnot, hnd⟩
  · rcases List.mem_cons.1 hk with e1 | hk
    · exact hs0.objs k q (e1 ▸ List.mem_cons_self)
    · rcases mem_upd hnd hk with ⟨rfl, rfl⟩ | ⟨_, hk⟩
      · rcases hs.objs k o (look_mem hl) with ⟨_, _, g3⟩ | ⟨b, cur, fz, f, rfl, q1, q2, q3, q4⟩ | ⟨b, es, clock, rfl, q1, q2, q3, q5, q6, q4⟩ | ⟨b, x, ps, rfl, q1, q2, q3, q4, q5, q6⟩
        · rw [g3] at hj
          cases hj
        rotate_left
        · obtain ⟨_, _, _, _, hp, _⟩ := q4 _ _ hj
          cases hp
        · cases j with
          | zero =>
            rw [q4] at hj
            cases hj
          | succ j =>
            rw [q4] at hj
            have hj2 : ps[j]? = some pnil := by simpa using hj
            refine .inr (.inr (.inr ⟨b, x, ps.set j (.row n es 0), rfl, q1, q2, q3, by simp [q4], by simpa using q5, fun i u hu => ?_⟩))
            rw [List.getElem?_set] at hu
            split at hu
            · rename_i hij
              subst hij
              split at hu
              · cases hu
                obtain ⟨v, r1, r2⟩ := q6 j pnil hj2
                refine ⟨v, r1, ?_⟩
                rw [r2.val_eq]
                exact .rownil n es hneg
              · cases hu
            · exact q6 i u hu
        · refine .inr (.inl ⟨b, cur, fz, f, rfl, q1, q2, ⟨q3.1, fun k1 k2 => by simpa using q3.2 k1 k2⟩, fun i u hu => ?_⟩)
          simp only [List.getElem?_set] at hu
          split at hu
          · rename_i hij
            subst hij
            split at hu
            · cases hu
              obtain ⟨g1, g2, g3⟩ := q4 _ _ hj
              refine ⟨g1, rfl, ?_⟩
              rw [g3.val_eq]
              exact .rownil n es hneg
            · cases hu
          · exact q4 i u hu
      · exact hs.objs k q hk
  · rcases List.mem_cons.1 hk with e1 | hk
    · exact hs0.own k q (e1 ▸ List.mem_cons_self)
    · rcases mem_upd hnd hk with ⟨rfl, rfl⟩ | ⟨_, hk⟩
      · exact hs.own k o (look_mem hl)
      · exact hs.own k q hk
  · rcases List.mem_cons.1 hk with e1 | hk
    · exact hs0.neg k q (e1 ▸ List.mem_cons_self)
    · rcases mem_upd hnd hk with ⟨rfl, rfl⟩ | ⟨_, hk⟩
      · exact hs.neg k o (look_mem hl)
      · exact hs.neg k q hk
/-- What reads as the result p, with the heap H, also reads as p' with H'. -/
def Px (G : Globs) (p : PV) (H : Heap) (p' : PV) (H' : Heap) : Prop :=
  ∀ E : Amb, E.I = [] → ∀ A a w v, Sim G E A ⟨[], H⟩ a w → Rep w A p v → ∃ A', Sim G E A' ⟨[], H'⟩ a w ∧ Rep w A' p' v
theorem Px.refl (p : PV) (H : Heap) : Px G p H p H := fun _ _ A _ _ _ hs hr => ⟨A, hs, hr⟩
theorem Px.trans {p p' p'' : PV} {H H' H'' : Heap} (h : Px G p H p' H') (k : Px G p' H' p'' H'') : Px G p H p'' H'' := fun E hE A a w v hs hr => by
  obtain ⟨A', h1, h2⟩ := h E hE A a w v hs hr
  exact k E hE A' a w v h1 h2
theorem Px.freeze (p : PV) (H : Heap) (n : Int) {o : PObj} (hl : look H n = some o) (hone : frzOk n o.cells H) : Px G p H (frz n o.cells p) (frzH n o.cells H) :=
  fun E hE A a w v hs hr => Sim.frz (A' := A) (.step n o hl hone (.refl _ _)) hE hs hr
theorem Px.sub (p : PV) {H H1 : Heap} (h : Sub H1 H) : Px G p H p H1 := fun E hE A a w v hs hr => Sim.frz (A' := A) (.sub h (.refl _ _)) hE hs hr
theorem nil_list {w : World} {A : Nat → Prop} {v : Value} (es : Nat) (h : Rep w A pnil v) : Rep w A (.list es []) v := by
  rw [h.val_eq]
  exact .nil es _ _
theorem Px.nil (es : Nat) (H : Heap) : Px G pnil H (.list es []) H := fun _ _ A _ _ _ hs hr => ⟨A, hs, nil_list es hr⟩
theorem Px.nil2 (es : Nat) (q : PV) (H : Heap) : Px G (.tuple [pnil, q]) H (.tuple [.list es [], q]) H := fun _ _ A _ w v hs hr => by
  refine ⟨A, hs, ?_⟩
  cases hr with
  | tuple cs f h2 =>
    refine .tuple [.list es [], q] f fun j u hu => ?_
    cases j with
    | zero =>
      cases hu
      exact nil_list es (h2 0 pnil rfl)
    | succ j => exact h2 (j + 1) u hu
theorem PCalls.px {f : FuncId} {args : List PV} {R R' : PV → Heap → Prop} (h : PCalls P G f args [] R) (hr : ∀ res H, R res H → ∃ res' H', Px G res H res' H' ∧ R' res' H') : PCalls P G f args [] R' := by
  intro w A F vals h1 h2 h3 h4 h5 h6 h7
  refine (h w A F vals h1 h2 h3 h4 h5 h6 h7).mono ?_
  rintro e w' ⟨v, A', res, Hout, he, hR, hrep, hs⟩
  obtain ⟨res', H', hf, hR'⟩ := hr _ _ hR
  obtain ⟨A2, hs2, hrep2⟩ := hf _ rfl _ _ _ _ hs hrep
  exact ⟨v, A2, res', H', he, hR', hrep2, hs2⟩
/-- The piece of code at a path. -/
def nav : Code → List Nat → Code
  | c, [] => c
  | .seq x _, 0 :: r => nav x r
  | .seq _ y, _ :: r => nav y r
  | .block _ c, _ :: r => nav c r
  | .loop c, _ :: r => nav c r
  | .cond _ x _, 0 :: r => nav x r
  | .cond _ _ y, _ :: r => nav y r
  | c, _ => c
/-- A list by its places. -/
def tab (k : Nat) (f : Nat → PV) : List PV := (List.range k).map f
theorem tab_len (k : Nat) (f : Nat → PV) : (tab k f).length = k := by simp [tab]
theorem tab_get {k i : Nat} {f : Nat → PV} (h : i < k) : (tab k f)[i]? = some (f i) := by simp [tab, h]
theorem tab_congr {k : Nat} {f g : Nat → PV} (h : ∀ i, i < k → f i = g i) : tab k f = tab k g := by
  unfold tab
  exact List.map_congr_left fun i hi => h i (List.mem_range.1 hi)
theorem tab_set {k i : Nat} {f : Nat → PV} {v : PV} (h : i < k) : List.take i (tab k f) ++ [v] ++ List.drop (i + 1) (tab k f) = tab k (fun j => if j = i then v else f j) := by
  refine List.ext_getElem? fun j => ?_
  rcases Nat.lt_trichotomy j i with h1 | h1 | h1
  · have h2 : j < (tab k f).length := by rw [tab_len]; omega
    simp only [List.append_assoc]
    rw [List.getElem?_append_left (by rw [List.length_take, tab_len]; omega), List.getElem?_take_of_lt h1, tab_get (by omega), tab_get (by omega), if_neg (by omega)]
  · subst h1
    simp only [List.append_assoc]
    rw [List.getElem?_append_right (by rw [List.length_take, tab_len]; omega), tab_get h, if_pos rfl, List.length_take, tab_len, show j - min j k = 0 by omega]
    rfl
  · rw [List.getElem?_append_right (by rw [List.length_append, List.length_take, tab_len]; simp; omega), List.getElem?_drop, List.length_append, List.length_take, tab_len, List.length_singleton]
    rw [show i + 1 + (j - (min i k + 1)) = j by omega]
    by_cases hk : j < k
    · rw [tab_get hk, tab_get hk, if_neg (by omega)]
    · rw [List.getElem?_eq_none (by rw [tab_len]; omega), List.getElem?_eq_none (by rw [tab_len]; omega)]
theorem tab_set1 {k i : Nat} {f : Nat → PV} {v : PV} (h : i < k) : List.take i (tab k f) ++ v :: List.drop (i + 1) (tab k f) = tab k (fun j => if j = i then v else f j) := by
  rw [← tab_set h]
  simp
theorem tab_push (k : Nat) (f : Nat → PV) : tab k f ++ [f k] = tab (k + 1) f := by simp [tab, List.range_succ]
/-- Rows, one for each number below k. -/
def rowsH (ty : TypeId) (nms : Nat → Int) (cont : Nat → List PV) : Nat → Heap
  | 0 => []
  | k + 1 => (nms k, ⟨ty, true, 1, cont k⟩) :: rowsH ty nms cont k
def Inj (nms : Nat → Int) (k : Nat) : Prop := ∀ i j, i < k → j < k → nms i = nms j → i = j
/-- Only the slots of the mask m are kept. -/
def prune (m : Nat) : List (Nat × PV) → List (Nat × PV)
  | [] => []
  | (i, v) :: l => bif m / 2 ^ i % 2 == 1 then (i, v) :: prune m l else prune m l
theorem prune_nil (m : Nat) : prune m [] = [] := rfl
theorem prune_cons (m i : Nat) (v : PV) (l : List (Nat × PV)) : prune m ((i, v) :: l) = bif m / 2 ^ i % 2 == 1 then (i, v) :: prune m l else prune m l := rfl
theorem prune_not {n m j : Nat} (h : (m / 2 ^ j % 2 == 1) = false) : ∀ l : List (Nat × PV), (fr n (prune m l)).getD j .junk = .junk
  | [] => fr_getD_nil _ _
  | (i, v) :: l => by
    rw [prune_cons]
    cases hb : (m / 2 ^ i % 2 == 1) with
    | true =>
      rw [cond_true, fr_getD_cons, if_neg (by rintro rfl; rw [hb] at h; cases h)]
      exact prune_not h l
    | false =>
      rw [cond_false]
      exact prune_not h l
theorem prune_get (n m j : Nat) : ∀ l : List (Nat × PV), (fr n (prune m l)).getD j .junk = .junk ∨ (fr n (prune m l)).getD j .junk = (fr n l).getD j .junk
  | [] => .inr rfl
  | (i, v) :: l => by
    rw [prune_cons]
    cases hb : (m / 2 ^ i % 2 == 1) with
    | true =>
      rw [cond_true, fr_getD_cons, fr_getD_cons]
      by_cases h : i = j
      · rw [if_pos h, if_pos h]
        exact .inr rfl
      · rw [if_neg h, if_neg h]
        exact prune_get n m j l
    | false =>
      rw [cond_false, fr_getD_cons]
      by_cases h : i = j
      · subst h
        exact .inl (prune_not hb l)
      · rw [if_neg h]
        exact prune_get n m j l
theorem W_prune {N id : Nat} {ops : Array Oper} {d : Bool} {l : List (Nat × PV)} {H : Heap} (m : Nat) (h : W P G I (.region id ops d) ⟨fr N (prune m l), H⟩ K) : W P G I (.region id ops d) ⟨fr N l, H⟩ K := by
  intro E hE A a w hs Q hq
  exact h E hE A a w (hs.wk ⟨wkF_of _ _ (by rw [fr_length, fr_length]) fun i => by
    rcases prune_get N m i l with e | e
    · exact .inl e
    · exact .inr e.symm, fun x hx => hx, hs.nodup⟩) Q hq
variable {ty : TypeId} {nms : Nat → Int} {cont : Nat → List PV}
theorem rowsH_succ (k : Nat) : rowsH ty nms cont (k + 1) = (nms k, ⟨ty, true, 1, cont k⟩) :: rowsH ty nms cont k := rfl
theorem rowsH_zero : rowsH ty nms cont 0 = [] := rfl
theorem tab_zero (f : Nat → PV) : tab 0 f = [] := rfl
/-- one more name -/
theorem Inj.more {k : Nat} {n : Int} (h : Inj nms k) (hn : ∀ j, j < k → nms j ≠ n) : Inj (fun j => if j = k then n else nms j) (k + 1) := by
  intro p q hp hq e
  simp only at e
  split at e
  · split at e
    · omega
    · exact absurd e.symm (hn q (by omega))
  · split at e
    · exact absurd e (hn p (by omega))
    · exact h p q (by omega) (by omega) e
theorem rowsH_names {k : Nat} {n : Int} : n ∈ names (rowsH ty nms cont k) ↔ ∃ i, i < k ∧ nms i = n := by
  induction k with
  | zero => simp [rowsH, names]
  | succ k ih =>
    simp only [rowsH, names, List.map_cons, List.mem_cons] at ih ⊢
    rw [ih]
    constructor
    · rintro (rfl | ⟨i, h1, h2⟩)
      · exact ⟨k, by omega, rfl⟩
      · exact ⟨i, by omega, h2⟩
    · rintro ⟨i, h1, h2⟩
      by_cases e : i = k
      · subst e
        exact .inl h2.symm
      · exact .inr ⟨i, by omega, h2⟩
theorem rowsH_congr {nms' : Nat → Int} {cont' : Nat → List PV} {k : Nat} (h : ∀ i, i < k → nms i = nms' i ∧ cont i = cont' i) : rowsH ty nms cont k = rowsH ty nms' cont' k := by
  induction k with
  | zero => rfl
  | succ k ih => rw [rowsH, rowsH, ih fun i hi => h i (by omega), (h k (by omega)).1, (h k (by omega)).2]
theorem look_rowsH {k i : Nat} (h : Inj nms k) (hi : i < k) : look (rowsH ty nms cont k) (nms i) = some ⟨ty, true, 1, cont i⟩ := by
  induction k with
  | zero => omega
  | succ k ih =>
    simp only [rowsH, look]
    split
    · rename_i e
      rw [h k i (by omega) hi e]
    · rename_i e
      have : i ≠ k := fun e' => e (by rw [e'])
      exact ih (fun i j hi hj e => h i j (by omega) (by omega) e) (by omega)
theorem upd_rowsH {k i : Nat} {cs : List PV} (h : Inj nms k) (hi : i < k) : upd (rowsH ty nms cont k) (nms i) ⟨ty, true, 1, cs⟩ = rowsH ty nms (fun j => if j = i then cs else cont j) k := by
  induction k with
  | zero => omega
  | succ k ih =>
    simp only [rowsH, upd]
    split
    · rename_i e
      have := h k i (by omega) hi e
      subst this
      rw [if_pos rfl, rowsH_congr (nms' := nms) (cont' := fun j => if j = k then cs else cont j) fun j hj => ⟨rfl, by rw [if_neg (by omega)]⟩]
    · rename_i e
      have hik : i ≠ k := fun e' => e (by rw [e'])
      rw [ih (fun i j hi hj e => h i j (by omega) (by omega) e) (by omega), if_neg (by omega)]
/-- Values in which no object of one's own is named. -/
def stab : PV → Bool
  | .val _ | .list _ _ | .full _ _ | .iptr _ _ | .junk => true
  | _ => false
theorem stab_frz {p : PV} (h : stab p = true) (n : Int) (cs : List PV) : frz n cs p = p ∧ frz1 n cs p = p := by
  cases p <;> first | exact ⟨rfl, rfl⟩ | (simp [stab] at h)
end
attribute [irreducible] tab rowsH
end Go.PM

namespace Go.PM
open Go.RowKit
section
variable {P : Program} {G : Globs} {q : Bool} {ds : List (Option Tmp)} {l : List Oper} {σ τ : PState} {K : PState → Prop} {I : List Int}
/-- The operations l, the rest of a region of the operations l0. -/
def WL (P : Program) (G : Globs) (I : List Int) (l0 l : List Oper) (σ : PState) (K : PState → Prop) : Prop :=
  ∀ E : Amb, E.I = I → ∀ A a w, Sim G E A σ a w → ∀ Q : Exit → Act → World → Prop, (∀ σ' A' a' w', K σ' → Sim G E A' σ' a' w' → Q .normal a' w') → wpList P l0.toArray Q l a w
theorem WL_nil {l0 : List Oper} (h : K σ) : WL P G I l0 [] σ K := fun _ _ _ _ _ hs _ hq => hq _ _ _ _ h hs
theorem WL_op {l0 : List Oper} {o : Oper} {r : List Oper} (h : ∀ nx : PState → Prop, (∀ σ', WL P G I l0 r σ' K → nx σ') → @popG P G (l0.map (·.dst)) o false σ ⟨nx⟩) : WL P G I l0 (o :: r) σ K := by
  intro E hE A a w hs Q hq
  have h1 := h (fun σ' => WL P G I l0 r σ' K) fun _ h => h
  rw [show l0.map (·.dst) = l0.toArray.toList.map (·.dst) by simp] at h1
  unfold wpList
  rcases popG_case hs h1 with ⟨hw, σ1, hs1, h2⟩ | ⟨hw, σ1, hs1, h2⟩
  · rw [if_pos hw]
    exact .inl (pop_sound hs1 h2 fun σ' A' a' w' hk hs' _ => hk E hE A' a' w' hs' Q hq)
  · rw [if_neg (by simp [hw])]
    exact h2 E hE A _ w hs1 Q hq
theorem WL_x {l0 : List Oper} (h : Wx G I σ τ) (hw : WL P G I l0 l τ K) : WL P G I l0 l σ K := fun E hE A a w hs Q hq => by
  obtain ⟨A', h'⟩ := h E hE A a w hs
  exact hw E hE A' a w h' Q hq
theorem W_region_l {id : Nat} {K : Exit → PState → Prop} (h : WL P G I l l σ (K .normal)) : W P G I (.region id l.toArray false) σ K := by
  intro E hE A a w hs Q hq
  refine wp_region_lit ?_
  exact h E hE A a w hs Q fun σ' A' a' w' hk hs' => hq _ _ _ _ _ hk hs'
/-- A scope through which no jump goes. -/
def scopeK (K : Exit → PState → Prop) : Exit → PState → Prop
  | .goto _, _ => False
  | e, σ => K e σ
theorem W_scope {c : Code} {K : Exit → PState → Prop} (h : W P G I c σ (scopeK K)) : W P G I (.scope c) σ K := by
  intro E hE A a w hs Q hq
  refine wp_scope_straight (h E hE A a w hs _ fun e σ' a' w' A' hk hs' => ?_)
  cases e with
  | goto l => exact hk.elim
  | _ => exact hq _ _ _ _ _ hk hs'
theorem popsD_done (h : K σ) : popsD P G I ds l .done σ K := h
theorem popsD_stop : popsD P G I ds l .stop σ K := trivial
theorem popsD_op {i : Nat} {r : Plan} (h : ∀ nx : PState → Prop, (∀ σ', popsD P G I ds l r σ' K → nx σ') → match l[i]? with | none => False | some o => @popG P G ds o q σ ⟨nx⟩) : popsD P G I ds l (.op i q r) σ K :=
  ⟨σ, fun _ _ A _ _ hs => ⟨A, hs⟩, h _ fun _ h => h⟩
theorem popsD_alt {i : Nat} {r more : Plan} (h : ∀ nx : PState → Prop, (∀ σ', popsD P G I ds l r σ' K → nx σ') → match l[i]? with | none => False | some o => @popG P G ds o q σ ⟨nx⟩) (h2 : popsD P G I ds l more σ K) : popsD P G I ds l (.alt i q r more) σ K :=
  ⟨σ, fun _ _ A _ _ hs => ⟨A, hs⟩, h _ fun _ h => h, h2⟩
theorem popG_eq {o : Oper} {c : Cont} : @popG P G ds o q σ c = match o.guard with
  | none => pop q P G o σ c.k
  | some (g, want) => match (ds[g]?).join with
    | some s => match σ.frame.getD s .junk with
      | .val (.bool b) => @pguard b want ⟨pop q P G o (σ.put (some s) (pbool want)) c.k, c.k ((σ.put (some s) (pbool (!want))).put o.dst (.val (.tuple #[])))⟩
      | .val (.tuple _) => c.k (σ.put o.dst (.val (.tuple #[])))
      | _ => False
    | none => False := rfl
/-- A nil slice as an empty list. -/
def nl : PV → PV
  | .val (.slice none 0 0) => .list 1 []
  | p => p
theorem nl_rep {w : World} {A : Nat → Prop} {p : PV} {v : Value} (h : Rep w A p v) : Rep w A (nl p) v := by
  unfold nl
  split
  · exact nil_list 1 h
  · exact h
theorem nl_one {p : PV} (h : p.one = true) : (nl p).one = true := by
  unfold nl
  split
  · rfl
  · exact h
theorem Wx.nl_obj {n : Int} {e : TypeId} {es : Nat} {g : Bool} {cells : List PV} {f : List PV} : Wx G I ⟨f, [(n, ⟨e, g, es, cells⟩)]⟩ ⟨f, [(n, ⟨e, g, es, cells.map nl⟩)]⟩ := by
  intro E hE A a w hs
  refine ⟨A, hs.ext, hs.lt, hs.a0, hs.a1, hs.globs, hs.nodup, fun m o h => ?_, fun m o h => ?_, fun m o h => ?_, hs.defers, hs.size, hs.frame⟩
  · simp only [List.mem_singleton] at h
    cases h
    rcases hs.objs n _ List.mem_cons_self with ⟨g1, g2, g3⟩ | ⟨b, cur, fz, fv, rfl, q1, q2, q3, q4⟩ | ⟨b, es, clock, rfl, q1, q2, q3, q5, q6, q4⟩ | ⟨b, x, ps, rfl, q1, q2, q3, q4, q5, q6⟩
    · simp only at g1 g3
      exact .inl ⟨g1, g2, by simp [g3]⟩
    rotate_left
    · refine .inr (.inr (.inl ⟨b, es, clock, rfl, q1, q2, by simpa using q3, q5, q6, fun j u hu => ?_⟩))
      simp only [List.getElem?_map] at hu
      cases hj : cells[j]? with
      | none => rw [hj] at hu; cases hu
      | some p =>
        rw [hj] at hu
        cases hu
        obtain ⟨e, k, v, r1, rfl, r2, r3⟩ := q4 j p hj
        exact ⟨e, k, v, r1, rfl, r2, r3⟩
    · simp only at q4
      refine .inr (.inr (.inr ⟨b, x, ps.map nl, rfl, q1, q2, q3, by simp [q4, nl], by simpa using q5, fun j u hu => ?_⟩))
      rw [List.getElem?_map] at hu
      cases hj : ps[j]? with
      | none => rw [hj] at hu; cases hu
      | some p =>
        rw [hj] at hu
        cases hu
        obtain ⟨v, r1, r2⟩ := q6 j p hj
        exact ⟨v, r1, nl_rep r2⟩
    · refine .inr (.inl ⟨b, cur, fz, fv, rfl, q1, q2, ⟨q3.1, fun k1 k2 => by simpa using q3.2 k1 k2⟩, fun j u hu => ?_⟩)
      simp only [List.getElem?_map] at hu
      cases hj : cells[j]? with
      | none => rw [hj] at hu; cases hu
      | some p =>
        rw [hj] at hu
        cases hu
        obtain ⟨h1, h2, h3⟩ := q4 j p hj
        exact ⟨h1, nl_one h2, nl_rep h3⟩
  · simp only [List.mem_singleton] at h
    cases h
    exact hs.own n _ List.mem_cons_self
  · simp only [List.mem_singleton] at h
    cases h
    exact hs.neg n _ List.mem_cons_self
end
end Go.PM

namespace Go.PM
open Go.RowKit
/-- Values, and structures of values, in which no object of one's own is named. -/
def stabF : PV → Bool
  | .agg cs | .tuple cs => cs.all stab
  | p => stab p
theorem map_frz1_stab {n : Int} {cs : List PV} : ∀ {l : List PV}, l.all stab = true → l.map (frz1 n cs) = l
  | [], _ => rfl
  | p :: l, h => by
    simp only [List.all_cons, Bool.and_eq_true] at h
    rw [List.map_cons, (stab_frz h.1 n cs).2, map_frz1_stab h.2]
theorem stabF_frz {p : PV} (h : stabF p = true) (n : Int) (cs : List PV) : frz n cs p = p := by
  cases p <;> first
    | (simp only [stabF] at h
       simp only [frz]
       rw [map_frz1_stab h])
    | (simp only [stabF] at h
       exact (stab_frz h n cs).1)
section
variable {P : Program} {G : Globs} {l : List Oper} {K : PState → Prop} {I : List Int}
theorem WL_born {l0 : List Oper} {N d : Nat} {L : List (Nat × PV)} {n : Int} {e : TypeId} {es len : Nat} {cells : List PV} (hI : n ∉ I) (hL : L.all (fun x => stabF x.2) = true) (hc : len * es ≤ cells.length ∧ 0 < es) 
    (h : WL P G I l0 l ⟨fr N ((d, .list es (elemsOf es (cells.map nl) len)) :: L), []⟩ K) : WL P G I l0 l ⟨fr N ((d, .row n es len) :: L), [(n, ⟨e, true, es, cells⟩)]⟩ K := by
  refine WL_x (Wx.nl_obj.trans ?_) h
  have h1 := Wx.freeze_f (G := G) (I := I) (N := N) (l := (d, .row n es len) :: L) (H := [(n, ⟨e, true, es, cells.map nl⟩)]) n (o := ⟨e, true, es, cells.map nl⟩) hI (by simp only [look, if_true]) (by simp [frzOk, del])
  have e1 : L.map (fun x => (x.1, frz n (cells.map nl) x.2)) = L := by
    conv => rhs; rw [← List.map_id L]
    exact List.map_congr_left fun x hx => by rw [stabF_frz (List.all_eq_true.1 hL x hx)]; rfl
  have e2 : frz n (cells.map nl) (.row n es len) = .list es (elemsOf es (cells.map nl) len) := by
    simp only [frz, frz1, if_true, List.length_map]
    rw [if_pos hc]
  rw [List.map_cons, e1] at h1
  simp only [e2] at h1
  simpa [frzH, del] using h1
end
/-- What is still to be evaluated. -/
def Ev (p : Prop) : Prop := p
theorem Ev_in {p : Prop} (h : Ev p) : p := h
theorem Ev_out {p : Prop} (h : p) : Ev p := h
end Go.PM

namespace Go.PM
open Go.RowKit
/-- A slice of integers that came in: the first 'len' of the numbers are its elements. -/
def IsRow (k : IntKind) (w : World) (a : Option Addr) (len cap : Nat) (zs : List Int) : Prop :=
  (a = none ∧ len = 0 ∧ cap = 0 ∧ zs = []) ∨
  ∃ x, a = some x ∧ len ≤ cap ∧ cap ≤ maxLen ∧ zs.length = cap ∧ (∀ i, i < zs.length → w.cell? (x.add i) = some (.int k (zs.getD i 0))) ∧ ∀ n ∈ zs, (Lit.int k n).wf = true
/-- A slice of strings that came in. -/
def IsTexts (w : World) (a : Option Addr) (len cap : Nat) (zs : List ByteArray) : Prop :=
  (a = none ∧ len = 0 ∧ cap = 0 ∧ zs = []) ∨
  ∃ x, a = some x ∧ len ≤ cap ∧ cap ≤ maxLen ∧ zs.length = cap ∧ (∀ i, i < zs.length → w.cell? (x.add i) = some (.string (zs.getD i ByteArray.empty))) ∧ ∀ s ∈ zs, s.size ≤ maxLen
theorem cells_at {w : World} {a : Addr} {n : Nat} {f : Nat → Value} (h : ∀ i, i < n → w.cell? (a.add i) = some (f i)) (hp : 0 < n) :
    ∃ b off, a = at_ b off ∧ b < w.heap.size ∧ ∀ j, j < n → w.cell? (at_ b (off + j)) = some (f j) := by
  obtain ⟨b, off, spot⟩ := a
  have hspot : spot = none := by simpa [Addr.add] using World.cell?_spot (h 0 hp)
  subst hspot
  have h0 := h 0 hp
  rw [Go.WideShapes.add_plain] at h0
  exact ⟨b, off, rfl, cell_lt h0, fun j hj => by
    have := h j hj
    rw [Go.WideShapes.add_plain] at this
    exact this⟩
theorem flat_vals {α : Type} (f : α → Value) (hf : ∀ x, (f x).oneCell' = true) : ∀ l : List α, flat (l.map fun x => PV.val (f x)) = l.map fun x => PV.val (f x)
  | [] => rfl
  | x :: l => by
    have := flat_vals f hf l
    simp only [flat, List.map_cons, List.flatMap_cons] at this ⊢
    rw [this]
    rfl
theorem rep_vals {α : Type} (f : α → Value) (hf : ∀ x, (f x).oneCell' = true) {w : World} {a : Addr} {len cap : Nat} (l : List α) (hl : l.length = len) (hc : len ≤ cap)
    (h : ∀ i (hi : i < l.length), w.cell? (a.add i) = some (f l[i])) : Rep w (fun b => b < w.heap.size) (.list 1 (l.map fun x => .val (f x))) (.slice (some a) len cap) := by
  subst hl
  cases l with
  | nil => exact .nil _ _ _
  | cons x l =>
    obtain ⟨b, off, rfl, hb, hcell⟩ := cells_at (f := fun i => if h : i < (x :: l).length then f (x :: l)[i] else undef) (n := (x :: l).length) (fun i hi => by rw [dif_pos hi]; exact h i hi) (by simp)
    have key := Rep.list (w := w) (A := fun b => b < w.heap.size) 1 ((x :: l).map fun x => PV.val (f x)) b off cap (fun i => if h : i < (x :: l).length then f (x :: l)[i] else undef) hb (by simpa using hc)
      (fun y hy => by
        obtain ⟨z, _, rfl⟩ := List.mem_map.1 hy
        rfl)
      (fun j u hu => by
        rw [flat_vals f hf] at hu
        rw [List.getElem?_map] at hu
        cases hj : (x :: l)[j]? with
        | none => rw [hj] at hu; cases hu
        | some z =>
          rw [hj] at hu
          cases hu
          have hlt := (List.getElem?_eq_some_iff.1 hj).1
          exact ⟨hcell j hlt, hf z⟩)
      (fun j u hu => by
        rw [flat_vals f hf] at hu
        rw [List.getElem?_map] at hu
        cases hj : (x :: l)[j]? with
        | none => rw [hj] at hu; cases hu
        | some z =>
          rw [hj] at hu
          cases hu
          obtain ⟨hlt, hz⟩ := List.getElem?_eq_some_iff.1 hj
          simp only [dif_pos hlt, hz]
          exact .val _)
    simpa using key
theorem IsRow.rep {w : World} {a : Option Addr} {len cap : Nat} {zs : List Int} (h : IsRow .i64 w a len cap zs) :
    Rep w (fun b => b < w.heap.size) (.list 1 ((zs.take len).map (pint .i64))) (.slice a len cap) ∧ ((zs.take len).length : Int) ≤ 9223372036854775807 ∧ ∀ x ∈ zs.take len, -9223372036854775808 ≤ x ∧ x ≤ 9223372036854775807 := by
  rcases h with ⟨rfl, rfl, rfl, rfl⟩ | ⟨x, rfl, hl, hm, hz, hcell, hwf⟩
  · exact ⟨.nil _ _ _, by simp, by simp⟩
  · have hlen : (zs.take len).length = len := by rw [List.length_take]; omega
    refine ⟨rep_vals (.int .i64) (fun _ => rfl) _ hlen hl fun i hi => ?_, ?_, fun n hn => ?_⟩
    · rw [hcell i (by omega), List.getElem_take, List.getD_eq_getElem?_getD, List.getElem?_eq_getElem (by omega)]
      rfl
    · rw [hlen]
      have : maxLen = 9223372036854775807 := by decide
      omega
    · have := hwf n (List.mem_of_mem_take hn)
      exact bounds_i64 this
theorem IsTexts.rep {w : World} {a : Option Addr} {len cap : Nat} {zs : List ByteArray} (h : IsTexts w a len cap zs) :
    Rep w (fun b => b < w.heap.size) (.list 1 (((zs.take len).map bl).map pstr)) (.slice a len cap) ∧ (((zs.take len).map bl).length : Int) ≤ 9223372036854775807 ∧ ∀ s ∈ (zs.take len).map bl, (s.length : Int) ≤ 9223372036854775807 := by
  have hml : maxLen = 9223372036854775807 := by decide
  rcases h with ⟨rfl, rfl, rfl, rfl⟩ | ⟨x, rfl, hl, hm, hz, hcell, hwf⟩
  · exact ⟨.nil _ _ _, by simp, by simp⟩
  · have hlen : (zs.take len).length = len := by rw [List.length_take]; omega
    refine ⟨?_, ?_, fun n hn => ?_⟩
    · have := rep_vals (w := w) (a := x) (cap := cap) Value.string (fun _ => rfl) (zs.take len) hlen hl fun i hi => by
        rw [hcell i (by omega), List.getElem_take, List.getD_eq_getElem?_getD, List.getElem?_eq_getElem (by omega)]
        rfl
      rw [List.map_map, show (zs.take len).map (pstr ∘ bl) = (zs.take len).map fun x => PV.val (.string x) from List.map_congr_left fun s _ => by simp only [Function.comp_apply, pstr, mk_bl]]
      exact this
    · rw [List.length_map, hlen]
      omega
    · obtain ⟨s, hs, rfl⟩ := List.mem_map.1 hn
      have := hwf s (List.mem_of_mem_take hs)
      rw [← size_bl]
      omega
/-- where the program's variables lie -/
def globs0 : Globs := fun g => .val (.pointer (some (at_ g 0)))
theorem Ext.below {w w' : World} {B : Nat} (hB : B ≤ w.heap.size) (h : Ext (fun b => (b : Int) ∈ ([] : List Int)) w w') : Below B w w' :=
  ⟨h.os, h.tape, h.output, h.size, fun k hk => h.block k (by omega) (by simp)⟩
/-- a function that answers true -/
theorem calls_true {P : Program} {f : FuncId} {args : List PV} {w : World} {vals : Array Value} (h : PCalls P globs0 f args [] (fun res H => res = pbool true ∧ H = [])) (hs : vals.size = args.length)
    (hr : ∀ (i : Nat) (p : PV), args[i]? = some p → ∃ v : Value, vals[i]? = some v ∧ Rep w (fun b => b < w.heap.size) p v) : Calls P f vals w fun e w' => e = .returned (.bool true) ∧ Below w.heap.size w w' := by
  refine (h w (fun b => b < w.heap.size) [] vals (fun _ h => h) (fun _ => .val _) (by simp) (by simp) (by simp) hs hr).mono ?_
  rintro e w' ⟨v, A', res, Hout, rfl, ⟨rfl, rfl⟩, hrep, hs'⟩
  rw [hrep.val_eq]
  exact ⟨rfl, hs'.ext.below (Nat.le_refl _)⟩
end Go.PM
