/- The pure machine, part j: what operations that turn the world do to the simulation: new blocks, stores. Conditions: none. -/
import Derived.Test.YtaiflmbhciophaaPmi
set_option linter.unusedSimpArgs false
set_option linter.unusedVariables false
namespace Go.PM
open Go.RowKit

def names (H : Heap) : List Int := H.map (·.1)

def upd : Heap → Int → PObj → Heap
  | [], _, _ => []
  | (m, x) :: r, n, o => if m = n then (n, o) :: r else (m, x) :: upd r n o

def del : Heap → Int → Heap
  | [], _ => []
  | (m, x) :: r, n => if m = n then r else (m, x) :: del r n

theorem names_upd (n : Int) (o : PObj) : ∀ H : Heap, names (upd H n o) = names H
  | [] => rfl
  | (m, x) :: r => by
    simp only [upd]
    split
    · rename_i h; subst h; rfl
    · show m :: names (upd r n o) = m :: names r
      rw [names_upd n o r]

theorem mem_upd {n m : Int} {o x : PObj} : ∀ {H : Heap}, (names H).Nodup → (m, x) ∈ upd H n o → (m = n ∧ x = o) ∨ (m ≠ n ∧ (m, x) ∈ H)
  | [], _, h => by simp [upd] at h
  | (m', x') :: r, hn, h => by
    simp only [names, List.map_cons, List.nodup_cons] at hn
    simp only [upd] at h
    split at h
    · rename_i e
      subst e
      cases List.mem_cons.1 h with
      | inl e => cases e; exact .inl ⟨rfl, rfl⟩
      | inr e =>
        refine .inr ⟨fun e' => ?_, .tail _ e⟩
        subst e'
        exact hn.1 (List.mem_map.2 ⟨_, e, rfl⟩)
    · rename_i hne
      cases List.mem_cons.1 h with
      | inl e => cases e; exact .inr ⟨hne, .head _⟩
      | inr e =>
        rcases mem_upd hn.2 e with h | h
        · exact .inl h
        · exact .inr ⟨h.1, .tail _ h.2⟩

theorem mem_del {n m : Int} {x : PObj} : ∀ {H : Heap}, (names H).Nodup → (m, x) ∈ del H n → m ≠ n ∧ (m, x) ∈ H
  | [], _, h => by simp [del] at h
  | (m', x') :: r, hn, h => by
    simp only [names, List.map_cons, List.nodup_cons] at hn
    simp only [del] at h
    split at h
    · rename_i e
      subst e
      refine ⟨fun e' => ?_, .tail _ h⟩
      subst e'
      exact hn.1 (List.mem_map.2 ⟨_, h, rfl⟩)
    · rename_i hne
      cases List.mem_cons.1 h with
      | inl e => cases e; exact ⟨hne, .head _⟩
      | inr e => exact ⟨(mem_del hn.2 e).1, .tail _ (mem_del hn.2 e).2⟩

theorem names_del_sub (n : Int) : ∀ H : Heap, (names (del H n)).Sublist (names H)
  | [] => .slnil
  | (m, x) :: r => by
    simp only [del]
    split
    · exact List.sublist_cons_self _ _
    · exact (names_del_sub n r).cons_cons m

section
variable {P : Program} {G : Globs} {E : Amb} {A : Nat → Prop} {σ : PState} {a : Act} {w : World}

theorem Sim.put (hs : Sim G E A σ a w) (d : Option Tmp) {p : PV} {v : Value} (hr : Rep w A p v) : Sim G E A (σ.put d p) (a.put d v) w := by
  cases d with
  | none => exact hs
  | some d =>
    refine ⟨hs.ext, hs.lt, hs.a0, hs.a1, hs.globs, hs.nodup, hs.objs, hs.own, hs.neg, hs.defers, by simp [Act.put, PState.put, hs.size], fun i q hq => ?_⟩
    simp only [PState.put] at hq
    simp only [Act.put]
    rw [List.getElem?_set] at hq
    split at hq
    · rename_i e
      subst e
      split at hq
      · rename_i hlt
        cases hq
        have : d < a.tmps.size := by rw [hs.size]; exact hlt
        exact ⟨v, by simp [this], hr⟩
      · cases hq
    · rename_i hne
      obtain ⟨u, hu, hru⟩ := hs.frame i q hq
      exact ⟨u, by rw [Array.getElem?_setIfInBounds_ne (by omega)]; exact hu, hru⟩

/-- the world grows: nothing that was there turns -/
theorem Sim.grow {w' : World} (hs : Sim G E A σ a w) (he : Ext (fun _ => False) w w') : Sim G E A σ a w' := by
  have hm : ∀ b, A b → ¬ False := fun _ _ h => h
  exact ⟨hs.ext.trans he (fun _ _ h => h.elim), fun b hb => Nat.lt_of_lt_of_le (hs.lt b hb) he.size, hs.a0, hs.a1, fun g => (hs.globs g).ext he (fun _ h => h) hm, hs.nodup,
    fun n o h => (hs.objs n o h).ext he (fun _ h => h) hm (fun _ _ h => h), fun n o h b hb => by
      obtain ⟨h1, h2, h3⟩ := hs.own n o h b hb
      exact ⟨Nat.lt_of_lt_of_le h1 he.size, h2, h3⟩, hs.neg, hs.defers, hs.size, fun i p hp => by
      obtain ⟨v, hv, hr⟩ := hs.frame i p hp
      exact ⟨v, hv, hr.ext he (fun _ h => h) hm⟩⟩

/-- more memory is told to be turned by nobody: a block that is no object's -/
theorem Sim.more (hs : Sim G E A σ a w) {A' : Nat → Prop} (hA : ∀ b, A b → A' b) (h : ∀ b, A' b → A b ∨ (b < w.heap.size ∧ E.w0.heap.size ≤ b ∧ (b : Int) ∉ names σ.heap)) : Sim G E A' σ a w := by
  have he : Ext (fun _ => False) w w := Ext.refl _ _
  have hm : ∀ b, A b → ¬ False := fun _ _ h => h
  refine ⟨hs.ext, fun b hb => ?_, fun b hb => hA b (hs.a0 b hb), fun b hb => ?_, fun g => (hs.globs g).ext he hA hm, hs.nodup, fun n o h => (hs.objs n o h).ext he hA hm (fun _ _ h => h), fun n o hno b hb => ?_, hs.neg, hs.defers, hs.size,
    fun i p hp => ?_⟩
  · rcases h b hb with h | h
    · exact hs.lt b h
    · exact h.1
  · rcases h b hb with h | h
    · exact hs.a1 b h
    · exact .inr h.2.1
  · obtain ⟨h1, h2, h3⟩ := hs.own n o hno b hb
    refine ⟨h1, fun hb' => ?_, h3⟩
    rcases h b hb' with h | h
    · exact h2 h
    · exact h.2.2 (hb ▸ List.mem_map.2 ⟨_, hno, rfl⟩)
  · obtain ⟨v, hv, hr⟩ := hs.frame i p hp
    exact ⟨v, hv, hr.ext he hA hm⟩

/-- a new object -/
theorem Sim.new (hs : Sim G E A σ a w) (cur : Array Value) (fz : Nat × Nat) (o : PObj) (f : Nat → Value) (hu : unmarked fz cur.size) (hg : o.grow = true → fz = (0, 0))
    (hc : ∀ (j : Nat) (u : PV), o.cells[j]? = some u → cur[j]? = some (f j) ∧ u.one = true ∧ Rep w A u (f j)) :
    (w.heap.size : Int) ∉ names σ.heap ∧ Sim G E A ⟨σ.frame, ((w.heap.size : Int), o) :: σ.heap⟩ a (w.alloc (.cells cur o.ty fz)) := by
  have hfresh : (w.heap.size : Int) ∉ names σ.heap := by
    intro h
    obtain ⟨⟨n, o'⟩, hno, hn⟩ := List.mem_map.1 h
    have := (hs.own n o' hno w.heap.size hn).1
    omega
  have he : Ext (fun _ => False) w (w.alloc (.cells cur o.ty fz)) := Ext.alloc _ _ _
  have hg' := hs.grow he
  refine ⟨hfresh, hg'.ext, hg'.lt, hg'.a0, hg'.a1, hg'.globs, List.nodup_cons.2 ⟨hfresh, hg'.nodup⟩, fun n o' h => ?_, fun n o' h b hb => ?_, fun n o' h hn => ?_, hg'.defers, hg'.size, hg'.frame⟩
  · cases List.mem_cons.1 h with
    | inl e =>
      cases e
      exact .inr ⟨w.heap.size, cur, fz, f, rfl, heap_alloc_new w _, hu, hg, fun j u hj => ⟨(hc j u hj).1, (hc j u hj).2.1, (hc j u hj).2.2.ext he (fun _ h => h) (fun _ _ h => h)⟩⟩
    | inr e => exact hg'.objs n o' e
  · cases List.mem_cons.1 h with
    | inl e =>
      cases e
      have : b = w.heap.size := by omega
      subst this
      exact ⟨by simp, fun hA => by have := hs.lt _ hA; omega, .inl hs.ext.size⟩
    | inr e => exact hg'.own n o' e b hb
  · cases List.mem_cons.1 h with
    | inl e => cases e; omega
    | inr e => exact hg'.neg n o' e hn

theorem setCells_heap (b : Nat) (t : TypeId) (fz : Nat × Nat) : ∀ (vs : List Value) (off : Nat) (cur : Array Value) (w : World), w.heap[b]? = some (.cells cur t fz) →
    ∃ cur', (w.setCells b off vs).heap[b]? = some (.cells cur' t fz) ∧ cur'.size = cur.size ∧ ∀ j, cur'[j]? = if off ≤ j ∧ j < off + vs.length ∧ j < cur.size then vs[j - off]? else cur[j]?
  | [], off, cur, w, h => ⟨cur, h, rfl, fun j => by rw [if_neg (by simp; omega)]⟩
  | v :: vs, off, cur, w, h => by
    have h1 : (w.setCell (at_ b off) v).heap[b]? = some (.cells (cur.setIfInBounds off v) t fz) := by
      simp [World.setCell, Array.getElem?_modify, h]
    obtain ⟨cur', h2, h3, h4⟩ := setCells_heap b t fz vs (off + 1) _ _ h1
    refine ⟨cur', h2, by rw [h3]; simp, fun j => ?_⟩
    rw [h4]
    simp only [Array.size_setIfInBounds, List.length_cons]
    by_cases e : j = off
    · subst e
      rw [if_neg (by omega)]
      by_cases hj : j < cur.size
      · rw [if_pos (by omega)]; simp [hj]
      · rw [if_neg (by omega)]; simp [Nat.not_lt.1 hj]
    · by_cases hr : off + 1 ≤ j ∧ j < off + 1 + vs.length ∧ j < cur.size
      · rw [if_pos hr, if_pos (by omega)]
        rw [show j - off = (j - (off + 1)) + 1 by omega]
        simp
      · rw [if_neg hr, if_neg (by omega), Array.getElem?_setIfInBounds_ne (by omega)]

theorem Ext.setCells {M : Nat → Prop} (b : Nat) (hM : M b) : ∀ (vs : List Value) (off : Nat) (w : World), Ext M w (w.setCells b off vs)
  | [], _, w => Ext.refl _ _
  | v :: vs, off, w => (Ext.setCell w b off v hM).trans (Ext.setCells b hM vs (off + 1) _) (fun _ _ h => h)

/-- a store into an object -/
theorem Sim.store (hs : Sim G E A σ a w) {n : Int} {o : PObj} {b off : Nat} (hl : look σ.heap n = some o) (hn : n = b) {xs : List PV} {vs : List Value} (hlen : xs.length = vs.length) (hoff : off ≤ o.cells.length) (hroom : off + xs.length ≤ o.cells.length ∨ ∃ t N, w.shape? b = some (t, N) ∧ off + xs.length ≤ N)
    (hx : ∀ (j : Nat) (u : PV), xs[j]? = some u → u.one = true ∧ ∃ v, vs[j]? = some v ∧ Rep w A u v) :
    Sim G E A ⟨σ.frame, upd σ.heap n { o with cells := o.cells.take off ++ xs ++ o.cells.drop (off + xs.length) }⟩ a (w.setCells b off vs) := by
  have hmem := look_mem hl
  obtain ⟨cur, fz, f, hh, hu, hg, hc⟩ := (hs.objs n o hmem).block hn
  obtain ⟨hb1, hb2, hb3⟩ := hs.own n o hmem b hn
  have he : Ext (fun x => x = b) w (w.setCells b off vs) := Ext.setCells (M := fun x => x = b) b rfl vs off w
  have hAb : ∀ x, A x → ¬ x = b := fun x hx e => hb2 (e ▸ hx)
  obtain ⟨cur', h2, h3, h4⟩ := setCells_heap b o.ty fz vs off cur w hh
  have hcl : o.cells.length ≤ cur.size := by
    rcases Nat.lt_or_ge cur.size o.cells.length with h | h
    · have := (hc cur.size _ (List.getElem?_eq_getElem h)).1
      simp at this
    · exact h
  have hroom' : off + xs.length ≤ cur.size := by
    rcases hroom with h | ⟨t, N, hsh, h⟩
    · omega
    · simp [World.shape?, hh] at hsh
      omega
  refine ⟨hs.ext.trans he (fun x hx e => by
      subst e
      rcases hb3 with h | h
      · omega
      · exact h), fun x hx => Nat.lt_of_lt_of_le (hs.lt x hx) he.size, hs.a0, hs.a1, fun g => (hs.globs g).ext he (fun _ h => h) hAb, ?_, fun m o' h => ?_, fun m o' h x hx => ?_, fun m o' h hm => ?_, hs.defers, hs.size, fun i p hp => ?_⟩
  · show (names (upd σ.heap n _)).Nodup
    rw [names_upd]
    exact hs.nodup
  · rcases mem_upd hs.nodup h with ⟨rfl, rfl⟩ | ⟨hne, hm⟩
    · refine .inr ⟨b, cur', fz, fun j => cur'.getD j undef, hn, h2, by rw [h3]; exact hu, hg, fun j u hj => ?_⟩
      simp only at hj
      have key : ∃ v, cur'[j]? = some v ∧ u.one = true ∧ Rep w A u v := by
        rw [h4]
        by_cases hj1 : j < off
        · rw [if_neg (by omega)]
          rw [List.append_assoc, List.getElem?_append_left (by simp; omega), List.getElem?_take, if_pos hj1] at hj
          exact ⟨f j, hc j u hj⟩
        · by_cases hj2 : j < off + xs.length
          · rw [if_pos (by omega)]
            rw [List.getElem?_append_left (by simp; omega), List.getElem?_append_right (by simp; omega)] at hj
            simp only [List.length_take, Nat.min_eq_left (show off ≤ o.cells.length by omega)] at hj
            obtain ⟨h1, v, hv, hr⟩ := hx _ u hj
            exact ⟨v, hv, h1, hr⟩
          · rw [if_neg (by omega)]
            rw [List.getElem?_append_right (by simp; omega), List.getElem?_drop] at hj
            simp only [List.length_append, List.length_take, Nat.min_eq_left (show off ≤ o.cells.length by omega)] at hj
            rw [show off + xs.length + (j - (off + xs.length)) = j by omega] at hj
            exact ⟨f j, hc j u hj⟩
      obtain ⟨v, hv, h1, hr⟩ := key
      have : cur'.getD j undef = v := by simp [Array.getD_eq_getD_getElem?, hv]
      simp only [this]
      exact ⟨hv, h1, hr.ext he (fun _ h => h) hAb⟩
    · exact (hs.objs m o' hm).ext he (fun _ h => h) hAb (fun x hx e => hne (by rw [hx, e, hn]))
  · have hsz : w.heap.size ≤ (w.setCells b off vs).heap.size := he.size
    rcases mem_upd hs.nodup h with ⟨rfl, rfl⟩ | ⟨hne, hm⟩
    · have : x = b := by omega
      subst this
      exact ⟨Nat.lt_of_lt_of_le hb1 hsz, hb2, hb3⟩
    · obtain ⟨q1, q2, q3⟩ := hs.own m o' hm x hx
      exact ⟨Nat.lt_of_lt_of_le q1 hsz, q2, q3⟩
  · rcases mem_upd hs.nodup h with ⟨rfl, rfl⟩ | ⟨hne, hm'⟩
    · omega
    · exact hs.neg m o' hm' hm
  · obtain ⟨v, hv, hr⟩ := hs.frame i p hp
    exact ⟨v, hv, hr.ext he (fun _ h => h) hAb⟩

/-- an object is let go -/
theorem Sim.drop (hs : Sim G E A σ a w) (n : Int) : Sim G E A ⟨σ.frame, del σ.heap n⟩ a w :=
  ⟨hs.ext, hs.lt, hs.a0, hs.a1, hs.globs, List.Sublist.nodup (names_del_sub n σ.heap) hs.nodup, fun m o h => hs.objs m o (mem_del hs.nodup h).2, fun m o h => hs.own m o (mem_del hs.nodup h).2, fun m o h => hs.neg m o (mem_del hs.nodup h).2,
    hs.defers, hs.size, hs.frame⟩

theorem names_del_not (n : Int) : ∀ H : Heap, (names H).Nodup → n ∉ names (del H n)
  | [], _ => by simp [del, names]
  | (m, x) :: r, hn => by
    simp only [names, List.map_cons, List.nodup_cons] at hn
    simp only [del]
    split
    · rename_i e; subst e; exact hn.1
    · rename_i hne
      intro h
      cases List.mem_cons.1 h with
      | inl e => exact hne e.symm
      | inr e => exact names_del_not n r hn.2 e

theorem mem_upd_self {n : Int} {o x : PObj} : ∀ {H : Heap}, look H n = some x → (n, o) ∈ upd H n o
  | [], h => by simp [look] at h
  | (m, y) :: r, h => by
    simp only [look] at h
    simp only [upd]
    split
    · exact .head _
    · rename_i hne
      rw [if_neg hne] at h
      exact .tail _ (mem_upd_self h)

theorem mem_upd_of_del {n m : Int} {o x : PObj} : ∀ {H : Heap}, (m, x) ∈ del H n → (names H).Nodup → (m, x) ∈ upd H n o
  | [], h, _ => by simp [del] at h
  | (m', y) :: r, h, hn => by
    simp only [names, List.map_cons, List.nodup_cons] at hn
    simp only [del] at h
    simp only [upd]
    split
    · rename_i e; rw [if_pos e] at h; exact .tail _ h
    · rename_i hne
      rw [if_neg hne] at h
      cases List.mem_cons.1 h with
      | inl e => cases e; exact .head _
      | inr e => exact .tail _ (mem_upd_of_del e hn.2)

theorem Sim.front (hs : Sim G E A σ a w) {n : Int} {o x : PObj} {H : Heap} (hH : (names H).Nodup) (hl : look H n = some x) (he : σ.heap = upd H n o) : Sim G E A ⟨σ.frame, (n, o) :: del H n⟩ a w := by
  have key : ∀ m y, (m, y) ∈ ((n, o) :: del H n : Heap) → (m, y) ∈ σ.heap := by
    intro m y h
    rw [he]
    cases List.mem_cons.1 h with
    | inl e => cases e; exact mem_upd_self hl
    | inr e => exact mem_upd_of_del e hH
  exact ⟨hs.ext, hs.lt, hs.a0, hs.a1, hs.globs, List.nodup_cons.2 ⟨names_del_not n H hH, List.Sublist.nodup (names_del_sub n H) hH⟩, fun m y h => hs.objs m y (key m y h), fun m y h => hs.own m y (key m y h), fun m y h => hs.neg m y (key m y h),
    hs.defers, hs.size, hs.frame⟩

/-- What is appended: its length, its cells. -/
structure Src (P : Program) (t : TypeId) (size m : Nat) (x : Value) (news : List Value) (w : World) : Prop where
  kind : ∃ d, P.underlying t = some d ∧ (∀ k, d ≠ .int k)
  len : ∀ w', Sem.run P (Builtin.lenOf x) w' = .ok m w'
  count : news.length = m * size
  first : ∀ n, n ≤ m → ∀ w', Keeps w w' → Sem.run P (Builtin.firstCells size n x) w' = .ok (news.take (n * size)).toArray w'

theorem Src.cells {P : Program} {t : TypeId} {size m : Nat} {x : Value} {news : List Value} {w : World} (h : Src P t size m x news w) : ∀ w', Keeps w w' → Sem.run P (Builtin.firstCells size m x) w' = .ok news.toArray w' := by
  intro w' hw
  rw [h.first m (Nat.le_refl m) w' hw, ← h.count, List.take_length]

theorem keeps_drew (w : World) : Keeps w w.drew := fun _ _ => rfl

theorem run_append_grow' {t u ty e : TypeId} {i : TypeInfo} {z : Value} (ht : P.underlying t = some (.slice e)) (hi : P.info? e = some i) (hz : i.zero = some z) {s : Value} {base : Option Addr} {sLen sCap m : Nat} {x : Value}
    {olds news : List Value} (hs : s = .slice base sLen sCap) (hsrc : Src P u i.size m x news w) (hold : ∀ w', Keeps w w' → Sem.run P (Builtin.firstCells i.size sLen s) w' = .ok olds.toArray w')
    (hg : sCap < sLen + m) (h63 : sLen + m ≤ 9223372036854775807) (hfit : (sLen + m) * i.bytes ≤ 140737488355328) :
    Sem.run P (Builtin.append_ #[t, u] ty #[s, x]) w = .ok (.slice (some (at_ w.heap.size 0)) (sLen + m) (grownCap w (sLen + m) sCap e))
        (w.drew.alloc (.cells (olds.toArray ++ news.toArray ++ Builtin.zeroCells z.cells (grownCap w (sLen + m) sCap e - (sLen + m))) e)) := by
  obtain ⟨d, hd, hk⟩ := hsrc.kind
  have hn : ¬ (sLen + m ≤ sCap) := by omega
  have h63' : ¬ (9223372036854775807 < ((sLen : Int) + (m : Int))) := by omega
  have hfit' := growslice_fits (bytes := i.bytes) hg hfit
  have h48' : ¬ (281474976710656 < Builtin.nextslicecap (sLen + m) sCap * i.bytes) := by omega
  have hf := hsrc.cells w.drew (keeps_drew w)
  have ho := hold w.drew (keeps_drew w)
  have hkind : (match d with | .int _ => true | _ => false) = false := by cases d <;> first | rfl | exact absurd rfl (hk _)
  subst hs
  simp only [Builtin.append_, List.getElem?_toArray, List.getElem?_cons_zero, List.getElem?_cons_succ, Sem.run_bind, run_underlying ht, Result.andThen_ok, run_underlying hd]
  simp [hkind, sizeOf, typeInfo, zeroValue, hi, hz, hsrc.len, hn, h63', h48', Question.forced, newRow, grownCap]
  rw [ho]
  simp only [Result.andThen_ok]
  rw [hf]
  simp only [Result.andThen_ok]
  congr 2
  congr 1
  apply Array.ext'
  simp [List.append_assoc]
end
end Go.PM
