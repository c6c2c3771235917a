/- The pure machine, part k: append. Conditions: none. -/
import Derived.Test.YtaiflmbhciophaaPmj
set_option linter.unusedSimpArgs false
set_option linter.unusedVariables false
namespace Go.PM
open Go.RowKit

section
variable {P : Program} {G : Globs} {E : Amb} {A : Nat → Prop} {σ : PState} {a : Act} {w : World}

theorem run_append_room' {t u ty e : TypeId} {i : TypeInfo} (ht : P.underlying t = some (.slice e)) (hi : P.info? e = some i) {b sLen sCap m : Nat} {x : Value} {news : List Value} {cur : Array Value} {ft : TypeId}
    (hsrc : Src P u i.size m x news w) (hh : w.heap[b]? = some (.cells cur ft (0, 0))) (hsz : cur.size = sCap * i.size) (hg : sLen + m ≤ sCap) (h1 : ∀ v ∈ news, v.oneCell' = true) :
    Sem.run P (Builtin.append_ #[t, u] ty #[.slice (some (at_ b 0)) sLen sCap, x]) w = .ok (.slice (some (at_ b 0)) (sLen + m) sCap) (w.setCells b (sLen * i.size) news) := by
  obtain ⟨d, hd, hk⟩ := hsrc.kind
  have hf := hsrc.cells w (Keeps.refl w)
  have hkind : (match d with | .int _ => true | _ => false) = false := by cases d <;> first | rfl | exact absurd rfl (hk _)
  have hle : sLen * i.size + m * i.size ≤ cur.size := by rw [hsz, ← Nat.add_mul]; exact Nat.mul_le_mul_right _ hg
  have hst := run_storeCells_cells (P := P) b (sLen * i.size) news 0 w (fun j hj => by
      have : sLen * i.size + 0 + j < cur.size := by rw [hsrc.count] at hj; omega
      simp [World.cell?, hh]; omega) (fun j hj => by simp [World.frozen?, hh]) h1
  simp only [Builtin.append_, List.getElem?_toArray, List.getElem?_cons_zero, List.getElem?_cons_succ, Sem.run_bind, run_underlying ht, Result.andThen_ok, run_underlying hd]
  simp [hkind, sizeOf, typeInfo, hi, hsrc.len, hg, hf, at_add]
  have hst' : Sem.run P (storeCells (at_ b (sLen * i.size)) news 0) w = .ok () (w.setCells b (sLen * i.size) news) := by simpa using hst
  rw [hst']
  rfl

/-- The head of a program's own law: what append does to the simulation, for a row of one's own. -/
theorem Sim.append (hs : Sim G E A σ a w) {t u ty e : TypeId} {i : TypeInfo} {z : Value} (ht : P.underlying t = some (.slice e)) (hi : P.info? e = some i) (hz : i.zero = some z) (hzs : z.cells.size = i.size) (hsz : 0 < i.size)
    {n : Int} {len m : Nat} {o : PObj} {s x : Value} {ys : List PV} {news : List Value} (hrep : Rep w A (.row n i.size len) s) (hl : look σ.heap n = some o) (hg : o.grow = true) (hty : o.ty = e) (hes : o.es = i.size) (hlen : o.cells.length = len * i.size)
    (hsrc : Src P u i.size m x news w) (hys : ys.length = news.length) (hy : ∀ (j : Nat) (p : PV), ys[j]? = some p → p.one = true ∧ ∃ v, news[j]? = some v ∧ Rep w A p v)
    (h63 : len + m ≤ 9223372036854775807) (hfit : (len + m) * i.bytes ≤ 140737488355328) :
    ∃ v w1 n', Sem.run P (Builtin.append_ #[t, u] ty #[s, x]) w = .ok v w1 ∧ n' ∉ names (del σ.heap n) ∧ Rep w1 A (.row n' i.size (len + m)) v ∧
      Sim G E A ⟨σ.frame, (n', ⟨e, true, i.size, o.cells ++ ys⟩) :: del σ.heap n⟩ a w1 := by
  have hnot := names_del_not n σ.heap hs.nodup
  have hone : ∀ v ∈ news, v.oneCell' = true := by
    intro v hv
    obtain ⟨j, hj, rfl⟩ := List.getElem_of_mem hv
    have hj' : j < ys.length := by omega
    obtain ⟨h1, v', hv', hr⟩ := hy j _ (List.getElem?_eq_getElem hj')
    rw [List.getElem?_eq_getElem hj] at hv'
    cases hv'
    exact (one_cells h1 hr).2
  -- a new row
  have grown : ∀ (olds : List Value) (cap : Nat), olds.length = len * i.size → (∀ (j : Nat) (p : PV), o.cells[j]? = some p → ∃ v, olds[j]? = some v ∧ p.one = true ∧ Rep w A p v) → cap < len + m →
      (∀ w', Keeps w w' → Sem.run P (Builtin.firstCells i.size len s) w' = .ok olds.toArray w') → (∃ base, s = .slice base len cap) →
      ∃ v w1 n', Sem.run P (Builtin.append_ #[t, u] ty #[s, x]) w = .ok v w1 ∧ n' ∉ names (del σ.heap n) ∧ Rep w1 A (.row n' i.size (len + m)) v ∧ Sim G E A ⟨σ.frame, (n', ⟨e, true, i.size, o.cells ++ ys⟩) :: del σ.heap n⟩ a w1 := by
    rintro olds cap hol hoc hcap hload ⟨base, hsv⟩
    have hrun := run_append_grow' (P := P) (ty := ty) ht hi hz hsv hsrc hload hcap h63 hfit
    have hge := grownCap_ge w (len + m) cap e
    have hcm := grownCap_le_maxLen w (len + m) cap e (by simp only [maxLen]; omega)
    have hs0 : Sim G E A ⟨σ.frame, del σ.heap n⟩ a w.drew := (hs.drop n).grow (Ext.drew _ w)
    have hsize : (olds.toArray ++ news.toArray ++ Builtin.zeroCells z.cells (grownCap w (len + m) cap e - (len + m))).size = grownCap w (len + m) cap e * i.size := by
      simp only [Array.size_append, List.size_toArray, size_zeroCells, hzs, hol, hsrc.count, ← Nat.add_mul]
      congr 1
      omega
    obtain ⟨hfr, hsim⟩ := hs0.new (olds.toArray ++ news.toArray ++ Builtin.zeroCells z.cells (grownCap w (len + m) cap e - (len + m))) (0, 0) ⟨e, true, i.size, o.cells ++ ys⟩ (fun j => (olds ++ news).getD j undef) (fun j _ h => by omega) (fun _ => rfl)
      (fun j p hp => by
        have key : ∃ v, (olds ++ news)[j]? = some v ∧ p.one = true ∧ Rep w A p v := by
          by_cases hj : j < o.cells.length
          · rw [List.getElem?_append_left hj] at hp
            rw [List.getElem?_append_left (by omega)]
            exact hoc j p hp
          · rw [List.getElem?_append_right (by omega)] at hp
            rw [List.getElem?_append_right (by omega), hol, ← hlen]
            obtain ⟨h1, v, hv, hr⟩ := hy _ p hp
            exact ⟨v, hv, h1, hr⟩
        obtain ⟨v, hv, h1, hr⟩ := key
        have hgd : (olds ++ news).getD j undef = v := by simp [List.getD_eq_getElem?_getD, hv]
        simp only [hgd]
        refine ⟨?_, h1, hr.ext (Ext.drew (fun _ => False) w) (fun _ h => h) (fun _ _ h => h)⟩
        have hjl : j < (olds ++ news).length := (List.getElem?_eq_some_iff.1 hv).1
        have e1 : (olds.toArray ++ news.toArray) = (olds ++ news).toArray := by simp
        rw [e1, Array.getElem?_append_left (by simpa using hjl)]
        simpa using hv)
    refine ⟨_, _, (w.heap.size : Int), hrun, ?_, ?_, ?_⟩
    · exact hfr
    · refine Rep.row _ _ _ _ _ e ?_ hsize hge hcm
      have := heap_alloc_new w.drew (.cells (olds.toArray ++ news.toArray ++ Builtin.zeroCells z.cells (grownCap w (len + m) cap e - (len + m))) e)
      simp only [World.shape?]
      rw [show w.heap.size = w.drew.heap.size from rfl, this]
    · exact hsim
  rcases hrep.row_inv with ⟨hn, rfl, hsv⟩ | ⟨b, c, N, t', hn, hsv, hsh, hN, hle, hmx⟩
  · -- nil
    have hcs : o.cells = [] := List.eq_nil_of_length_eq_zero (by simpa using hlen)
    by_cases hm : m = 0
    · subst hm
      have hnews : news = [] := List.eq_nil_of_length_eq_zero (by simpa using hsrc.count)
      subst hnews
      have hys0 : ys = [] := List.eq_nil_of_length_eq_zero (by simpa using hys)
      subst hys0
      obtain ⟨d, hd, hk⟩ := hsrc.kind
      have hkind : (match d with | .int _ => true | _ => false) = false := by cases d <;> first | rfl | exact absurd rfl (hk _)
      have hf := hsrc.cells w (Keeps.refl w)
      refine ⟨.slice none 0 0, w, n, ?_, hnot, Rep.rownil n _ hn, ?_⟩
      · subst hsv
        simp only [Builtin.append_, List.getElem?_toArray, List.getElem?_cons_zero, List.getElem?_cons_succ, Sem.run_bind, run_underlying ht, Result.andThen_ok, run_underlying hd]
        simp [hkind, sizeOf, typeInfo, hi, hsrc.len, hf]
      · have hkey : ∀ k y, (k, y) ∈ ((n, ⟨e, true, i.size, o.cells ++ []⟩) :: del σ.heap n : Heap) → (k, y) ∈ σ.heap ∨ (k = n ∧ y = ⟨e, true, i.size, []⟩) := by
          intro k y h
          cases List.mem_cons.1 h with
          | inl e' => cases e'; exact .inr ⟨rfl, by rw [hcs]; rfl⟩
          | inr e' => exact .inl (mem_del hs.nodup e').2
        have hmem := look_mem hl
        refine ⟨hs.ext, hs.lt, hs.a0, hs.a1, hs.globs, List.nodup_cons.2 ⟨hnot, (hs.drop n).nodup⟩, fun k y h => ?_, fun k y h => ?_, fun k y h => ?_, hs.defers, hs.size, hs.frame⟩
        · rcases hkey k y h with h | ⟨rfl, rfl⟩
          · exact hs.objs k y h
          · exact .inl ⟨rfl, hn, rfl⟩
        · rcases hkey k y h with h | ⟨rfl, rfl⟩
          · exact hs.own k y h
          · intro b hb; omega
        · rcases hkey k y h with h | ⟨rfl, rfl⟩
          · exact hs.neg k y h
          · exact hs.neg k o hmem
    · refine grown [] 0 (by simp) (by simp [hcs]) (by omega) (fun w' _ => ?_) ⟨none, hsv⟩
      rw [hsv]
      exact run_firstCells_none w' _ _ _ _
  · subst hn
    obtain ⟨cur, fz, f, hh, hu, hgz, hc⟩ := (hs.objs _ o (look_mem hl)).block rfl
    have hfz := hgz hg
    subst hfz
    have hcur : cur.size = c * i.size := by
      simp [World.shape?, hh] at hsh
      omega
    have hoc : ∀ (j : Nat) (p : PV), o.cells[j]? = some p → ∃ v, ((List.range o.cells.length).map f)[j]? = some v ∧ p.one = true ∧ Rep w A p v := by
      intro j p hp
      have hj : j < o.cells.length := (List.getElem?_eq_some_iff.1 hp).1
      exact ⟨f j, by simp [hj], (hc j p hp).2.1, (hc j p hp).2.2⟩
    by_cases hroom : len + m ≤ c
    · have hrun := run_append_room' (P := P) (ty := ty) ht hi hsrc hh hcur hroom hone
      have hlm : len * i.size + m * i.size ≤ c * i.size := by rw [← Nat.add_mul]; exact Nat.mul_le_mul_right _ hroom
      have hst := hs.store (off := len * i.size) hl rfl hys (by omega) (.inr ⟨_, _, hsh, by rw [hys, hsrc.count, hN]; exact hlm⟩) hy
      refine ⟨_, _, (b : Int), by rw [hsv]; exact hrun, hnot, ?_, ?_⟩
      · refine Rep.row _ _ _ _ N t' ?_ hN hroom hmx
        exact (Ext.setCells (M := fun x => x = b) b rfl news _ w).shape _ _ hsh
      · have hfin := hst.front hs.nodup hl rfl
        have e1 : o.cells.take (len * i.size) ++ ys ++ o.cells.drop (len * i.size + ys.length) = o.cells ++ ys := by
          rw [← hlen, List.take_length, List.drop_of_length_le (by omega), List.append_nil]
        have e2 : ({ o with cells := o.cells.take (len * i.size) ++ ys ++ o.cells.drop (len * i.size + ys.length) } : PObj) = ⟨e, true, i.size, o.cells ++ ys⟩ := by
          rw [e1, hg, hty, hes]
        rw [e2] at hfin
        exact hfin
    · refine grown ((List.range o.cells.length).map f) c (by simp [hlen]) hoc (by omega) (fun w' hw => ?_) ⟨_, hsv⟩
      rw [hsv]
      have := run_firstCells_some (P := P) w' i.size len (at_ b 0) len c ((List.range o.cells.length).map f) (by simp [hlen]) (fun j v hv => by
        rw [at_add, Nat.zero_add]
        have hj : j < o.cells.length := by
          have := (List.getElem?_eq_some_iff.1 hv).1
          simpa using this
        have hp := List.getElem?_eq_getElem hj
        simp [hj] at hv
        subst hv
        exact hw.cell (by rw [cell_of_block hh]; exact (hc j _ hp).1))
      exact this
end
end Go.PM
