/- The pure machine, part h: literals of structs and arrays; equality of structs and arrays. Conditions: none. -/
import Derived.Test.YtaiflmbhciophaaPmg
set_option linter.unusedSimpArgs false
set_option linter.unusedVariables false
namespace Go.PM
open Go.RowKit

/-- The cells that a value takes in memory. -/
def PV.mem? : PV → Option (List PV)
  | .agg cs => some cs
  | x => if x.one then some [x] else none

def Reps (w : World) (A : Nat → Prop) (cs : List PV) (vs : Array Value) : Prop :=
  vs.size = cs.length ∧ ∀ (j : Nat) (u : PV), cs[j]? = some u → ∃ v, vs[j]? = some v ∧ Rep w A u v

section
variable {P : Program} {w : World} {A : Nat → Prop} {ρ : Operand → Value} {o : Oper} {K : PV → Prop}

theorem Reps.agg {cs : List PV} {vs : Array Value} (h : Reps w A cs vs) : Rep w A (.agg cs) (.agg vs) := by
  have := Rep.agg (w := w) (A := A) cs (fun j => vs.getD j undef) (fun j u hu => by
    obtain ⟨v, hv, hr⟩ := h.2 j u hu
    rw [show vs.getD j undef = v by simp [Array.getD_eq_getD_getElem?, hv]]
    exact hr)
  have e : ((List.range cs.length).map fun j => vs.getD j undef).toArray = vs := by
    apply Array.ext
    · simp [h.1]
    · intro j h1 h2
      simp [Array.getD_eq_getD_getElem?, h2]
  rw [e] at this
  exact this

theorem one_cells {x : PV} {v : Value} (h1 : x.one = true) (h : Rep w A x v) : v.cells = #[v] ∧ v.oneCell' = true := by
  cases h <;> first | (simp [PV.one] at h1; done) | exact ⟨rfl, rfl⟩ | skip
  simp only [PV.one] at h1
  cases v <;> first | exact ⟨rfl, rfl⟩ | (simp [Value.oneCell'] at h1)

theorem mem_reps {x : PV} {v : Value} {cs : List PV} (hm : x.mem? = some cs) (h : Rep w A x v) : Reps w A cs v.cells := by
  unfold PV.mem? at hm
  split at hm
  · cases hm
    obtain ⟨f, rfl, h2⟩ := h.agg_inv
    refine ⟨by simp [Value.cells], fun j u hu => ⟨f j, ?_, h2 j u hu⟩⟩
    have : j < cs.length := (List.getElem?_eq_some_iff.1 hu).1
    simp [Value.cells, this]
  · split at hm
    · rename_i h1
      cases hm
      rw [(one_cells h1 h).1]
      refine ⟨rfl, fun j u hu => ?_⟩
      cases j with
      | zero => simp at hu; subst hu; exact ⟨v, rfl, h⟩
      | succ j => simp at hu
    · cases hm

def pfill (place : Nat → Option (Nat × Nat)) : List PV → List (Nat × PV) → Option (List PV)
  | cs, [] => some cs
  | cs, (i, x) :: r => match place i, x.mem? with
    | some (off, sz), some xs => if xs.length = sz ∧ off + sz ≤ cs.length then pfill place (cs.take off ++ xs ++ cs.drop (off + sz)) r else none
    | _, _ => none

theorem setMany_get (vs : List Value) : ∀ (k off : Nat) (cells : Array Value) (j : Nat),
    ((vs.zipIdx k).foldl (fun cs (c, j) => cs.setIfInBounds (off + j) c) cells).size = cells.size ∧
    ((vs.zipIdx k).foldl (fun cs (c, j) => cs.setIfInBounds (off + j) c) cells)[j]? =
      if off + k ≤ j ∧ j < off + k + vs.length ∧ j < cells.size then vs[j - (off + k)]? else cells[j]? := by
  induction vs with
  | nil => intro k off cells j; simp; intro h1 h2; omega
  | cons v vs ih =>
    intro k off cells j
    simp only [List.zipIdx_cons, List.foldl_cons]
    obtain ⟨h1, h2⟩ := ih (k + 1) off (cells.setIfInBounds (off + k) v) j
    refine ⟨by rw [h1]; simp, ?_⟩
    rw [h2]
    simp only [Array.size_setIfInBounds, List.length_cons]
    by_cases e : j = off + k
    · subst e
      rw [if_neg (by omega)]
      by_cases hs : off + k < cells.size
      · rw [if_pos (by omega)]; simp [hs]
      · rw [if_neg (by omega)]
        simp [Nat.not_lt.1 hs]
    · by_cases hr : off + (k + 1) ≤ j ∧ j < off + (k + 1) + vs.length ∧ j < cells.size
      · rw [if_pos hr, if_pos (by omega)]
        rw [show j - (off + k) = (j - (off + (k + 1))) + 1 by omega]
        simp
      · rw [if_neg hr, if_neg (by omega)]
        rw [Array.getElem?_setIfInBounds_ne (by omega)]

theorem fill_reps {place : Nat → Option (Nat × Nat)} {place' : Nat → Option (Nat × Nat)} (hpl : ∀ i off sz, place i = some (off, sz) → place' i = some (off, sz)) :
    ∀ (ps : List (Nat × PV)) (vs : List (Nat × Value)) (cs : List PV) (cells : Array Value) (out : List PV), Reps w A cs cells → ps.length = vs.length →
      (∀ (k : Nat) (p : Nat × PV), ps[k]? = some p → ∃ v, vs[k]? = some (p.1, v) ∧ Rep w A p.2 v) → pfill place cs ps = some out → ∃ res, Instr.fill place' cells vs = some res ∧ Reps w A out res
  | [], [], cs, cells, out, hr, _, _, h => by
    simp [pfill] at h
    subst h
    exact ⟨cells, rfl, hr⟩
  | (i, x) :: ps, (i', v) :: vs, cs, cells, out, hr, hl, hv, h => by
    obtain ⟨v', hv', hrep⟩ := hv 0 (i, x) rfl
    simp at hv'
    obtain ⟨rfl, rfl⟩ := hv'
    simp only [pfill] at h
    split at h
    · rename_i off sz xs hp hm
      split at h
      · rename_i hc
        have hx := mem_reps hm hrep
        have hsz : v.cells.size = sz := by rw [hx.1]; exact hc.1
        have hnot : ¬ ((decide (v.cells.size ≠ sz) || decide (off + v.cells.size > cells.size)) = true) := by
          simp [hsz, hr.1]; omega
        have hget := fun j => (setMany_get v.cells.toList 0 off cells j).2
        have hsize := (setMany_get v.cells.toList 0 off cells 0).1
        have hfold : v.cells.zipIdx.foldl (fun cs (c, j) => cs.setIfInBounds (off + j) c) cells = (v.cells.toList.zipIdx 0).foldl (fun cs (c, j) => cs.setIfInBounds (off + j) c) cells := by
          rw [← Array.foldl_toList]; simp [Array.toList_zipIdx]
        obtain ⟨res, h1, h2⟩ := fill_reps hpl ps vs (cs.take off ++ xs ++ cs.drop (off + sz)) (v.cells.zipIdx.foldl (fun cs (c, j) => cs.setIfInBounds (off + j) c) cells) out
          ⟨by rw [hfold, hsize, hr.1]; simp; omega, fun j u hu => by
            rw [hfold, hget j]
            simp only [Nat.add_zero, Array.length_toList, hsz]
            by_cases hj1 : j < off
            · rw [if_neg (by omega)]
              rw [List.append_assoc, List.getElem?_append_left (by simp; omega), List.getElem?_take, if_pos hj1] at hu
              exact hr.2 j u hu
            · by_cases hj2 : j < off + sz
              · rw [if_pos (by rw [hr.1]; omega)]
                rw [List.getElem?_append_left (by simp; omega), List.getElem?_append_right (by simp; omega)] at hu
                simp only [List.length_take, Nat.min_eq_left (show off ≤ cs.length by omega)] at hu
                obtain ⟨v', hv', hr'⟩ := hx.2 _ u hu
                exact ⟨v', by simpa using hv', hr'⟩
              · rw [if_neg (by omega)]
                rw [List.getElem?_append_right (by simp; omega), List.getElem?_drop] at hu
                simp only [List.length_append, List.length_take, Nat.min_eq_left (show off ≤ cs.length by omega), hc.1] at hu
                rw [show off + sz + (j - (off + sz)) = j by omega] at hu
                exact hr.2 j u hu⟩
          (by simpa using hl) (fun k p hp => by
            obtain ⟨v', hv', hr'⟩ := hv (k + 1) p (by simpa using hp)
            exact ⟨v', by simpa using hv', hr'⟩) h
        refine ⟨res, ?_, h2⟩
        simp only [Instr.fill, hpl _ _ _ hp]
        rw [if_neg hnot]
        exact h1
      · cases h
    · cases h
  | [], _ :: _, _, _, _, _, hl, _, _ => by simp at hl
  | _ :: _, [], _, _, _, _, hl, _, _ => by simp at hl

def pbuild (P : Program) (t : TypeId) (parts : List (Nat × PV)) (K : PV → Prop) : Prop :=
  match tf P t with
  | some F => match F.zero, F.ti with
    | some z, .struct fs => match pfill (fun i => (fs[i]?).map fun f => (f.1, f.2.1)) (z.cells.toList.map .val) parts with
      | some cs => K (.agg cs)
      | none => False
    | some z, .array _ _ es _ => match pfill (fun i => some (i * es, es)) (z.cells.toList.map .val) parts with
      | some cs => K (.agg cs)
      | none => False
    | _, _ => False
  | none => False

theorem places_run {fs : List Field} {l : List (Nat × Nat × Bool)} (h : fieldsOf P fs = some l) (w' : World) :
    Sem.run P (fs.mapM fun f => do pure (f.offset, ← sizeOf f.type)) w' = .ok (l.map fun f => (f.1, f.2.1)) w' := by
  induction fs generalizing l with
  | nil => simp [fieldsOf] at h; subst h; rfl
  | cons f r ih =>
    simp only [fieldsOf] at h
    split at h
    · rename_i i d l' hi hd hr
      cases h
      simp [List.mapM_cons, sizeOf, typeInfo, hi] at ih ⊢
      rw [ih hr]
      rfl
    · cases h

theorem vals_reps (vs : Array Value) : Reps w A (vs.toList.map .val) vs :=
  ⟨by simp, fun j u hu => by
    rw [List.getElem?_map] at hu
    cases hj : vs.toList[j]? with
    | none => rw [hj] at hu; cases hu
    | some c =>
      rw [hj] at hu
      cases hu
      exact ⟨c, by simpa using hj, .val c⟩⟩

theorem pbuild_sound {t : TypeId} {parts : List (Nat × Operand)} {pv : Operand → PV} (ho : o.op = .build t parts.toArray) (hp : ∀ o, Rep w A (pv o) (ρ o)) (h : pbuild P t (parts.map fun p => (p.1, pv p.2)) K) :
    ∃ r, K r ∧ Gives P w A ρ o r := by
  unfold pbuild at h
  split at h
  · rename_i F hF
    have hzero : ∀ z, F.zero = some z → ∀ w', Sem.run P (zeroValue t) w' = .ok z w' := by
      intro z hz w'
      obtain ⟨d, i, hd, hi, rfl⟩ := tf_some hF
      simp only at hz
      simp [zeroValue, typeInfo, hi, hz]
    have hvs : ∀ (k : Nat) (p : Nat × PV), (parts.map fun p => (p.1, pv p.2))[k]? = some p → ∃ v, (parts.map fun p => (p.1, ρ p.2))[k]? = some (p.1, v) ∧ Rep w A p.2 v := by
      intro k p hk
      rw [List.getElem?_map] at hk
      cases hj : parts[k]? with
      | none => rw [hj] at hk; cases hk
      | some q =>
        rw [hj] at hk
        cases hk
        exact ⟨ρ q.2, by simp [hj], hp q.2⟩
    split at h
    · rename_i z fs hz hti
      split at h
      · rename_i cs hfill
        obtain ⟨fa, hu, hfs⟩ := tf_struct hF hti
        obtain ⟨res, hf, hres⟩ := fill_reps (w := w) (A := A) (place := fun i => (fs[i]?).map fun f => (f.1, f.2.1)) (place' := fun i => (fs[i]?).map fun f => (f.1, f.2.1)) (fun _ _ _ h => h) _ (parts.map fun p => (p.1, ρ p.2)) _ z.cells cs (vals_reps z.cells) (by simp) hvs hfill
        refine ⟨_, h, _, hres.agg, fun w' _ => ?_⟩
        have hpl : Sem.run P (fa.mapM fun f => do pure (f.offset, ← sizeOf f.type)) w' = .ok ((fs.map fun f => (f.1, f.2.1)).toArray) w' := by
          rw [Array.mapM_eq_mapM_toList]
          change Sem.run P ((fa.toList.mapM _) >>= fun l => pure l.toArray) w' = _
          rw [Sem.run_bind, places_run (P := P) hfs w']
          rfl
        unfold execOp
        simp only [ho, Instr.build, Sem.run_bind, hzero z hz, Result.andThen_ok, run_underlying hu, hpl]
        simp [hf]
      · exact h.elim
    · rename_i z n e es ea hz hti
      split at h
      · rename_i cs hfill
        obtain ⟨hu, ti, d, hti', hes, _, _⟩ := tf_array hF hti
        obtain ⟨res, hf, hres⟩ := fill_reps (w := w) (A := A) (place := fun i => some (i * es, es)) (place' := fun i => some (i * es, es)) (fun _ _ _ h => h) _ (parts.map fun p => (p.1, ρ p.2)) _ z.cells cs (vals_reps z.cells) (by simp) hvs hfill
        refine ⟨_, h, _, hres.agg, fun w' _ => ?_⟩
        unfold execOp
        simp only [ho, Instr.build, Sem.run_bind, hzero z hz, Result.andThen_ok, run_underlying hu, sizeOf, typeInfo, hti', run_program]
        simp [hf, hes, hti']
      · exact h.elim
    · exact h.elim
  · exact h.elim
end
end Go.PM
