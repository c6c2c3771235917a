/- Lists of changes in memory: how a change is closed, how the list is handed back. Conditions: none. -/
import Derived.Test.YtfkhclhofdpacaaDs
import Derived.Test.YtfkhclhofdpacaaPmy
set_option linter.unusedSimpArgs false
set_option linter.unusedVariables false
namespace Go.PM

section
variable {G : Globs}

/-- The cells of changes, one after the other. -/
def flatC (l : List Chg) : List PV := l.flatMap fun c => [pint .i64 c.at_, pint .i64 c.drop, .list 1 (c.add.map pstr)]

theorem flatC_nil : flatC [] = [] := rfl
theorem flatC_len : ∀ l : List Chg, (flatC l).length = l.length * 3
  | [] => rfl
  | c :: l => by
    have := flatC_len l
    simp only [flatC, List.flatMap_cons, List.length_append, List.length_cons, List.length_nil] at this ⊢
    omega
theorem flatC_snoc (l : List Chg) (c : Chg) : flatC (l ++ [c]) = flatC l ++ [pint .i64 c.at_, pint .i64 c.drop, .list 1 (c.add.map pstr)] := by simp [flatC]
theorem flatC_stab (l : List Chg) : ∀ p ∈ flatC l, stab p = true ∧ p.one = true := by
  intro p hp
  obtain ⟨c, _, hc⟩ := List.mem_flatMap.1 hp
  simp only [List.mem_cons, List.not_mem_nil, or_false] at hc
  rcases hc with rfl | rfl | rfl <;> exact ⟨rfl, rfl⟩
theorem flatC_len3 (l : List Chg) (x y z : PV) : (flatC l ++ [x, y, z]).length = l.length * 3 + 3 := by
  rw [List.length_append, flatC_len]
  rfl
theorem flatC_get1 (l : List Chg) (x y z : PV) : (flatC l ++ [x, y, z])[l.length * 3 + 1]? = some y := by
  rw [List.getElem?_append_right (by rw [flatC_len]; omega), flatC_len, show l.length * 3 + 1 - l.length * 3 = 1 by omega]
  rfl
theorem flatC_get2 (l : List Chg) (x y z : PV) : (flatC l ++ [x, y, z])[l.length * 3 + 2]? = some z := by
  rw [List.getElem?_append_right (by rw [flatC_len]; omega), flatC_len, show l.length * 3 + 2 - l.length * 3 = 2 by omega]
  rfl
theorem flatC_set1 (l : List Chg) (x y z v : PV) : List.take (l.length * 3 + 1) (flatC l ++ [x, y, z]) ++ v :: List.drop (l.length * 3 + 1 + 1) (flatC l ++ [x, y, z]) = flatC l ++ [x, v, z] := by
  rw [List.take_append, List.drop_append, List.take_of_length_le (by rw [flatC_len]; omega), List.drop_of_length_le (by rw [flatC_len]; omega), flatC_len,
    show l.length * 3 + 1 - l.length * 3 = 1 by omega, show l.length * 3 + 1 + 1 - l.length * 3 = 2 by omega]
  simp
theorem flatC_set2 (l : List Chg) (x y z v : PV) : List.take (l.length * 3 + 2) (flatC l ++ [x, y, z]) ++ v :: List.drop (l.length * 3 + 2 + 1) (flatC l ++ [x, y, z]) = flatC l ++ [x, y, v] := by
  rw [List.take_append, List.drop_append, List.take_of_length_le (by rw [flatC_len]; omega), List.drop_of_length_le (by rw [flatC_len]; omega), flatC_len,
    show l.length * 3 + 2 - l.length * 3 = 2 by omega, show l.length * 3 + 2 + 1 - l.length * 3 = 3 by omega]
  simp
theorem flatC_set1a (l : List Chg) (x y z v : PV) : List.take (l.length * 3 + 1) (flatC l ++ [x, y, z]) ++ [v] ++ List.drop (l.length * 3 + 1 + 1) (flatC l ++ [x, y, z]) = flatC l ++ [x, v, z] := by
  rw [← flatC_set1 l x y z v]
  simp
theorem flatC_set2a (l : List Chg) (x y z v : PV) : List.take (l.length * 3 + 2) (flatC l ++ [x, y, z]) ++ [v] ++ List.drop (l.length * 3 + 2 + 1) (flatC l ++ [x, y, z]) = flatC l ++ [x, y, v] := by
  rw [← flatC_set2 l x y z v]
  simp
theorem flatC_put2 (l : List Chg) (x y z v : PV) : (flatC l ++ [x, y, z]).set (l.length * 3 + 2) v = flatC l ++ [x, y, v] := by
  rw [List.set_append_right _ _ (by rw [flatC_len]; omega), flatC_len, show l.length * 3 + 2 - l.length * 3 = 2 by omega]
  rfl

theorem map_frz_flatC (n : Int) (cs : List PV) (l : List Chg) : (flatC l).map (frz1 n cs) = flatC l := by
  conv => rhs; rw [← List.map_id (flatC l)]
  exact List.map_congr_left fun p hp => (stab_frz (flatC_stab l p hp).1 n cs).2

theorem frz1_add {A : Int} (add : List (List UInt8)) : frz1 A (add.map pstr) (.row A 1 add.length) = .list 1 (add.map pstr) := by
  simp only [frz1, if_true, elemsOf, List.length_map]
  rw [if_pos (by omega), List.take_of_length_le (by simp)]

theorem map_frz_rest {n : Int} {cs : List PV} : ∀ {rest : Heap}, (∀ x ∈ rest, ∀ u ∈ x.2.cells, stab u = true) → rest.map (fun x => (x.1, { x.2 with cells := x.2.cells.map (frz1 n cs) })) = rest
  | [], _ => rfl
  | (m, o) :: rest, h => by
    rw [List.map_cons, map_frz_rest fun x hx => h x (List.mem_cons_of_mem _ hx)]
    have : o.cells.map (frz1 n cs) = o.cells := by
      conv => rhs; rw [← List.map_id o.cells]
      exact List.map_congr_left fun p hp => (stab_frz (h (m, o) List.mem_cons_self p hp) n cs).2
    simp only [this]

theorem frzH_close {O A : Int} (hOA : O ≠ A) {t1 t2 : TypeId} (cl : List Chg) (at_ drop : Int) (add : List (List UInt8)) {rest : Heap} (hr : ∀ x ∈ rest, ∀ u ∈ x.2.cells, stab u = true) :
    frzH A (add.map pstr) ((O, ⟨t1, true, 3, flatC cl ++ [pint .i64 at_, pint .i64 drop, .row A 1 add.length]⟩) :: (A, ⟨t2, true, 1, add.map pstr⟩) :: rest) = (O, ⟨t1, true, 3, flatC (cl ++ [⟨at_, drop, add⟩])⟩) :: rest := by
  simp only [frzH, del, if_neg hOA, if_true, List.map_cons, List.map_append, map_frz_flatC, frz1_add, List.map_nil]
  rw [map_frz_rest hr, flatC_snoc]
  rfl
theorem frzOk_close {O A : Int} (hOA : O ≠ A) {t1 t2 : TypeId} (cl : List Chg) (at_ drop : Int) (add : List (List UInt8)) {rest : Heap} (hr : ∀ x ∈ rest, ∀ u ∈ x.2.cells, stab u = true ∧ u.one = true) :
    frzOk A (add.map pstr) ((O, ⟨t1, true, 3, flatC cl ++ [pint .i64 at_, pint .i64 drop, .row A 1 add.length]⟩) :: (A, ⟨t2, true, 1, add.map pstr⟩) :: rest) := by
  intro x hx u hu
  simp only [del, if_neg hOA, if_true] at hx
  rcases List.mem_cons.1 hx with rfl | hx
  · rcases List.mem_append.1 hu with hu | hu
    · rw [(stab_frz (flatC_stab cl u hu).1 _ _).2]
      exact (flatC_stab cl u hu).2
    · simp only [List.mem_cons, List.not_mem_nil, or_false] at hu
      rcases hu with rfl | rfl | rfl
      · rfl
      · rfl
      · rw [frz1_add]
        rfl
  · rw [(stab_frz (hr x hx u hu).1 _ _).2]
    exact (hr x hx u hu).2

/-- The added lines of a change are turned no more. -/
theorem Wx_close {N : Nat} {L : List (Nat × PV)} {O A : Int} (hOA : O ≠ A) {t1 t2 : TypeId} (cl : List Chg) (at_ drop : Int) (add : List (List UInt8)) {rest : Heap} (hr : ∀ x ∈ rest, ∀ u ∈ x.2.cells, stab u = true ∧ u.one = true)
    (hL : ∀ x ∈ L, frz A (add.map pstr) x.2 = x.2) :
    Wx G [] ⟨fr N L, (O, ⟨t1, true, 3, flatC cl ++ [pint .i64 at_, pint .i64 drop, .row A 1 add.length]⟩) :: (A, ⟨t2, true, 1, add.map pstr⟩) :: rest⟩ ⟨fr N L, (O, ⟨t1, true, 3, flatC (cl ++ [⟨at_, drop, add⟩])⟩) :: rest⟩ := by
  have h := Wx.freeze_f (G := G) (I := []) (N := N) (l := L) (H := (O, ⟨t1, true, 3, flatC cl ++ [pint .i64 at_, pint .i64 drop, .row A 1 add.length]⟩) :: (A, ⟨t2, true, 1, add.map pstr⟩) :: rest) A (o := ⟨t2, true, 1, add.map pstr⟩) (by simp)
    (by simp only [look, if_neg hOA, if_true]) (frzOk_close hOA cl at_ drop add hr)
  rw [frzH_close hOA cl at_ drop add fun x hx u hu => (hr x hx u hu).1] at h
  have e : L.map (fun x => (x.1, frz A (add.map pstr) x.2)) = L := by
    conv => rhs; rw [← List.map_id L]
    exact List.map_congr_left fun x hx => by rw [hL x hx]; rfl
  simp only [e] at h
  exact h
theorem Px_close {O A : Int} (hOA : O ≠ A) {t1 t2 : TypeId} (k : Nat) (cl : List Chg) (at_ drop : Int) (add : List (List UInt8)) :
    Px G (.row O 3 k) [(O, ⟨t1, true, 3, flatC cl ++ [pint .i64 at_, pint .i64 drop, .row A 1 add.length]⟩), (A, ⟨t2, true, 1, add.map pstr⟩)] (.row O 3 k) [(O, ⟨t1, true, 3, flatC (cl ++ [⟨at_, drop, add⟩])⟩)] := by
  have h := Px.freeze (G := G) (.row O 3 k) ((O, ⟨t1, true, 3, flatC cl ++ [pint .i64 at_, pint .i64 drop, .row A 1 add.length]⟩) :: (A, ⟨t2, true, 1, add.map pstr⟩) :: []) A (o := ⟨t2, true, 1, add.map pstr⟩)
    (by simp only [look, if_neg hOA, if_true]) (frzOk_close hOA cl at_ drop add (by simp))
  rw [frzH_close hOA cl at_ drop add (by simp)] at h
  have e : frz A (add.map pstr) (.row O 3 k) = .row O 3 k := by simp only [frz, frz1, if_neg hOA]
  simp only [e] at h
  exact h

theorem elems_flatC : ∀ (l : List Chg), (List.range l.length).map (fun i => PV.agg (((flatC l).drop (i * 3)).take 3)) = l.map Chg.pv
  | [] => rfl
  | c :: l => by
    rw [List.length_cons, List.range_succ_eq_map, List.map_cons, List.map_cons, List.map_map]
    congr 1
    rw [← elems_flatC l]
    refine List.map_congr_left fun i _ => ?_
    simp only [Function.comp_apply, Nat.succ_eq_add_one]
    rw [show (i + 1) * 3 = i * 3 + 3 by omega]
    show PV.agg (List.take 3 (List.drop (i * 3 + 3) ([pint .i64 c.at_, pint .i64 c.drop, .list 1 (c.add.map pstr)] ++ flatC l))) = _
    rw [List.drop_append]
    simp
/-- A list of changes is handed back. -/
theorem Px_chg {O : Int} {t1 : TypeId} (cl : List Chg) : Px G (.row O 3 cl.length) [(O, ⟨t1, true, 3, flatC cl⟩)] (.list 3 (cl.map Chg.pv)) [] := by
  have h := Px.freeze (G := G) (.row O 3 cl.length) [(O, ⟨t1, true, 3, flatC cl⟩)] O (o := ⟨t1, true, 3, flatC cl⟩) (by simp only [look, if_true]) (by simp [frzOk, del])
  have e : frz O (flatC cl) (.row O 3 cl.length) = .list 3 (cl.map Chg.pv) := by
    simp only [frz, frz1, if_true, elemsOf]
    rw [if_pos (by rw [flatC_len]; omega), if_neg (by omega), elems_flatC]
  simp only [e] at h
  simpa [frzH, del] using h
end
attribute [irreducible] flatC
end Go.PM
