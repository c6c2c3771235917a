/- Lists of changes that came in, as lists; the bound on what comes in. Conditions: none but those that each names. -/
import Derived.Test.YtfkhclhofdpacaaRows
import Derived.Test.YtfkhclhofdpacaaDr
import Derived.Test.YtfkhclhofdpacaaDza
import Derived.Deep.Slices
import Derived.Deep.Strs
import Derived.SliceStrings
set_option linter.unusedSimpArgs false
set_option linter.unusedVariables false
namespace Go.PM
open Go.Proofs Go.RowKit Go.ChangeShapes Go.WideShapes
open Go.Proofs.Ytfkhclhofdpacaa (Rows.uptoBulk Rows.uptoBulkAll)

theorem bulk_one {H : Type} (d : DataW H) : 1 ≤ Rows.uptoBulk d := by
  cases d with
  | lit l => cases l <;> simp [Rows.uptoBulk]
  | nil => simp [Rows.uptoBulk]
  | ptr d => simp [Rows.uptoBulk]
  | slice elems spare => simp [Rows.uptoBulk]
  | agg parts => simp [Rows.uptoBulk]
  | iface t d => simp [Rows.uptoBulk]
  | map entries => simp [Rows.uptoBulk]
  | held h => simp [Rows.uptoBulk]
theorem bulk_len {H : Type} : ∀ l : List (DataW H), l.length ≤ Rows.uptoBulkAll l
  | [] => by simp [Rows.uptoBulkAll]
  | x :: r => by
    have := bulk_one x
    have := bulk_len r
    simp only [Rows.uptoBulkAll, List.length_cons]
    omega

theorem flat_chgs_get : ∀ (cs : List Chg) (j : Nat), (flat (cs.map Chg.pv))[j]? = (cs[j / 3]?).bind fun c => [pint .i64 c.at_, pint .i64 c.drop, PV.list 1 (c.add.map pstr)][j % 3]?
  | [], j => by simp [flat]
  | c :: cs, j => by
    have e : flat ((c :: cs).map Chg.pv) = [pint .i64 c.at_, pint .i64 c.drop, PV.list 1 (c.add.map pstr)] ++ flat (cs.map Chg.pv) := by simp [flat, PV.cells]
    rw [e]
    by_cases h : j < 3
    · rw [List.getElem?_append_left (by simpa using h), Nat.div_eq_of_lt h, Nat.mod_eq_of_lt h]
      rfl
    · rw [List.getElem?_append_right (by simp; omega)]
      have h1 : j / 3 = (j - 3) / 3 + 1 := by omega
      have h2 : (j - 3) % 3 = j % 3 := by omega
      simp only [List.length_cons, List.length_nil, Nat.zero_add, Nat.reduceAdd]
      rw [flat_chgs_get cs (j - 3), h1, h2, List.getElem?_cons_succ]

/-- What is known of the change at a place. -/
def ChgAt {H : Type} (w : World) (a : Addr) (D : DataW H) (i : Nat) (p : Chg × Value) : Prop :=
  w.cell? (a.add (i * 3)) = some (.int .i64 p.1.at_) ∧ w.cell? (a.add (i * 3 + 1)) = some (.int .i64 p.1.drop) ∧ w.cell? (a.add (i * 3 + 2)) = some p.2 ∧
    Rep w (fun b => b < w.heap.size) (.list 1 (p.1.add.map pstr)) p.2 ∧ p.1.add.length + 1 ≤ Rows.uptoBulk D

theorem adds_bulk {H : Type} (D : Nat → DataW H) (F : Nat → Chg × Value) : ∀ (k : Nat), (∀ i, i < k → (F i).1.add.length + 1 ≤ Rows.uptoBulk (D i)) →
    addsL ((List.range k).map fun i => (F i).1) + k ≤ Rows.uptoBulkAll ((List.range k).map D)
  | 0, _ => by simp [addsL]
  | k + 1, h => by
    have ih := adds_bulk D F k fun i hi => h i (by omega)
    have hk := h k (by omega)
    have app : ∀ l r : List (DataW H), Rows.uptoBulkAll (l ++ r) = Rows.uptoBulkAll l + Rows.uptoBulkAll r := by
      intro l r
      induction l with
      | nil => simp [Rows.uptoBulkAll]
      | cons x l ih => simp only [List.cons_append, Rows.uptoBulkAll, ih]; omega
    have aapp : ∀ l r : List Chg, addsL (l ++ r) = addsL l + addsL r := fun l r => by simp [addsL]
    rw [List.range_succ, List.map_append, List.map_append, app, aapp]
    have e1 : addsL ([k].map fun i => (F i).1) = (F k).1.add.length := by simp [addsL]
    have e2 : Rows.uptoBulkAll ([k].map D) = Rows.uptoBulk (D k) := by simp [Rows.uptoBulkAll]
    omega

theorem rep_chgs {w : World} {a : Addr} {len cap : Nat} (hl : len ≤ cap) (F : Nat → Chg × Value)
    (h : ∀ i, i < len → w.cell? (a.add (i * 3)) = some (.int .i64 (F i).1.at_) ∧ w.cell? (a.add (i * 3 + 1)) = some (.int .i64 (F i).1.drop) ∧ w.cell? (a.add (i * 3 + 2)) = some (F i).2 ∧
      Rep w (fun b => b < w.heap.size) (.list 1 ((F i).1.add.map pstr)) (F i).2) :
    Rep w (fun b => b < w.heap.size) (.list 3 (((List.range len).map fun i => (F i).1).map Chg.pv)) (.slice (some a) len cap) := by
  by_cases h0 : len = 0
  · subst h0
    exact .nil _ _ _
  · obtain ⟨b, off, spot⟩ := a
    have hspot : spot = none := by simpa [Addr.add] using World.cell?_spot (h 0 (by omega)).1
    subst hspot
    simp only [Go.WideShapes.add_plain] at h
    have hb : b < w.heap.size := cell_lt (h 0 (by omega)).1
    have key := Rep.list (w := w) (A := fun b => b < w.heap.size) 3 (((List.range len).map fun i => (F i).1).map Chg.pv) b off cap
      (fun j => if j % 3 = 0 then .int .i64 (F (j / 3)).1.at_ else if j % 3 = 1 then .int .i64 (F (j / 3)).1.drop else (F (j / 3)).2) hb (by simpa using hl)
      (fun y hy => by
        obtain ⟨z, _, rfl⟩ := List.mem_map.1 hy
        rfl)
      (fun j u hu => by
        rw [flat_chgs_get, List.getElem?_map] at hu
        cases hr : (List.range len)[j / 3]? with
        | none => rw [hr] at hu; cases hu
        | some i =>
          obtain ⟨hlt, hi⟩ := List.getElem?_eq_some_iff.1 hr
          simp only [List.getElem_range] at hi
          subst hi
          simp only [List.length_range] at hlt
          obtain ⟨c0, c1, c2, hrep⟩ := h (j / 3) hlt
          rw [hr] at hu
          simp only [Option.map_some, Option.bind_some] at hu
          have hm : j % 3 = 0 ∨ j % 3 = 1 ∨ j % 3 = 2 := by omega
          rcases hm with hm | hm | hm
          · rw [hm] at hu
            cases hu
            rw [if_pos hm, show off + j = off + j / 3 * 3 by omega]
            exact ⟨c0, rfl⟩
          · rw [hm] at hu
            cases hu
            rw [if_neg (by omega), if_pos hm, show off + j = off + (j / 3 * 3 + 1) by omega]
            exact ⟨c1, rfl⟩
          · rw [hm] at hu
            cases hu
            rw [if_neg (by omega), if_neg (by omega), show off + j = off + (j / 3 * 3 + 2) by omega]
            exact ⟨c2, rfl⟩)
      (fun j u hu => by
        rw [flat_chgs_get, List.getElem?_map] at hu
        cases hr : (List.range len)[j / 3]? with
        | none => rw [hr] at hu; cases hu
        | some i =>
          obtain ⟨hlt, hi⟩ := List.getElem?_eq_some_iff.1 hr
          simp only [List.getElem_range] at hi
          subst hi
          simp only [List.length_range] at hlt
          obtain ⟨c0, c1, c2, hrep⟩ := h (j / 3) hlt
          rw [hr] at hu
          simp only [Option.map_some, Option.bind_some] at hu
          have hm : j % 3 = 0 ∨ j % 3 = 1 ∨ j % 3 = 2 := by omega
          rcases hm with hm | hm | hm
          · rw [hm] at hu
            cases hu
            rw [if_pos hm]
            exact .val _
          · rw [hm] at hu
            cases hu
            rw [if_neg (by omega), if_pos hm]
            exact .val _
          · rw [hm] at hu
            cases hu
            rw [if_neg (by omega), if_neg (by omega)]
            exact hrep)
    simpa using key

theorem open_chgs {H : Type} {enc : TypeId × Value → H} {w : World} {fuel : Nat} {a0 : Option Addr} {len cap : Nat} {x : DataW H × List MemPlace} (h : DataW.trod enc Try.prog w 0 (fun _ => true) true fuel 27 [.slice a0 len cap] = some x)
    (hk : Rows.uptoBulk x.1 ≤ 1048576) :
    ∃ cs : List Chg, Rep w (fun b => b < w.heap.size) (.list 3 (cs.map Chg.pv)) (.slice a0 len cap) ∧ cs.length ≤ 1048576 ∧ (∀ c ∈ cs, c.add.length ≤ 1048576) ∧ addsL cs ≤ 1048576 := by
  have c47 : Try.prog.cellsOf 47 = 3 := by kernel_rfl
  have c3 : Try.prog.cellsOf 3 = 1 := by kernel_rfl
  have c22 : Try.prog.cellsOf 22 = 1 := by kernel_rfl
  have c9 : Try.prog.cellsOf 9 = 1 := by kernel_rfl
  rcases Go.Deep.open_slice Try.underlying27 h with ⟨hcs, _⟩ | ⟨a, len', cap', m, n, D, Pl, hcs, _, hl, hm, hmm, rfl, hel⟩
  · simp only [List.cons.injEq, Value.slice.injEq, and_true] at hcs
    obtain ⟨rfl, rfl, rfl⟩ := hcs
    exact ⟨[], .nil _ _ _, by simp, by simp, by simp [addsL]⟩
  · simp only [List.cons.injEq, Value.slice.injEq, and_true] at hcs
    obtain ⟨rfl, rfl, rfl⟩ := hcs
    simp only [if_true] at hmm
    subst hmm
    have each : ∀ i : Nat, ∃ p : Chg × Value, i < len → ChgAt w a (D i) i p := by
      intro i
      by_cases hi : i < len
      · obtain ⟨cs', hc, ht⟩ := hel i (by omega)
        rw [c47] at hc
        obtain ⟨_, hlen, hcell⟩ := World.cells?_some hc
        obtain ⟨y0, y1, y2, n', hx, _, t0, t1, t2⟩ := Go.Deep.trod_struct3 Try.underlying47 ht
        match cs', hlen with
        | [v0, v1, v2], _ =>
          simp only [c3, c22, List.drop_zero, List.take_succ_cons, List.take_zero, List.drop_succ_cons] at t0 t1 t2
          obtain ⟨n0, e0, _, _⟩ := DataW.trod_int Try.underlying3 t0
          obtain ⟨n1, e1, _, _⟩ := DataW.trod_int Try.underlying3 t1
          cases e0
          cases e1
          have q0 := hcell 0 (by omega)
          have q1 := hcell 1 (by omega)
          have q2 := hcell 2 (by omega)
          have hadd : ∀ k, (a.add (i * 3)).add k = a.add (i * 3 + k) := fun k => by
            have h3 : i * 3 = 0 ↔ i = 0 := by omega
            by_cases h1 : i = 0 <;> by_cases h2 : k = 0 <;> simp [Addr.add, h3, h1, h2, Nat.add_assoc]
          rw [hadd] at q0 q1 q2
          have hbulk : Rows.uptoBulk y2.1 ≤ Rows.uptoBulk (D i) := by
            have : D i = .agg [y0.1, y1.1, y2.1] := by
              have := congrArg Prod.fst hx
              exact this
            rw [this]
            simp only [Rows.uptoBulk, Rows.uptoBulkAll]
            omega
          rcases open_strings Try.underlying22 Try.underlying9 c9 t2 with ⟨hn, hy⟩ | ⟨a2, l2, cap2, ss, hn, _, hl2, hm2, hz, hy, hc2, hw2⟩
          · cases hn
            refine ⟨(⟨n0, n1, []⟩, .slice none 0 0), fun _ => ⟨q0, q1, q2, .nil _ _ _, ?_⟩⟩
            have := bulk_one (D i)
            simpa using this
          · cases hn
            have ht : IsTexts w (some a2) l2 cap2 ss := .inr ⟨a2, rfl, hl2, hm2, by simpa using hz, hc2, hw2⟩
            refine ⟨(⟨n0, n1, (ss.take l2).map bl⟩, .slice (some a2) l2 cap2), fun _ => ⟨q0, q1, q2, ht.rep.1, ?_⟩⟩
            have hs : y2.1 = .slice (strs (ss.take l2)) (strs (ss.drop l2)) := congrArg Prod.fst hy
            rw [hs] at hbulk
            simp only [Rows.uptoBulk] at hbulk
            have h1 := bulk_len (H := H) (strs (ss.take l2))
            have h2 : (strs (H := H) (ss.take l2)).length = (ss.take l2).length := by simp [strs]
            simp only [List.length_map]
            omega
      · exact ⟨(⟨0, 0, []⟩, undef), fun h => absurd h hi⟩
    obtain ⟨F, hF⟩ := Classical.axiomOfChoice each
    simp only [Rows.uptoBulk] at hk
    have hsum := adds_bulk D F len fun i hi => (hF i hi).2.2.2.2
    refine ⟨(List.range len).map fun i => (F i).1, rep_chgs hl F fun i hi => ⟨(hF i hi).1, (hF i hi).2.1, (hF i hi).2.2.1, (hF i hi).2.2.2.1⟩, ?_, ?_, ?_⟩
    · simp only [List.length_map, List.length_range]
      omega
    · intro c hc
      obtain ⟨i, hi, rfl⟩ := List.mem_map.1 hc
      have hi' := List.mem_range.1 hi
      have h1 := (hF i hi').2.2.2.2
      have h2 : Rows.uptoBulk (D i) ≤ Rows.uptoBulkAll ((List.range len).map D) := by
        have : ∀ (l : List (DataW H)) (d : DataW H), d ∈ l → Rows.uptoBulk d ≤ Rows.uptoBulkAll l := by
          intro l d hd
          induction l with
          | nil => cases hd
          | cons x r ih =>
            simp only [Rows.uptoBulkAll]
            cases List.mem_cons.1 hd with
            | inl e => subst e; omega
            | inr e => have := ih e; omega
        exact this _ _ (List.mem_map_of_mem hi)
      omega
    · omega
end Go.PM
