/- Spans, and lists of spans, that came in. Conditions: none but those that each names. -/
import Derived.Test.YtileofnjcediaaaDoorCx
import Derived.Test.YtileofnjcediaaaDoorCg
import Derived.Deep.Slices
import Derived.ChangeSame
set_option linter.unusedSimpArgs false
set_option linter.unusedVariables false
namespace Go.PM
open Go.Proofs Go.RowKit Go.ChangeShapes Go.WideShapes

theorem rep_span {w : World} {A : Nat → Prop} (a b : Int) : Rep w A (spn a b) (.agg #[.int .i64 a, .int .i64 b]) := by
  have key := Rep.agg (w := w) (A := A) [pint .i64 a, pint .i64 b] (fun j => if j = 0 then .int .i64 a else .int .i64 b) (fun j u hu => by
    match j, hu with
    | 0, hu => cases hu; exact .val _
    | 1, hu => cases hu; exact .val _)
  exact key

set_option maxRecDepth 100000 in
theorem open_span {H : Type} {enc : TypeId × Value → H} {w : World} {r : Reach} {base : Nat} {v : Value} {d : DataW H} {p : List MemPlace}
    (hv : Value.okWide Tryd.prog w r base 30 v) (h : DataW.Trod enc Tryd.prog w 0 (fun _ => true) true 30 v d p) : ∃ a b : Int, v = .agg #[.int .i64 a, .int .i64 b] := by
  have c3 : Tryd.prog.cellsOf 3 = 1 := by kernel_rfl
  have c30 : Tryd.prog.cellsOf 30 = 2 := by kernel_rfl
  simp only [Value.okWide, Tryd.underlying30] at hv
  obtain ⟨cs, rfl, _, _⟩ := hv
  obtain ⟨fuel, hf⟩ := h
  obtain ⟨y0, y1, n, _, hl, t0, t1⟩ := trod_struct2 Tryd.underlying30 hf
  have hl2 : cs.toList.length = 2 := hl.trans c30
  obtain ⟨L⟩ := cs
  simp only at hl2
  match L, hl2, t0, t1 with
  | [x, y], _, t0, t1 =>
    simp only [c3] at t0 t1
    obtain ⟨a, ha, _, _⟩ := DataW.trod_int Tryd.underlying3 t0
    obtain ⟨b, hb, _, _⟩ := DataW.trod_int Tryd.underlying3 t1
    have ha : x = .int .i64 a := by simpa [Value.cells] using ha
    have hb : y = .int .i64 b := by simpa [Value.cells] using hb
    exact ⟨a, b, by rw [ha, hb]⟩

theorem flat_spans_get : ∀ (cs : List (Int × Int)) (j : Nat), (flat (cs.map spv))[j]? = (cs[j / 2]?).bind fun c => [pint .i64 c.1, pint .i64 c.2][j % 2]?
  | [], j => by simp [flat]
  | c :: cs, j => by
    have e : flat ((c :: cs).map spv) = [pint .i64 c.1, pint .i64 c.2] ++ flat (cs.map spv) := by simp [flat, PV.cells]
    rw [e]
    by_cases h : j < 2
    · rw [List.getElem?_append_left (by simpa using h), Nat.div_eq_of_lt h, Nat.mod_eq_of_lt h]
      rfl
    · rw [List.getElem?_append_right (by simp; omega)]
      have h1 : j / 2 = (j - 2) / 2 + 1 := by omega
      have h2 : (j - 2) % 2 = j % 2 := by omega
      simp only [List.length_cons, List.length_nil, Nat.zero_add, Nat.reduceAdd]
      rw [flat_spans_get cs (j - 2), h1, h2, List.getElem?_cons_succ]

theorem rep_spans {w : World} {a : Addr} {len cap : Nat} (hl : len ≤ cap) (F : Nat → Int × Int)
    (h : ∀ i, i < len → w.cell? (a.add (i * 2)) = some (.int .i64 (F i).1) ∧ w.cell? (a.add (i * 2 + 1)) = some (.int .i64 (F i).2)) :
    Rep w (fun b => b < w.heap.size) (.list 2 (((List.range len).map F).map spv)) (.slice (some a) len cap) := by
  by_cases h0 : len = 0
  · subst h0
    exact .nil _ _ _
  · obtain ⟨b, off, spot⟩ := a
    have hspot : spot = none := by simpa [Addr.add] using World.cell?_spot (h 0 (by omega)).1
    subst hspot
    simp only [Go.WideShapes.add_plain] at h
    have hb : b < w.heap.size := cell_lt (h 0 (by omega)).1
    have at2 : ∀ (j : Nat) (u : PV), (flat (((List.range len).map F).map spv))[j]? = some u → j / 2 < len ∧ ((j % 2 = 0 ∧ u = pint .i64 (F (j / 2)).1) ∨ (j % 2 = 1 ∧ u = pint .i64 (F (j / 2)).2)) := by
      intro j u hu
      rw [flat_spans_get, List.getElem?_map] at hu
      cases hr : (List.range len)[j / 2]? with
      | none => rw [hr] at hu; cases hu
      | some i =>
        obtain ⟨hlt, hi⟩ := List.getElem?_eq_some_iff.1 hr
        simp only [List.getElem_range] at hi
        subst hi
        simp only [List.length_range] at hlt
        refine ⟨hlt, ?_⟩
        rw [hr] at hu
        simp only [Option.map_some, Option.bind_some] at hu
        have hm : j % 2 = 0 ∨ j % 2 = 1 := by omega
        rcases hm with hm | hm
        · rw [hm] at hu
          cases hu
          exact .inl ⟨hm, rfl⟩
        · rw [hm] at hu
          cases hu
          exact .inr ⟨hm, rfl⟩
    have key := Rep.list (w := w) (A := fun b => b < w.heap.size) 2 (((List.range len).map F).map spv) b off cap
      (fun j => if j % 2 = 0 then .int .i64 (F (j / 2)).1 else .int .i64 (F (j / 2)).2) hb (by simpa using hl)
      (fun y hy => by
        obtain ⟨z, _, rfl⟩ := List.mem_map.1 hy
        rfl)
      (fun j u hu => by
        obtain ⟨hlt, h1⟩ := at2 j u hu
        obtain ⟨c0, c1⟩ := h (j / 2) hlt
        rcases h1 with ⟨hm, rfl⟩ | ⟨hm, rfl⟩
        · rw [if_pos hm, show off + j = off + j / 2 * 2 by omega]
          exact ⟨c0, rfl⟩
        · rw [if_neg (by omega), show off + j = off + (j / 2 * 2 + 1) by omega]
          exact ⟨c1, rfl⟩)
      (fun j u hu => by
        obtain ⟨hlt, h1⟩ := at2 j u hu
        rcases h1 with ⟨hm, rfl⟩ | ⟨hm, rfl⟩
        · rw [if_pos hm]
          exact .val _
        · rw [if_neg (by omega)]
          exact .val _)
    simpa using key

set_option maxRecDepth 100000 in
theorem open_spans {H : Type} {enc : TypeId × Value → H} {w : World} {fuel : Nat} {a0 : Option Addr} {len cap : Nat} {x : DataW H × List MemPlace} (h : DataW.trod enc Tryd.prog w 0 (fun _ => true) true fuel 42 [.slice a0 len cap] = some x) :
    ∃ l : List (Int × Int), Rep w (fun b => b < w.heap.size) (.list 2 (l.map spv)) (.slice a0 len cap) ∧ (l.length : Int) ≤ 9223372036854775807 := by
  have c30 : Tryd.prog.cellsOf 30 = 2 := by kernel_rfl
  have c3 : Tryd.prog.cellsOf 3 = 1 := by kernel_rfl
  rcases Go.Deep.open_slice Tryd.underlying42 h with ⟨hcs, _⟩ | ⟨a, len', cap', m, n, D, Pl, hcs, _, hl, hm, hmm, rfl, hel⟩
  · simp only [List.cons.injEq, Value.slice.injEq, and_true] at hcs
    obtain ⟨rfl, rfl, rfl⟩ := hcs
    exact ⟨[], .nil _ _ _, by simp⟩
  · simp only [List.cons.injEq, Value.slice.injEq, and_true] at hcs
    obtain ⟨rfl, rfl, rfl⟩ := hcs
    simp only [if_true] at hmm
    subst hmm
    have each : ∀ i : Nat, ∃ p : Int × Int, i < len → w.cell? (a.add (i * 2)) = some (.int .i64 p.1) ∧ w.cell? (a.add (i * 2 + 1)) = some (.int .i64 p.2) := by
      intro i
      by_cases hi : i < len
      · obtain ⟨cs', hc, ht⟩ := hel i (by omega)
        rw [c30] at hc
        obtain ⟨_, hlen, hcell⟩ := World.cells?_some hc
        obtain ⟨y0, y1, n', hx, _, t0, t1⟩ := trod_struct2 Tryd.underlying30 ht
        match cs', hlen with
        | [v0, v1], _ =>
          simp only [c3, List.drop_zero, List.take_succ_cons, List.take_zero, List.drop_succ_cons] at t0 t1
          obtain ⟨n0, e0, _, _⟩ := DataW.trod_int Tryd.underlying3 t0
          obtain ⟨n1, e1, _, _⟩ := DataW.trod_int Tryd.underlying3 t1
          cases e0
          cases e1
          have q0 := hcell 0 (by omega)
          have q1 := hcell 1 (by omega)
          have hadd : ∀ k, (a.add (i * 2)).add k = a.add (i * 2 + k) := fun k => by
            have h3 : i * 2 = 0 ↔ i = 0 := by omega
            by_cases h1 : i = 0 <;> by_cases h2 : k = 0 <;> simp [Addr.add, h3, h1, h2, Nat.add_assoc]
          rw [hadd] at q0 q1
          exact ⟨(n0, n1), fun _ => ⟨q0, q1⟩⟩
      · exact ⟨(0, 0), fun h => absurd h hi⟩
    obtain ⟨F, hF⟩ := Classical.axiomOfChoice each
    have hml : maxLen = 9223372036854775807 := by decide
    exact ⟨(List.range len).map F, rep_spans hl F hF, by rw [List.length_map, List.length_range]; omega⟩
end Go.PM
