/- Slices that came in, as lists; what a function's contract says of its call. Conditions: none but those that each names. -/
import Derived.Test.YtaiflmbhciophaaPmz
import Derived.OpenShut
import Derived.Below
set_option linter.unusedSimpArgs false
set_option linter.unusedVariables false
namespace Go.PM
open Go.RowKit

/-- A slice of integers that came in: the first 'len' of the numbers are its elements. -/
def IsRow (k : IntKind) (w : World) (a : Option Addr) (len cap : Nat) (zs : List Int) : Prop :=
  (a = none ∧ len = 0 ∧ cap = 0 ∧ zs = []) ∨
  ∃ x, a = some x ∧ len ≤ cap ∧ cap ≤ maxLen ∧ zs.length = cap ∧ (∀ i, i < zs.length → w.cell? (x.add i) = some (.int k (zs.getD i 0))) ∧ ∀ n ∈ zs, (Lit.int k n).wf = true
/-- A slice of strings that came in. -/
def IsTexts (w : World) (a : Option Addr) (len cap : Nat) (zs : List ByteArray) : Prop :=
  (a = none ∧ len = 0 ∧ cap = 0 ∧ zs = []) ∨
  ∃ x, a = some x ∧ len ≤ cap ∧ cap ≤ maxLen ∧ zs.length = cap ∧ (∀ i, i < zs.length → w.cell? (x.add i) = some (.string (zs.getD i ByteArray.empty))) ∧ ∀ s ∈ zs, s.size ≤ maxLen

theorem cells_at {w : World} {a : Addr} {n : Nat} {f : Nat → Value} (h : ∀ i, i < n → w.cell? (a.add i) = some (f i)) (hp : 0 < n) :
    ∃ b off, a = at_ b off ∧ b < w.heap.size ∧ ∀ j, j < n → w.cell? (at_ b (off + j)) = some (f j) := by
  obtain ⟨b, off, spot⟩ := a
  have hspot : spot = none := by simpa [Addr.add] using World.cell?_spot (h 0 hp)
  subst hspot
  have h0 := h 0 hp
  rw [Go.WideShapes.add_plain] at h0
  exact ⟨b, off, rfl, cell_lt h0, fun j hj => by
    have := h j hj
    rw [Go.WideShapes.add_plain] at this
    exact this⟩

theorem flat_vals {α : Type} (f : α → Value) (hf : ∀ x, (f x).oneCell' = true) : ∀ l : List α, flat (l.map fun x => PV.val (f x)) = l.map fun x => PV.val (f x)
  | [] => rfl
  | x :: l => by
    have := flat_vals f hf l
    simp only [flat, List.map_cons, List.flatMap_cons] at this ⊢
    rw [this]
    rfl

theorem rep_vals {α : Type} (f : α → Value) (hf : ∀ x, (f x).oneCell' = true) {w : World} {a : Addr} {len cap : Nat} (l : List α) (hl : l.length = len) (hc : len ≤ cap)
    (h : ∀ i (hi : i < l.length), w.cell? (a.add i) = some (f l[i])) : Rep w (fun b => b < w.heap.size) (.list 1 (l.map fun x => .val (f x))) (.slice (some a) len cap) := by
  subst hl
  cases l with
  | nil => exact .nil _ _ _
  | cons x l =>
    obtain ⟨b, off, rfl, hb, hcell⟩ := cells_at (f := fun i => if h : i < (x :: l).length then f (x :: l)[i] else undef) (n := (x :: l).length) (fun i hi => by rw [dif_pos hi]; exact h i hi) (by simp)
    have key := Rep.list (w := w) (A := fun b => b < w.heap.size) 1 ((x :: l).map fun x => PV.val (f x)) b off cap (fun i => if h : i < (x :: l).length then f (x :: l)[i] else undef) hb (by simpa using hc)
      (fun y hy => by
        obtain ⟨z, _, rfl⟩ := List.mem_map.1 hy
        rfl)
      (fun j u hu => by
        rw [flat_vals f hf] at hu
        rw [List.getElem?_map] at hu
        cases hj : (x :: l)[j]? with
        | none => rw [hj] at hu; cases hu
        | some z =>
          rw [hj] at hu
          cases hu
          have hlt := (List.getElem?_eq_some_iff.1 hj).1
          exact ⟨hcell j hlt, hf z⟩)
      (fun j u hu => by
        rw [flat_vals f hf] at hu
        rw [List.getElem?_map] at hu
        cases hj : (x :: l)[j]? with
        | none => rw [hj] at hu; cases hu
        | some z =>
          rw [hj] at hu
          cases hu
          obtain ⟨hlt, hz⟩ := List.getElem?_eq_some_iff.1 hj
          simp only [dif_pos hlt, hz]
          exact .val _)
    simpa using key

theorem IsRow.rep {w : World} {a : Option Addr} {len cap : Nat} {zs : List Int} (h : IsRow .i64 w a len cap zs) :
    Rep w (fun b => b < w.heap.size) (.list 1 ((zs.take len).map (pint .i64))) (.slice a len cap) ∧ ((zs.take len).length : Int) ≤ 9223372036854775807 ∧ ∀ x ∈ zs.take len, -9223372036854775808 ≤ x ∧ x ≤ 9223372036854775807 := by
  rcases h with ⟨rfl, rfl, rfl, rfl⟩ | ⟨x, rfl, hl, hm, hz, hcell, hwf⟩
  · exact ⟨.nil _ _ _, by simp, by simp⟩
  · have hlen : (zs.take len).length = len := by rw [List.length_take]; omega
    refine ⟨rep_vals (.int .i64) (fun _ => rfl) _ hlen hl fun i hi => ?_, ?_, fun n hn => ?_⟩
    · rw [hcell i (by omega), List.getElem_take, List.getD_eq_getElem?_getD, List.getElem?_eq_getElem (by omega)]
      rfl
    · rw [hlen]
      have : maxLen = 9223372036854775807 := by decide
      omega
    · have := hwf n (List.mem_of_mem_take hn)
      exact bounds_i64 this
theorem IsTexts.rep {w : World} {a : Option Addr} {len cap : Nat} {zs : List ByteArray} (h : IsTexts w a len cap zs) :
    Rep w (fun b => b < w.heap.size) (.list 1 (((zs.take len).map bl).map pstr)) (.slice a len cap) ∧ (((zs.take len).map bl).length : Int) ≤ 9223372036854775807 ∧ ∀ s ∈ (zs.take len).map bl, (s.length : Int) ≤ 9223372036854775807 := by
  have hml : maxLen = 9223372036854775807 := by decide
  rcases h with ⟨rfl, rfl, rfl, rfl⟩ | ⟨x, rfl, hl, hm, hz, hcell, hwf⟩
  · exact ⟨.nil _ _ _, by simp, by simp⟩
  · have hlen : (zs.take len).length = len := by rw [List.length_take]; omega
    refine ⟨?_, ?_, fun n hn => ?_⟩
    · have := rep_vals (w := w) (a := x) (cap := cap) Value.string (fun _ => rfl) (zs.take len) hlen hl fun i hi => by
        rw [hcell i (by omega), List.getElem_take, List.getD_eq_getElem?_getD, List.getElem?_eq_getElem (by omega)]
        rfl
      rw [List.map_map, show (zs.take len).map (pstr ∘ bl) = (zs.take len).map fun x => PV.val (.string x) from List.map_congr_left fun s _ => by simp only [Function.comp_apply, pstr, mk_bl]]
      exact this
    · rw [List.length_map, hlen]
      omega
    · obtain ⟨s, hs, rfl⟩ := List.mem_map.1 hn
      have := hwf s (List.mem_of_mem_take hs)
      rw [← size_bl]
      omega

/-- where the program's variables lie -/
def globs0 : Globs := fun g => .val (.pointer (some (at_ g 0)))

theorem Ext.below {w w' : World} {B : Nat} (hB : B ≤ w.heap.size) (h : Ext (fun b => (b : Int) ∈ ([] : List Int)) w w') : Below B w w' :=
  ⟨h.os, h.tape, h.output, h.size, fun k hk => h.block k (by omega) (by simp)⟩

/-- a function that answers true -/
theorem calls_true {P : Program} {f : FuncId} {args : List PV} {w : World} {vals : Array Value} (h : PCalls P globs0 f args [] (fun res H => res = pbool true ∧ H = [])) (hs : vals.size = args.length)
    (hr : ∀ (i : Nat) (p : PV), args[i]? = some p → ∃ v : Value, vals[i]? = some v ∧ Rep w (fun b => b < w.heap.size) p v) : Calls P f vals w fun e w' => e = .returned (.bool true) ∧ Below w.heap.size w w' := by
  refine (h w (fun b => b < w.heap.size) [] vals (fun _ h => h) (fun _ => .val _) (by simp) (by simp) (by simp) hs hr).mono ?_
  rintro e w' ⟨v, A', res, Hout, rfl, ⟨rfl, rfl⟩, hrep, hs'⟩
  rw [hrep.val_eq]
  exact ⟨rfl, hs'.ext.below (Nat.le_refl _)⟩
end Go.PM
