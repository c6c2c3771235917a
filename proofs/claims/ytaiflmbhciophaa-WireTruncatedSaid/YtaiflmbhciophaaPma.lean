/- The pure machine, part a: pure values, and what it means that a value of the model reads as one. Conditions: none. -/
import Derived.WalkKit
import Derived.WalkSpells
import Derived.WalkLawsBesides
import Derived.Maps.AppendAt
import Derived.Laws.AppendOwnNone
set_option linter.unusedSimpArgs false
set_option linter.unusedVariables false
namespace Go.PM
open Go.RowKit

/-- Pure values. 'list': a slice whose memory nobody turns any more ('full': without room behind its end); 'row': a whole row of one's own; 'sub': a part of an object of one's own; 'iptr': an address in memory that nobody turns. -/
inductive PV where
  | val (v : Value)
  | list (es : Nat) (xs : List PV)
  | full (es : Nat) (xs : List PV)
  | agg (cs : List PV)
  | row (n : Int) (es len : Nat)
  | sub (n : Int) (es off len : Nat)
  | ptr (n : Int) (off : Nat)
  | iptr (cs : List PV) (off : Nat)
  | func (f : FuncId) (caps : List PV)
  | tuple (xs : List PV)
  | junk
  deriving Inhabited

def PV.cells : PV → List PV
  | .agg cs => cs
  | p => [p]

def PV.one : PV → Bool
  | .val v => v.oneCell'
  | .agg _ | .tuple _ | .junk => false
  | _ => true

def flat (xs : List PV) : List PV := xs.flatMap PV.cells

@[reducible] def at_ (b off : Nat) : Addr := ⟨b, off, none⟩

/-- The value v reads as p in the world w; what 'list' and 'iptr' speak of lies in the blocks A. -/
inductive Rep (w : World) (A : Nat → Prop) : PV → Value → Prop
  | val (v : Value) : Rep w A (.val v) v
  | junk (v : Value) : Rep w A .junk v
  | nil (es : Nat) (a : Option Addr) (c : Nat) : Rep w A (.list es []) (.slice a 0 c)
  | list (es : Nat) (xs : List PV) (b off c : Nat) (f : Nat → Value) (hA : A b) (hc : xs.length ≤ c) (hes : ∀ x ∈ xs, x.cells.length = es)
      (h1 : ∀ j u, (flat xs)[j]? = some u → w.cell? (at_ b (off + j)) = some (f j) ∧ u.one = true) (h2 : ∀ j u, (flat xs)[j]? = some u → Rep w A u (f j)) :
      Rep w A (.list es xs) (.slice (some (at_ b off)) xs.length c)
  | full0 (es : Nat) (a : Option Addr) : Rep w A (.full es []) (.slice a 0 0)
  | full (es : Nat) (xs : List PV) (b off : Nat) (f : Nat → Value) (hA : A b) (hes : ∀ x ∈ xs, x.cells.length = es)
      (h1 : ∀ j u, (flat xs)[j]? = some u → w.cell? (at_ b (off + j)) = some (f j) ∧ u.one = true) (h2 : ∀ j u, (flat xs)[j]? = some u → Rep w A u (f j)) :
      Rep w A (.full es xs) (.slice (some (at_ b off)) xs.length xs.length)
  | agg (cs : List PV) (f : Nat → Value) (h2 : ∀ j u, cs[j]? = some u → Rep w A u (f j)) : Rep w A (.agg cs) (.agg ((List.range cs.length).map f).toArray)
  | rownil (n : Int) (es : Nat) (hn : n < 0) : Rep w A (.row n es 0) (.slice none 0 0)
  | row (b es len c N : Nat) (t : TypeId) (hs : w.shape? b = some (t, N)) (hN : N = c * es) (hl : len ≤ c) (hm : c ≤ maxLen) : Rep w A (.row b es len) (.slice (some (at_ b 0)) len c)
  | subnil (n : Int) (es off : Nat) (a : Option Addr) (c : Nat) : Rep w A (.sub n es off 0) (.slice a 0 c)
  | sub (b es off len c : Nat) (hl : len ≤ c) : Rep w A (.sub b es off len) (.slice (some (at_ b off)) len c)
  | ptr (b off : Nat) : Rep w A (.ptr b off) (.pointer (some (at_ b off)))
  | iptr (cs : List PV) (b off0 off : Nat) (f : Nat → Value) (hA : A b) (h1 : ∀ j u, cs[j]? = some u → w.cell? (at_ b (off0 + j)) = some (f j))
      (h2 : ∀ j u, cs[j]? = some u → Rep w A u (f j)) : Rep w A (.iptr cs off) (.pointer (some (at_ b (off0 + off))))
  | func (fn : FuncId) (caps : List PV) (f : Nat → Value) (h2 : ∀ j u, caps[j]? = some u → Rep w A u (f j)) : Rep w A (.func fn caps) (.func (.func fn) #[] ((List.range caps.length).map f).toArray)
  | tuple (cs : List PV) (f : Nat → Value) (h2 : ∀ j u, cs[j]? = some u → Rep w A u (f j)) : Rep w A (.tuple cs) (.tuple ((List.range cs.length).map f).toArray)

/-- What Rep needs of two worlds to go on. -/
theorem Rep.mono {w w' : World} {A A' : Nat → Prop} (hA : ∀ b, A b → A' b) (hc : ∀ b off v, A b → w.cell? (at_ b off) = some v → w'.cell? (at_ b off) = some v)
    (hs : ∀ b x, w.shape? b = some x → w'.shape? b = some x) {p : PV} {v : Value} (h : Rep w A p v) : Rep w' A' p v := by
  induction h with
  | val v => exact .val v
  | junk v => exact .junk v
  | nil es a c => exact .nil es a c
  | list es xs b off c f hb hl hes h1 _ ih => exact .list es xs b off c f (hA b hb) hl hes (fun j u hu => ⟨hc _ _ _ hb (h1 j u hu).1, (h1 j u hu).2⟩) ih
  | full0 es a => exact .full0 es a
  | full es xs b off f hb hes h1 _ ih => exact .full es xs b off f (hA b hb) hes (fun j u hu => ⟨hc _ _ _ hb (h1 j u hu).1, (h1 j u hu).2⟩) ih
  | agg cs f _ ih => exact .agg cs f ih
  | rownil n es hn => exact .rownil n es hn
  | row b es len c N t hsh hN hl hm => exact .row b es len c N t (hs _ _ hsh) hN hl hm
  | subnil n es off a c => exact .subnil n es off a c
  | sub b es off len c hl => exact .sub b es off len c hl
  | ptr b off => exact .ptr b off
  | iptr cs b off0 off f hb h1 _ ih => exact .iptr cs b off0 off f (hA b hb) (fun j u hu => hc _ _ _ hb (h1 j u hu)) ih
  | func fn caps f _ ih => exact .func fn caps f ih
  | tuple cs f _ ih => exact .tuple cs f ih

/-- An object of one's own. -/
structure PObj where
  ty : TypeId
  grow : Bool
  es : Nat
  cells : List PV
  deriving Inhabited

abbrev Heap := List (Int × PObj)

def unmarked (fz : Nat × Nat) (n : Nat) : Prop := ∀ i, i < n → ¬ (fz.1 ≤ i ∧ i < fz.2)

def ObjRep (w : World) (A : Nat → Prop) (n : Int) (o : PObj) : Prop :=
  (o.grow = true ∧ n < 0 ∧ o.cells = []) ∨
  ∃ (b : Nat) (cur : Array Value) (fz : Nat × Nat) (f : Nat → Value), n = b ∧ w.heap[b]? = some (.cells cur o.ty fz) ∧ unmarked fz cur.size ∧ (o.grow = true → fz = (0, 0)) ∧
    ∀ j u, o.cells[j]? = some u → cur[j]? = some (f j) ∧ u.one = true ∧ Rep w A u (f j)

/-- From w to w' old blocks stand, but for those in M. -/
structure Ext (M : Nat → Prop) (w w' : World) : Prop where
  os : w'.os = w.os
  tape : w'.tape = w.tape
  output : w'.output = w.output
  size : w.heap.size ≤ w'.heap.size
  block : ∀ b, b < w.heap.size → ¬ M b → w'.heap[b]? = w.heap[b]?
  shape : ∀ b x, w.shape? b = some x → w'.shape? b = some x

theorem Ext.refl (M : Nat → Prop) (w : World) : Ext M w w := ⟨rfl, rfl, rfl, Nat.le_refl _, fun _ _ _ => rfl, fun _ _ h => h⟩
theorem Ext.trans {M M' : Nat → Prop} {a b c : World} (h : Ext M a b) (k : Ext M' b c) (hM : ∀ x, x < a.heap.size → M' x → M x) : Ext M a c :=
  ⟨k.os.trans h.os, k.tape.trans h.tape, k.output.trans h.output, Nat.le_trans h.size k.size,
    fun x hx hm => (k.block x (Nat.lt_of_lt_of_le hx h.size) (fun hm' => hm (hM x hx hm'))).trans (h.block x hx hm), fun x y hy => k.shape x y (h.shape x y hy)⟩
theorem Ext.mono {M M' : Nat → Prop} {a b : World} (h : Ext M a b) (hM : ∀ x, M x → M' x) : Ext M' a b :=
  ⟨h.os, h.tape, h.output, h.size, fun x hx hm => h.block x hx (fun k => hm (hM x k)), h.shape⟩

theorem shape_lt {w : World} {b : Nat} {x : TypeId × Nat} (h : w.shape? b = some x) : b < w.heap.size := by
  rcases Nat.lt_or_ge b w.heap.size with hl | hg
  · exact hl
  · simp [World.shape?, Array.getElem?_eq_none hg] at h
theorem cell_lt {w : World} {b off : Nat} {v : Value} (h : w.cell? (at_ b off) = some v) : b < w.heap.size := by
  rcases Nat.lt_or_ge b w.heap.size with hl | hg
  · exact hl
  · simp [World.cell?, at_, Array.getElem?_eq_none hg] at h

theorem Ext.drew (M : Nat → Prop) (w : World) : Ext M w w.drew := ⟨rfl, rfl, rfl, Nat.le_refl _, fun _ _ _ => rfl, fun _ _ h => h⟩
theorem Ext.alloc (M : Nat → Prop) (w : World) (o : Obj) : Ext M w (w.alloc o) :=
  ⟨rfl, rfl, rfl, by simp, fun b hb _ => Below.heap_alloc w o b hb, fun b x h => by
    have := shape_lt h
    rw [World.shape?] at h ⊢
    rw [Below.heap_alloc w o b this]; exact h⟩
theorem shape_setCell (w : World) (p : Addr) (u : Value) (b : Nat) : (w.setCell p u).shape? b = w.shape? b := by
  unfold World.shape? World.setCell
  simp only [Array.getElem?_modify]
  by_cases h : p.block = b
  · subst h
    rw [if_pos rfl]
    cases hq : w.heap[p.block]? with
    | none => rfl
    | some o =>
      cases o with
      | cells c e fz => cases hs : p.spot <;> simp
      | _ => rfl
  · rw [if_neg h]
theorem Ext.setCell {M : Nat → Prop} (w : World) (b off : Nat) (u : Value) (hM : M b) : Ext M w (w.setCell (at_ b off) u) :=
  ⟨rfl, rfl, rfl, by simp [World.setCell], fun x _ hm => Below.heap_setCell w _ u x (fun e => hm (by simpa [at_] using e ▸ hM)), fun x y h => by rw [shape_setCell]; exact h⟩

theorem Ext.cell {M : Nat → Prop} {w w' : World} (h : Ext M w w') {b off : Nat} {v : Value} (hm : ¬ M b) (hc : w.cell? (at_ b off) = some v) : w'.cell? (at_ b off) = some v :=
  (World.cell?_of_block (w := w) (w' := w') (a := at_ b off) (h.block b (cell_lt hc) hm)).trans hc

theorem Rep.ext {M : Nat → Prop} {w w' : World} {A A' : Nat → Prop} {p : PV} {v : Value} (h : Rep w A p v) (he : Ext M w w') (hA : ∀ b, A b → A' b) (hM : ∀ b, A b → ¬ M b) : Rep w' A' p v :=
  h.mono hA (fun b _ _ hb hc => he.cell (hM b hb) hc) he.shape

theorem ObjRep.ext {M : Nat → Prop} {w w' : World} {A A' : Nat → Prop} {n : Int} {o : PObj} (h : ObjRep w A n o) (he : Ext M w w') (hA : ∀ b, A b → A' b) (hM : ∀ b, A b → ¬ M b)
    (hn : ∀ b : Nat, n = b → ¬ M b) : ObjRep w' A' n o := by
  rcases h with h | ⟨b, cur, fz, f, rfl, hh, hu, hg, hc⟩
  · exact .inl h
  · refine .inr ⟨b, cur, fz, f, rfl, ?_, hu, hg, fun j u hj => ⟨(hc j u hj).1, (hc j u hj).2.1, (hc j u hj).2.2.ext he hA hM⟩⟩
    rw [he.block b (by
      rcases Nat.lt_or_ge b w.heap.size with hl | hge
      · exact hl
      · rw [Array.getElem?_eq_none hge] at hh; cases hh) (hn b rfl)]
    exact hh
end Go.PM
