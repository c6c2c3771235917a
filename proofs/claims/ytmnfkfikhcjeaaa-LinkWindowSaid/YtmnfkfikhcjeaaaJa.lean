/- Joined texts (Pma Pmb Pmc Pmd Pme Pmf Pmg Pmh Pmi Pmj Pmk Pml): the machine, the contracts, the laws. Conditions: none but those that each names. -/
import Derived.ChangeKeysEq
import Derived.Deep.LoopGhost
import Derived.Laws.AppendOwnNone
import Derived.Laws.BytesArg
import Derived.Laws.StructEq
import Derived.Lib.Strings
import Derived.Maps.AppendAt
import Derived.WalkKit
import Derived.WalkLawsBesides
import Derived.WalkSpells
set_option linter.unusedSimpArgs false
set_option linter.unusedVariables false
namespace Go.PM
open Go.RowKit
/-- Pure values. 'list': a slice whose memory nobody turns any more ('full': without room behind its end); 'row': a whole row of one's own; 'sub': a part of an object of one's own; 'iptr': an address in memory that nobody turns; 'gtab': a whole variable of such memory; 'mp': a map of one's own; 'ent': an entry of one. -/
inductive PV where
  | val (v : Value)
  | list (es : Nat) (xs : List PV)
  | full (es : Nat) (xs : List PV)
  | agg (cs : List PV)
  | row (n : Int) (es len : Nat)
  | sub (n : Int) (es off len : Nat)
  | ptr (n : Int) (off : Nat)
  | iptr (cs : List PV) (off : Nat)
  | gtab (t : TypeId) (cs : List PV)
  | mp (n : Int)
  | ent (k v : PV)
  | func (f : FuncId) (caps : List PV)
  | tuple (xs : List PV)
  | raw (o : Obj)
  | junk
  deriving Inhabited
def PV.cells : PV → List PV
  | .agg cs => cs
  | p => [p]
def PV.one : PV → Bool
  | .val v => v.oneCell'
  | .agg _ | .tuple _ | .junk => false
  | _ => true
def flat (xs : List PV) : List PV := xs.flatMap PV.cells
@[reducible] def at_ (b off : Nat) : Addr := ⟨b, off, none⟩
/-- What kind of block it is: cells, a map. -/
def kindOf (w : World) (b : Nat) : Option (Option (TypeId × Nat)) :=
  match w.heap[b]? with
  | some (.cells c e _) => some (some (e, c.size))
  | some (.map _ _) => some none
  | _ => none
theorem kind_shape {w : World} {b : Nat} {x : TypeId × Nat} : kindOf w b = some (some x) ↔ w.shape? b = some x := by
  unfold kindOf World.shape?
  split <;> simp_all
theorem kind_heap {w w' : World} {b : Nat} (h : w'.heap[b]? = w.heap[b]?) : kindOf w' b = kindOf w b := by unfold kindOf; rw [h]
theorem kind_lt {w : World} {b : Nat} {x : Option (TypeId × Nat)} (h : kindOf w b = some x) : b < w.heap.size := by
  rcases Nat.lt_or_ge b w.heap.size with hl | hg
  · exact hl
  · simp [kindOf, Array.getElem?_eq_none hg] at h
/-- The value v reads as p in the world w; what 'list' and 'iptr' speak of lies in the blocks A. -/
inductive Rep (w : World) (A : Nat → Prop) : PV → Value → Prop
  | val (v : Value) : Rep w A (.val v) v
  | junk (v : Value) : Rep w A .junk v
  | nil (es : Nat) (a : Option Addr) (c : Nat) : Rep w A (.list es []) (.slice a 0 c)
  | list (es : Nat) (xs : List PV) (b off c : Nat) (f : Nat → Value) (hA : A b) (hc : xs.length ≤ c) (hes : ∀ x ∈ xs, x.cells.length = es)
      (h1 : ∀ j u, (flat xs)[j]? = some u → w.cell? (at_ b (off + j)) = some (f j) ∧ u.one = true) (h2 : ∀ j u, (flat xs)[j]? = some u → Rep w A u (f j)) :
      Rep w A (.list es xs) (.slice (some (at_ b off)) xs.length c)
  | full0 (es : Nat) (a : Option Addr) : Rep w A (.full es []) (.slice a 0 0)
  | full (es : Nat) (xs : List PV) (b off : Nat) (f : Nat → Value) (hA : A b) (hes : ∀ x ∈ xs, x.cells.length = es)
      (h1 : ∀ j u, (flat xs)[j]? = some u → w.cell? (at_ b (off + j)) = some (f j) ∧ u.one = true) (h2 : ∀ j u, (flat xs)[j]? = some u → Rep w A u (f j)) :
      Rep w A (.full es xs) (.slice (some (at_ b off)) xs.length xs.length)
  | agg (cs : List PV) (f : Nat → Value) (h2 : ∀ j u, cs[j]? = some u → Rep w A u (f j)) : Rep w A (.agg cs) (.agg ((List.range cs.length).map f).toArray)
  | rownil (n : Int) (es : Nat) (hn : n < 0) : Rep w A (.row n es 0) (.slice none 0 0)
  | row (b es len c N : Nat) (t : TypeId) (hs : w.shape? b = some (t, N)) (hN : N = c * es) (hl : len ≤ c) (hm : c ≤ maxLen) : Rep w A (.row b es len) (.slice (some (at_ b 0)) len c)
  | subnil (n : Int) (es off : Nat) (a : Option Addr) (c : Nat) : Rep w A (.sub n es off 0) (.slice a 0 c)
  | sub (b es off len c : Nat) (x : TypeId × Nat) (hs : w.shape? b = some x) (hl : len ≤ c) : Rep w A (.sub b es off len) (.slice (some (at_ b off)) len c)
  | ptr (b off : Nat) (x : TypeId × Nat) (hs : w.shape? b = some x) : Rep w A (.ptr b off) (.pointer (some (at_ b off)))
  | iptr (cs : List PV) (b off0 off : Nat) (f : Nat → Value) (hA : A b) (h1 : ∀ j u, cs[j]? = some u → w.cell? (at_ b (off0 + j)) = some (f j))
      (h2 : ∀ j u, cs[j]? = some u → Rep w A u (f j)) : Rep w A (.iptr cs off) (.pointer (some (at_ b (off0 + off))))
  | gtab (t : TypeId) (cs : List PV) (b : Nat) (f : Nat → Value) (hA : A b) (hs : w.shape? b = some (t, cs.length)) (h1 : ∀ j u, cs[j]? = some u → w.cell? (at_ b j) = some (f j))
      (h2 : ∀ j u, cs[j]? = some u → Rep w A u (f j)) : Rep w A (.gtab t cs) (.pointer (some (at_ b 0)))
  | mp (b : Nat) (hk : kindOf w b = some none) : Rep w A (.mp b) (.map (some b))
  | func (fn : FuncId) (caps : List PV) (f : Nat → Value) (h2 : ∀ j u, caps[j]? = some u → Rep w A u (f j)) : Rep w A (.func fn caps) (.func (.func fn) #[] ((List.range caps.length).map f).toArray)
  | tuple (cs : List PV) (f : Nat → Value) (h2 : ∀ j u, cs[j]? = some u → Rep w A u (f j)) : Rep w A (.tuple cs) (.tuple ((List.range cs.length).map f).toArray)
/-- What Rep needs of two worlds to go on. -/
theorem Rep.mono {w w' : World} {A A' : Nat → Prop} (hA : ∀ b, A b → A' b) (hc : ∀ b off v, A b → w.cell? (at_ b off) = some v → w'.cell? (at_ b off) = some v)
    (hk : ∀ b x, kindOf w b = some x → kindOf w' b = some x) {p : PV} {v : Value} (h : Rep w A p v) : Rep w' A' p v := by
  have hs : ∀ b x, w.shape? b = some x → w'.shape? b = some x := fun b x h => kind_shape.1 (hk b _ (kind_shape.2 h))
  induction h with
  | val v => exact .val v
  | junk v => exact .junk v
  | nil es a c => exact .nil es a c
  | list es xs b off c f hb hl hes h1 _ ih => exact .list es xs b off c f (hA b hb) hl hes (fun j u hu => ⟨hc _ _ _ hb (h1 j u hu).1, (h1 j u hu).2⟩) ih
  | full0 es a => exact .full0 es a
  | full es xs b off f hb hes h1 _ ih => exact .full es xs b off f (hA b hb) hes (fun j u hu => ⟨hc _ _ _ hb (h1 j u hu).1, (h1 j u hu).2⟩) ih
  | agg cs f _ ih => exact .agg cs f ih
  | rownil n es hn => exact .rownil n es hn
  | row b es len c N t hsh hN hl hm => exact .row b es len c N t (hs _ _ hsh) hN hl hm
  | subnil n es off a c => exact .subnil n es off a c
  | sub b es off len c x h hl => exact .sub b es off len c x (hs _ _ h) hl
  | ptr b off x h => exact .ptr b off x (hs _ _ h)
  | mp b h => exact .mp b (hk _ _ h)
  | iptr cs b off0 off f hb h1 _ ih => exact .iptr cs b off0 off f (hA b hb) (fun j u hu => hc _ _ _ hb (h1 j u hu)) ih
  | gtab t cs b f hb hsh h1 _ ih => exact .gtab t cs b f (hA b hb) (hs _ _ hsh) (fun j u hu => hc _ _ _ hb (h1 j u hu)) ih
  | func fn caps f _ ih => exact .func fn caps f ih
  | tuple cs f _ ih => exact .tuple cs f ih
/-- An object of one's own. -/
structure PObj where
  ty : TypeId
  grow : Bool
  es : Nat
  cells : List PV
  deriving Inhabited
abbrev Heap := List (Int × PObj)
def unmarked (fz : Nat × Nat) (n : Nat) : Prop := ∀ i, i < n → ¬ (fz.1 ≤ i ∧ i < fz.2)
/-- What is known of a block's marks and size: a row has no marks; an object that is no row has no other cells. -/
def Grows (o : PObj) (fz : Nat × Nat) (n : Nat) : Prop := (o.grow = true → fz = (0, 0)) ∧ (o.grow = false → o.es = 0 → n = o.cells.length)
/-- The temporaries that a loop's record holds; the keys and values of a map. -/
def loopTmps : Obj → Array Value
  | .loop r => r.tmps
  | .map es _ => (es.toList.flatMap fun e => [e.key, e.val]).toArray
  | _ => #[]
/-- The object o is the block n: a row that is none yet, cells, a map, an object that is known to the letter (a loop's record, an iterator, a map). -/
def ObjRep (w : World) (A : Nat → Prop) (n : Int) (o : PObj) : Prop :=
  (o.grow = true ∧ n < 0 ∧ o.cells = []) ∨
  (∃ (b : Nat) (cur : Array Value) (fz : Nat × Nat) (f : Nat → Value), n = b ∧ w.heap[b]? = some (.cells cur o.ty fz) ∧ unmarked fz cur.size ∧ Grows o fz cur.size ∧
    ∀ j u, o.cells[j]? = some u → cur[j]? = some (f j) ∧ u.one = true ∧ Rep w A u (f j)) ∨
  (∃ (b : Nat) (es : Array MapEntry) (clock : Nat), n = b ∧ w.heap[b]? = some (.map es clock) ∧ o.grow = false ∧ es.size = o.cells.length ∧
    (∀ e ∈ es.toList, e.born < clock) ∧ (es.toList.map (·.born)).Nodup ∧
    ∀ (j : Nat) (u : PV), o.cells[j]? = some u → ∃ (e : MapEntry) (k v : PV), es[j]? = some e ∧ u = .ent k v ∧ Rep w A k e.key ∧ Rep w A v e.val) ∨
  ∃ (b : Nat) (x : Obj) (ps : List PV), n = b ∧ w.heap[b]? = some x ∧ (kindOf w b = none ∨ ∃ (es : Array MapEntry) (c : Nat), x = .map es c) ∧ o.grow = false ∧ o.cells = .raw x :: ps ∧ ps.length = (loopTmps x).size ∧
    ∀ (j : Nat) (u : PV), ps[j]? = some u → ∃ v : Value, (loopTmps x)[j]? = some v ∧ Rep w A u v
/-- From w to w' old blocks stand, but for those in M. -/
structure Ext (M : Nat → Prop) (w w' : World) : Prop where
  os : w'.os = w.os
  tape : w'.tape = w.tape
  output : w'.output = w.output
  size : w.heap.size ≤ w'.heap.size
  block : ∀ b, b < w.heap.size → ¬ M b → w'.heap[b]? = w.heap[b]?
  kind : ∀ b x, kindOf w b = some x → kindOf w' b = some x
theorem Ext.shape {M : Nat → Prop} {w w' : World} (h : Ext M w w') (b : Nat) (x : TypeId × Nat) (hx : w.shape? b = some x) : w'.shape? b = some x := kind_shape.1 (h.kind b _ (kind_shape.2 hx))
theorem Ext.refl (M : Nat → Prop) (w : World) : Ext M w w := ⟨rfl, rfl, rfl, Nat.le_refl _, fun _ _ _ => rfl, fun _ _ h => h⟩
theorem Ext.trans {M M' : Nat → Prop} {a b c : World} (h : Ext M a b) (k : Ext M' b c) (hM : ∀ x, x < a.heap.size → M' x → M x) : Ext M a c :=
  ⟨k.os.trans h.os, k.tape.trans h.tape, k.output.trans h.output, Nat.le_trans h.size k.size,
    fun x hx hm => (k.block x (Nat.lt_of_lt_of_le hx h.size) (fun hm' => hm (hM x hx hm'))).trans (h.block x hx hm), fun x y hy => k.kind x y (h.kind x y hy)⟩
theorem Ext.mono {M M' : Nat → Prop} {a b : World} (h : Ext M a b) (hM : ∀ x, M x → M' x) : Ext M' a b :=
  ⟨h.os, h.tape, h.output, h.size, fun x hx hm => h.block x hx (fun k => hm (hM x k)), h.kind⟩
theorem cell_lt {w : World} {b off : Nat} {v : Value} (h : w.cell? (at_ b off) = some v) : b < w.heap.size := by
  rcases Nat.lt_or_ge b w.heap.size with hl | hg
  · exact hl
  · simp [World.cell?, at_, Array.getElem?_eq_none hg] at h
theorem Ext.drew (M : Nat → Prop) (w : World) : Ext M w w.drew := ⟨rfl, rfl, rfl, Nat.le_refl _, fun _ _ _ => rfl, fun _ _ h => h⟩
theorem Ext.alloc (M : Nat → Prop) (w : World) (o : Obj) : Ext M w (w.alloc o) :=
  ⟨rfl, rfl, rfl, by simp, fun b hb _ => Below.heap_alloc w o b hb, fun b x h => by
    rw [kind_heap (Below.heap_alloc w o b (kind_lt h))]; exact h⟩
theorem shape_setCell (w : World) (p : Addr) (u : Value) (b : Nat) : (w.setCell p u).shape? b = w.shape? b := by
  unfold World.shape? World.setCell
  simp only [Array.getElem?_modify]
  by_cases h : p.block = b
  · subst h
    rw [if_pos rfl]
    cases hq : w.heap[p.block]? with
    | none => rfl
    | some o =>
      cases o with
      | cells c e fz => cases hs : p.spot <;> simp
      | _ => rfl
  · rw [if_neg h]
theorem kind_none_setCell (w : World) (p : Addr) (u : Value) (b : Nat) : kindOf (w.setCell p u) b = kindOf w b := by
  unfold kindOf World.setCell
  simp only [Array.getElem?_modify]
  by_cases h : p.block = b
  · subst h
    rw [if_pos rfl]
    cases hq : w.heap[p.block]? with
    | none => rfl
    | some o =>
      cases o with
      | cells c e fz => cases hs : p.spot <;> simp
      | _ => rfl
  · rw [if_neg h]
theorem Ext.setCell {M : Nat → Prop} (w : World) (b off : Nat) (u : Value) (hM : M b) : Ext M w (w.setCell (at_ b off) u) :=
  ⟨rfl, rfl, rfl, by simp [World.setCell], fun x _ hm => Below.heap_setCell w _ u x (fun e => hm (by simpa [at_] using e ▸ hM)), fun x y h => by
    cases y with
    | some y => exact kind_shape.2 (by rw [shape_setCell]; exact kind_shape.1 h)
    | none =>
      rw [kind_none_setCell]
      exact h⟩
theorem Ext.cell {M : Nat → Prop} {w w' : World} (h : Ext M w w') {b off : Nat} {v : Value} (hm : ¬ M b) (hc : w.cell? (at_ b off) = some v) : w'.cell? (at_ b off) = some v :=
  (World.cell?_of_block (w := w) (w' := w') (a := at_ b off) (h.block b (cell_lt hc) hm)).trans hc
theorem Rep.ext {M : Nat → Prop} {w w' : World} {A A' : Nat → Prop} {p : PV} {v : Value} (h : Rep w A p v) (he : Ext M w w') (hA : ∀ b, A b → A' b) (hM : ∀ b, A b → ¬ M b) : Rep w' A' p v :=
  h.mono hA (fun b _ _ hb hc => he.cell (hM b hb) hc) he.kind
theorem ObjRep.ext {M : Nat → Prop} {w w' : World} {A A' : Nat → Prop} {n : Int} {o : PObj} (h : ObjRep w A n o) (he : Ext M w w') (hA : ∀ b, A b → A' b) (hM : ∀ b, A b → ¬ M b)
    (hn : ∀ b : Nat, n = b → ¬ M b) : ObjRep w' A' n o := by
  have hlt : ∀ {b : Nat} {x : Obj}, w.heap[b]? = some x → b < w.heap.size := fun {b x} hh => by
    rcases Nat.lt_or_ge b w.heap.size with hl | hge
    · exact hl
    · rw [Array.getElem?_eq_none hge] at hh; cases hh
  rcases h with h | ⟨b, cur, fz, f, rfl, hh, hu, hg, hc⟩ | ⟨b, es, clock, rfl, hh, hg, hz, hb, hd, hc⟩ | ⟨b, x, ps, rfl, hh, hk, hg, hc, hl, hr⟩
  · exact .inl h
  · refine .inr (.inl ⟨b, cur, fz, f, rfl, ?_, hu, hg, fun j u hj => ⟨(hc j u hj).1, (hc j u hj).2.1, (hc j u hj).2.2.ext he hA hM⟩⟩)
    rw [he.block b (hlt hh) (hn b rfl)]
    exact hh
  · refine .inr (.inr (.inl ⟨b, es, clock, rfl, ?_, hg, hz, hb, hd, fun j u hj => ?_⟩))
    · rw [he.block b (hlt hh) (hn b rfl)]
      exact hh
    · obtain ⟨e, k, v, h1, h2, h3, h4⟩ := hc j u hj
      exact ⟨e, k, v, h1, h2, h3.ext he hA hM, h4.ext he hA hM⟩
  · have hb2 := he.block b (hlt hh) (hn b rfl)
    refine .inr (.inr (.inr ⟨b, x, ps, rfl, by rw [hb2]; exact hh, by rw [kind_heap hb2]; exact hk, hg, hc, hl, fun j u hj => ?_⟩))
    obtain ⟨v, h1, h2⟩ := hr j u hj
    exact ⟨v, h1, h2.ext he hA hM⟩
end Go.PM

namespace Go.PM
open Go.RowKit
/-- What hangs on a guard: it is not looked at ahead of the guard. -/
class Two where
  x : Prop
  y : Prop
/-- what a guard decides -/
def pguard (b want : Bool) [h : Two] : Prop := (b = want → h.x) ∧ (b = (!want) → h.y)
/-- What follows once a new object has its name. -/
class Fresh where
  k : Int → Prop
def pfresh (l : List Int) [h : Fresh] : Prop := ∀ n : Int, n ∉ l → h.k n
structure PState where
  frame : List PV
  heap : Heap
def PState.put (σ : PState) (d : Option Tmp) (p : PV) : PState :=
  match d with
  | some d => ⟨σ.frame.set d p, σ.heap⟩
  | none => σ
/-- The names that are taken; the deferred calls that stand from the beginning (marks of loops over functions). -/
structure Taken where
  l : List Int
  D : List Deferred := []
instance : Coe (List Int) Taken := ⟨fun l => ⟨l, []⟩⟩
/-- The call that is under way: the world in which it began, the blocks of its arguments that nobody turns, the names of the objects that were handed to it, the names that are taken. -/
structure Amb where
  w0 : World
  A0 : Nat → Prop
  I : List Int
  T : Taken
@[reducible] def Amb.F (E : Amb) : List Int := E.T.l
@[reducible] def Amb.M (E : Amb) : Nat → Prop := fun b => (b : Int) ∈ E.I
abbrev Globs := Nat → PV
structure Sim (G : Globs) (E : Amb) (A : Nat → Prop) (σ : PState) (a : Act) (w : World) : Prop where
  ext : Ext E.M E.w0 w
  lt : ∀ b, A b → b < w.heap.size
  a0 : ∀ b, E.A0 b → A b
  a1 : ∀ b, A b → E.A0 b ∨ E.w0.heap.size ≤ b
  globs : ∀ g, Rep w A (G g) (.pointer (some (at_ g 0)))
  nodup : (σ.heap.map (·.1)).Nodup
  objs : ∀ n o, (n, o) ∈ σ.heap → ObjRep w A n o
  own : ∀ n o, (n, o) ∈ σ.heap → ∀ b : Nat, n = b → b < w.heap.size ∧ ¬ A b ∧ (E.w0.heap.size ≤ b ∨ E.M b)
  neg : ∀ n o, (n, o) ∈ σ.heap → n < 0 → n ∉ E.F ∨ n ∈ E.I
  defers : a.defers = E.T.D
  size : a.tmps.size = σ.frame.length
  frame : ∀ (i : Nat) (p : PV), σ.frame[i]? = some p → ∃ v : Value, a.tmps[i]? = some v ∧ Rep w A p v
/-- The judgement: from a state that reads as σ the code comes to an exit and a state of which K holds. -/
def W (P : Program) (G : Globs) (I : List Int) (c : Code) (σ : PState) (K : Exit → PState → Prop) : Prop :=
  ∀ E, E.I = I → ∀ A a w, Sim G E A σ a w → ∀ Q : Exit → Act → World → Prop, (∀ e σ' a' w' A', K e σ' → Sim G E A' σ' a' w' → Q e a' w') → c.wp P Q a w
section
variable {P : Program} {G : Globs} {c x y : Code} {σ : PState} {K : Exit → PState → Prop} {I : List Int}
def seqK (next : PState → Prop) (K : Exit → PState → Prop) : Exit → PState → Prop
  | .normal, σ => next σ
  | e, σ => K e σ
def blockK (id : Nat) (K : Exit → PState → Prop) : Exit → PState → Prop
  | .exit i, σ => if i = id then K .normal σ else K (.exit i) σ
  | e, σ => K e σ
theorem W_seq (h : W P G I x σ (seqK (fun σ' => W P G I y σ' K) K)) : W P G I (.seq x y) σ K := by
  intro E hE A a w hs Q hq
  refine wp_seq (h E hE A a w hs _ ?_)
  intro e σ' a' w' A' hk hs'
  cases e with
  | normal => exact hk E hE A' a' w' hs' Q hq
  | _ => exact hq _ _ _ _ _ hk hs'
theorem W_skip (h : K .normal σ) : W P G I .skip σ K := fun _ _ _ _ _ hs _ hq => wp_skip (hq _ _ _ _ _ h hs)
theorem W_label {l : Nat} (h : K .normal σ) : W P G I (.label l) σ K := fun _ _ _ _ _ hs _ hq => wp_label (hq _ _ _ _ _ h hs)
theorem W_exit {id : Nat} (h : K (.exit id) σ) : W P G I (.exit id) σ K := fun _ _ _ _ _ hs _ hq => wp_exit (hq _ _ _ _ _ h hs)
theorem W_ret (h : K .ret σ) : W P G I .ret σ K := fun _ _ _ _ _ hs _ hq => wp_ret (hq _ _ _ _ _ h hs)
theorem W_block {id : Nat} (h : W P G I c σ (blockK id K)) : W P G I (.block id c) σ K := by
  intro E hE A a w hs Q hq
  refine wp_block (h E hE A a w hs _ ?_)
  intro e σ' a' w' A' hk hs'
  cases e with
  | exit i =>
    simp only [blockK] at hk
    simp only [Exit.inBlock]
    split
    · rename_i hi; rw [if_pos hi] at hk; exact hq _ _ _ _ _ hk hs'
    · rename_i hi; rw [if_neg hi] at hk; exact hq _ _ _ _ _ hk hs'
  | _ => exact hq _ _ _ _ _ hk hs'
/-- A loop: a relation with a number that every round lowers. -/
theorem W_loop (R : Nat → PState → Prop) (n0 : Nat) (h0 : R n0 σ) (round : ∀ n σ', R n σ' → W P G I c σ' (seqK (fun σ'' => ∃ n', n' < n ∧ R n' σ'') K)) : W P G I (.loop c) σ K := by
  intro E hE A a w hs Q hq
  refine wp_loop_ghost (fun n a w => ∃ σ' A', R n σ' ∧ Sim G E A' σ' a w) n0 ⟨σ, A, h0, hs⟩ ?_
  rintro n a' w' ⟨σ', A', hI, hs'⟩
  refine round n σ' hI E hE A' a' w' hs' _ ?_
  intro e σ'' a'' w'' A'' hk hs''
  cases e with
  | normal =>
    obtain ⟨n', hlt, hI'⟩ := hk
    exact ⟨n', hlt, σ'', A'', hI', hs''⟩
  | _ => exact hq _ _ _ _ _ hk hs''
/-- A constant's pure value. -/
def constPV : Value → PV
  | .agg cs => .agg (cs.toList.map .val)
  | v => .val v
theorem constPV_rep (w : World) (A : Nat → Prop) (v : Value) : Rep w A (constPV v) v := by
  cases v with
  | agg cs =>
    have := Rep.agg (w := w) (A := A) (cs.toList.map .val) (fun j => cs.getD j undef) (fun j u hu => by
      rw [List.getElem?_map] at hu
      cases hj : cs.toList[j]? with
      | none => rw [hj] at hu; cases hu
      | some c =>
        rw [hj] at hu
        cases hu
        have : cs[j]? = some c := by simpa using hj
        rw [show cs.getD j undef = c by simp [Array.getD_eq_getD_getElem?, this]]
        exact .val c)
    have e : ((List.range (cs.toList.map PV.val).length).map fun j => cs.getD j undef).toArray = cs := by
      apply Array.ext
      · simp
      · intro j h1 h2
        simp [Array.getD_eq_getD_getElem?, h2]
    rw [e] at this
    exact this
  | _ => exact .val _
/-- An operand's pure value. -/
def opnd (G : Globs) (fr : List PV) : Operand → PV
  | .tmp t => fr.getD t .junk
  | .const v => constPV v
  | .global g => G g
  | .func f => .func f []
theorem Sim.opnd {E : Amb} {A : Nat → Prop} {a : Act} {w : World} (hs : Sim G E A σ a w) (o : Operand) : Rep w A (opnd G σ.frame o) (a.eval o) := by
  cases o with
  | tmp t =>
    simp only [Go.PM.opnd, Act.eval, List.getD_eq_getElem?_getD, Array.getD_eq_getD_getElem?]
    cases h : σ.frame[t]? with
    | none => exact .junk _
    | some p =>
      obtain ⟨v, hv, hr⟩ := hs.frame t p h
      simpa [hv] using hr
  | const v => exact constPV_rep _ _ v
  | global g => exact hs.globs g
  | func f => exact (Rep.func (w := w) (A := A) f [] (fun _ => .nilFunc) (by simp))
theorem Rep.val_eq {w : World} {A : Nat → Prop} {v u : Value} (h : Rep w A (.val v) u) : u = v := by cases h; rfl
theorem W_cond {o : Operand} {t : Bool} (ho : opnd G σ.frame o = .val (.bool t)) (ht : t = true → W P G I x σ K) (hf : t = false → W P G I y σ K) : W P G I (.cond o x y) σ K := by
  intro E hE A a w hs Q hq
  have hr := hs.opnd o
  rw [ho] at hr
  exact wp_cond_split hr.val_eq (fun h => ht h E hE A a w hs Q hq) (fun h => hf h E hE A a w hs Q hq)
end
/-- THE CONTRACT of a function: called with values that read as 'args' (and the objects 'Hin') it returns a value that reads as 'res', with the objects 'Hout', of which R holds; what was there stands. -/
def PCalls (P : Program) (G : Globs) (f : FuncId) (args : List PV) (Hin : Heap) (R : PV → Heap → Prop) : Prop :=
  ∀ (w : World) (A : Nat → Prop) (F : List Int) (vals : Array Value),
    (∀ b, A b → b < w.heap.size) → (∀ g, Rep w A (G g) (.pointer (some (at_ g 0)))) → (Hin.map (·.1)).Nodup → (∀ n o, (n, o) ∈ Hin → ObjRep w A n o) →
    (∀ n o, (n, o) ∈ Hin → ∀ b : Nat, n = b → b < w.heap.size ∧ ¬ A b) →
    vals.size = args.length → (∀ (i : Nat) (p : PV), args[i]? = some p → ∃ v : Value, vals[i]? = some v ∧ Rep w A p v) →
    Calls P f vals w fun e w' => ∃ v A' res Hout, e = .returned v ∧ R res Hout ∧ Rep w' A' res v ∧
      Sim G ⟨w, A, Hin.map (·.1), F⟩ A' ⟨[], Hout⟩ ⟨#[], []⟩ w'
section
variable {P : Program} {G : Globs}
theorem PCalls.mono {f : FuncId} {args : List PV} {Hin : Heap} {R R' : PV → Heap → Prop} (h : PCalls P G f args Hin R) (hr : ∀ p H, R p H → R' p H) : PCalls P G f args Hin R' := by
  intro w A F vals h1 h2 h3 h4 h5 h6 h7
  refine (h w A F vals h1 h2 h3 h4 h5 h6 h7).mono ?_
  rintro e w' ⟨v, A', res, Hout, he, hR, hrest⟩
  exact ⟨v, A', res, Hout, he, hr _ _ hR, hrest⟩
end
end Go.PM

namespace Go.PM
open Go.RowKit
/-- What the type table says of a type. -/
inductive TI where
  | int (k : IntKind) | bool | string
  | slice (e : TypeId) (es eb : Nat)
  | struct (fs : List (Nat × Nat × Bool))
  | array (n : Nat) (e : TypeId) (es : Nat) (ea : Bool)
  | pointer (e : TypeId)
  | map (k e : TypeId)
  | func | other
structure TF where
  ti : TI
  size : Nat
  bytes : Nat
  agg : Bool
  zero : Option Value
def aggD : TypeDesc → Bool
  | .struct _ | .array _ _ => true
  | _ => false
def fieldsOf (P : Program) : List Field → Option (List (Nat × Nat × Bool))
  | [] => some []
  | f :: r => match P.info? f.type, P.underlying f.type, fieldsOf P r with
    | some i, some d, some l => some ((f.offset, i.size, aggD d) :: l)
    | _, _, _ => none
def tiOf (P : Program) : TypeDesc → TI
  | .int k => .int k
  | .bool => .bool
  | .string => .string
  | .slice e => match P.info? e with
    | some i => .slice e i.size i.bytes
    | none => .other
  | .array n e => match P.info? e, P.underlying e with
    | some i, some d => .array n e i.size (aggD d)
    | _, _ => .other
  | .struct fs => match fieldsOf P fs.toList with
    | some l => .struct l
    | none => .other
  | .pointer e => .pointer e
  | .map k e => .map k e
  | .func _ _ _ => .func
  | _ => .other
def tf (P : Program) (t : TypeId) : Option TF :=
  match P.underlying t, P.info? t with
  | some d, some i => some ⟨tiOf P d, i.size, i.bytes, aggD d, i.zero⟩
  | _, _ => none
theorem tf_some {P : Program} {t : TypeId} {F : TF} (h : tf P t = some F) :
    ∃ d i, P.underlying t = some d ∧ P.info? t = some i ∧ F = ⟨tiOf P d, i.size, i.bytes, aggD d, i.zero⟩ := by
  unfold tf at h
  cases hd : P.underlying t with
  | none => simp [hd] at h
  | some d =>
    cases hi : P.info? t with
    | none => simp [hd, hi] at h
    | some i =>
      simp [hd, hi] at h
      exact ⟨d, i, rfl, rfl, h.symm⟩
theorem tf_slice {P : Program} {t e : TypeId} {es eb : Nat} {F : TF} (h : tf P t = some F) (hF : F.ti = .slice e es eb) :
    P.underlying t = some (.slice e) ∧ ∃ i, P.info? e = some i ∧ i.size = es ∧ i.bytes = eb := by
  obtain ⟨d, i, hd, hi, rfl⟩ := tf_some h
  simp only at hF
  cases d <;> simp only [tiOf] at hF <;> try (cases hF; done)
  · split at hF
    · rename_i j hj; cases hF; exact ⟨hd, j, hj, rfl, rfl⟩
    · cases hF
  · split at hF <;> cases hF
  · split at hF <;> cases hF
theorem tf_array {P : Program} {t e : TypeId} {n es : Nat} {ea : Bool} {F : TF} (h : tf P t = some F) (hF : F.ti = .array n e es ea) :
    P.underlying t = some (.array n e) ∧ ∃ i d, P.info? e = some i ∧ i.size = es ∧ P.underlying e = some d ∧ aggD d = ea := by
  obtain ⟨d, i, hd, hi, rfl⟩ := tf_some h
  simp only at hF
  cases d <;> simp only [tiOf] at hF <;> try (cases hF; done)
  · split at hF <;> cases hF
  · split at hF
    · rename_i j dd hj hdd; cases hF; exact ⟨hd, j, dd, hj, rfl, hdd, rfl⟩
    · cases hF
  · split at hF <;> cases hF
theorem fieldsOf_get {P : Program} : ∀ (fs : List Field) (l : List (Nat × Nat × Bool)), fieldsOf P fs = some l → ∀ (k off sz : Nat) (ag : Bool), l[k]? = some (off, sz, ag) →
    ∃ (f : Field) (i : TypeInfo) (d : TypeDesc), fs[k]? = some f ∧ f.offset = off ∧ P.info? f.type = some i ∧ i.size = sz ∧ P.underlying f.type = some d ∧ aggD d = ag
  | [], l, h, k, off, sz, ag, hk => by simp [fieldsOf] at h; subst h; simp at hk
  | f :: r, l, h, k, off, sz, ag, hk => by
    simp only [fieldsOf] at h
    split at h
    · rename_i i d l' hi hd hr
      cases h
      cases k with
      | zero => simp at hk; exact ⟨f, i, d, rfl, hk.1, hi, hk.2.1, hd, hk.2.2⟩
      | succ k => exact fieldsOf_get r l' hr k off sz ag (by simpa using hk)
    · cases h
theorem tf_struct {P : Program} {t : TypeId} {l : List (Nat × Nat × Bool)} {F : TF} (h : tf P t = some F) (hF : F.ti = .struct l) :
    ∃ fs : Array Field, P.underlying t = some (.struct fs) ∧ fieldsOf P fs.toList = some l := by
  obtain ⟨d, i, hd, hi, rfl⟩ := tf_some h
  simp only at hF
  cases d <;> simp only [tiOf] at hF <;> try (cases hF; done)
  · split at hF <;> cases hF
  · split at hF <;> cases hF
  · split at hF
    · rename_i fs l' hl; cases hF; exact ⟨_, hd, hl⟩
    · cases hF
theorem tf_int {P : Program} {t : TypeId} {k : IntKind} {F : TF} (h : tf P t = some F) (hF : F.ti = .int k) : P.underlying t = some (.int k) := by
  obtain ⟨d, i, hd, hi, rfl⟩ := tf_some h
  simp only at hF
  cases d <;> simp only [tiOf] at hF <;> try (cases hF; done)
  · cases hF; exact hd
  · split at hF <;> cases hF
  · split at hF <;> cases hF
  · split at hF <;> cases hF
theorem tf_string {P : Program} {t : TypeId} {F : TF} (h : tf P t = some F) (hF : F.ti = .string) : P.underlying t = some .string := by
  obtain ⟨d, i, hd, hi, rfl⟩ := tf_some h
  simp only at hF
  cases d <;> simp only [tiOf] at hF <;> try (cases hF; done)
  · exact hd
  · split at hF <;> cases hF
  · split at hF <;> cases hF
  · split at hF <;> cases hF
theorem tf_pointer {P : Program} {t e : TypeId} {F : TF} (h : tf P t = some F) (hF : F.ti = .pointer e) : P.underlying t = some (.pointer e) := by
  obtain ⟨d, i, hd, hi, rfl⟩ := tf_some h
  simp only at hF
  cases d <;> simp only [tiOf] at hF <;> try (cases hF; done)
  · cases hF; exact hd
  · split at hF <;> cases hF
  · split at hF <;> cases hF
  · split at hF <;> cases hF
/-- What stays when the region's other operations have run: the blocks that were there. -/
def Keeps (w w' : World) : Prop := ∀ b, b < w.heap.size → w'.heap[b]? = w.heap[b]?
theorem Keeps.refl (w : World) : Keeps w w := fun _ _ => rfl
theorem Keeps.cell {w w' : World} (h : Keeps w w') {b off : Nat} {v : Value} (hc : w.cell? (at_ b off) = some v) : w'.cell? (at_ b off) = some v :=
  (World.cell?_of_block (w := w) (w' := w') (a := at_ b off) (h b (cell_lt hc))).trans hc
theorem Keeps.shape {w w' : World} (h : Keeps w w') {b : Nat} {x : TypeId × Nat} (hc : w.shape? b = some x) : w'.shape? b = some x := by
  rw [World.shape?] at hc ⊢
  rw [h b (by
    rcases Nat.lt_or_ge b w.heap.size with hl | hg
    · exact hl
    · rw [Array.getElem?_eq_none hg] at hc; cases hc)]
  exact hc
theorem Keeps.kind {w w' : World} (h : Keeps w w') (b : Nat) (x : Option (TypeId × Nat)) (hc : kindOf w b = some x) : kindOf w' b = some x := by
  rw [kind_heap (h b (kind_lt hc))]
  exact hc
theorem Rep.keeps {w w' : World} {A : Nat → Prop} {p : PV} {v : Value} (h : Rep w A p v) (hk : Keeps w w') : Rep w' A p v :=
  h.mono (fun _ h => h) (fun _ _ _ _ hc => hk.cell hc) hk.kind
/-- The operation o hands back a value that reads as r, in this world and in each that keeps its blocks. -/
def Gives (P : Program) (w : World) (A : Nat → Prop) (ρ : Operand → Value) (o : Oper) (r : PV) : Prop :=
  ∃ v, Rep w A r v ∧ ∀ w', Keeps w w' → (execOp ρ o).run P w' = .ok (.value v) w'
/-- Bytes as a string, and back. -/
def mk (l : List UInt8) : ByteArray := ⟨l.toArray⟩
def bl (s : ByteArray) : List UInt8 := s.data.toList
@[simp] theorem bl_mk (l : List UInt8) : bl (mk l) = l := by simp [bl, mk]
@[simp] theorem mk_bl (s : ByteArray) : mk (bl s) = s := by cases s; simp [bl, mk]
theorem size_bl (s : ByteArray) : s.size = (bl s).length := by cases s; simp [bl, ByteArray.size]
theorem toList_bl (s : ByteArray) : s.toList = bl s := ByteArray.toList_eq s
@[reducible] def pint (k : IntKind) (n : Int) : PV := .val (.int k n)
@[reducible] def pbool (b : Bool) : PV := .val (.bool b)
@[reducible] def pstr (l : List UInt8) : PV := .val (.string (mk l))
/-- Scalars' operators. -/
def pbin (op : BinOp) (x y : PV) (K : PV → Prop) : Prop :=
  match x, y with
  | .val (.int k a), .val (.int k' b) =>
    match op with
    | .add => k = k' ∧ K (pint k (k.wrap (a + b)))
    | .sub => k = k' ∧ K (pint k (k.wrap (a - b)))
    | .mul => k = k' ∧ K (pint k (k.wrap (a * b)))
    | .quo => k = k' ∧ b ≠ 0 ∧ K (pint k (k.wrap (a.tdiv b)))
    | .rem => k = k' ∧ b ≠ 0 ∧ K (pint k (a.tmod b))
    | .and => k = k' ∧ K (pint k (bits .and k a b))
    | .or => k = k' ∧ K (pint k (bits .or k a b))
    | .xor => k = k' ∧ K (pint k (bits .xor k a b))
    | .andNot => k = k' ∧ K (pint k (bits .andNot k a b))
    | .shl => 0 ≤ b ∧ K (pint k (k.wrap (a * 2 ^ (min b.toNat k.bits))))
    | .shr => 0 ≤ b ∧ K (pint k (a.fdiv (2 ^ (min b.toNat k.bits))))
    | .eql => k = k' ∧ K (pbool (a == b))
    | .neq => k = k' ∧ K (pbool (a != b))
    | .lss => k = k' ∧ K (pbool (decide (a < b)))
    | .leq => k = k' ∧ K (pbool (decide (a ≤ b)))
    | .gtr => k = k' ∧ K (pbool (decide (b < a)))
    | .geq => k = k' ∧ K (pbool (decide (b ≤ a)))
  | .val (.string s), .val (.string t) =>
    match op with
    | .add => ((bl s).length + (bl t).length : Int) ≤ 9223372036854775807 ∧ K (pstr (bl s ++ bl t))
    | .eql => K (pbool (bl s == bl t))
    | .neq => K (pbool (!(bl s == bl t)))
    | .lss => K (pbool (Op.bytesLess (bl s) (bl t)))
    | .leq => K (pbool (Op.bytesLess (bl s) (bl t) || bl s == bl t))
    | .gtr => K (pbool (!(Op.bytesLess (bl s) (bl t) || bl s == bl t)))
    | .geq => K (pbool (!(Op.bytesLess (bl s) (bl t))))
    | _ => False
  | _, _ => False
section
variable {P : Program} {w : World} {A : Nat → Prop} {ρ : Operand → Value} {o : Oper} {K : PV → Prop}
theorem gives_of {r : PV} {v : Value} (hr : Rep w A r v) (h : ∀ w', Keeps w w' → (execOp ρ o).run P w' = .ok (.value v) w') : Gives P w A ρ o r := ⟨v, hr, h⟩
theorem pbin_sound {op : BinOp} {t u : TypeId} {x y : Operand} {px py : PV} (ho : o.op = .binOp op t x y u) (hx : Rep w A px (ρ x)) (hy : Rep w A py (ρ y)) (h : pbin op px py K) :
    ∃ r, K r ∧ Gives P w A ρ o r := by
  unfold pbin at h
  split at h
  · rename_i k a k' b
    have ex := hx.val_eq
    have ey := hy.val_eq
    have fin : ∀ (v : Value), K (.val v) → (∀ w', Sem.run P (do eqGuard op t x y (.int k a) (.int k' b); binOp op t (.int k a) (.int k' b)) w' = .ok v w') → ∃ r, K r ∧ Gives P w A ρ o r := by
      intro v hk hv
      refine ⟨.val v, hk, gives_of (.val v) fun w' _ => ?_⟩
      have := hv w'
      unfold execOp
      simp only [ho, ex, ey, Sem.run_bind] at this ⊢
      rw [this]
      rfl
    have g0 : ∀ (op : BinOp) (w' : World), Sem.run P (eqGuard op t x y (.int k a) (.int k' b)) w' = .ok () w' := by
      intro op w'
      cases op <;> rfl
    cases op <;> simp only at h
    case add => obtain ⟨rfl, hk⟩ := h; exact fin _ hk fun w' => by simp [g0, Sem.run_bind, binOp, Op.intArith]
    case sub => obtain ⟨rfl, hk⟩ := h; exact fin _ hk fun w' => by simp [g0, Sem.run_bind, binOp, Op.intArith]
    case mul => obtain ⟨rfl, hk⟩ := h; exact fin _ hk fun w' => by simp [g0, Sem.run_bind, binOp, Op.intArith]
    case quo => obtain ⟨rfl, hb, hk⟩ := h; exact fin _ hk fun w' => by simp [g0, Sem.run_bind, binOp, Op.intDiv, hb]
    case rem => obtain ⟨rfl, hb, hk⟩ := h; exact fin _ hk fun w' => by simp [g0, Sem.run_bind, binOp, Op.intDiv, hb]
    case and => obtain ⟨rfl, hk⟩ := h; exact fin _ hk fun w' => by simp [g0, Sem.run_bind, binOp, Op.intBits, bits]
    case or => obtain ⟨rfl, hk⟩ := h; exact fin _ hk fun w' => by simp [g0, Sem.run_bind, binOp, Op.intBits, bits]
    case xor => obtain ⟨rfl, hk⟩ := h; exact fin _ hk fun w' => by simp [g0, Sem.run_bind, binOp, Op.intBits, bits]
    case andNot => obtain ⟨rfl, hk⟩ := h; exact fin _ hk fun w' => by simp [g0, Sem.run_bind, binOp, Op.intBits, bits]
    case shl => obtain ⟨hb, hk⟩ := h; exact fin _ hk fun w' => by simp [g0, Sem.run_bind, binOp, Op.shift, Int.not_lt.2 hb]
    case shr => obtain ⟨hb, hk⟩ := h; exact fin _ hk fun w' => by simp [g0, Sem.run_bind, binOp, Op.shift, Int.not_lt.2 hb]
    case eql => obtain ⟨rfl, hk⟩ := h; exact fin _ hk fun w' => by simp [g0, Sem.run_bind, binOp, Op.intCmp]
    case neq => obtain ⟨rfl, hk⟩ := h; exact fin _ hk fun w' => by simp [g0, Sem.run_bind, binOp, Op.intCmp]
    case lss => obtain ⟨rfl, hk⟩ := h; exact fin _ hk fun w' => by simp [g0, Sem.run_bind, binOp, Op.intCmp]
    case leq => obtain ⟨rfl, hk⟩ := h; exact fin _ hk fun w' => by simp [g0, Sem.run_bind, binOp, Op.intCmp]
    case gtr => obtain ⟨rfl, hk⟩ := h; exact fin _ hk fun w' => by simp [g0, Sem.run_bind, binOp, Op.intCmp]
    case geq => obtain ⟨rfl, hk⟩ := h; exact fin _ hk fun w' => by simp [g0, Sem.run_bind, binOp, Op.intCmp]
  · rename_i s s'
    have ex := hx.val_eq
    have ey := hy.val_eq
    have fin : ∀ (v : Value), K (.val v) → (∀ w', Sem.run P (do eqGuard op t x y (.string s) (.string s'); binOp op t (.string s) (.string s')) w' = .ok v w') → ∃ r, K r ∧ Gives P w A ρ o r := by
      intro v hk hv
      refine ⟨.val v, hk, gives_of (.val v) fun w' _ => ?_⟩
      have := hv w'
      unfold execOp
      simp only [ho, ex, ey, Sem.run_bind] at this ⊢
      rw [this]
      rfl
    have g0 : ∀ (op : BinOp) (w' : World), Sem.run P (eqGuard op t x y (.string s) (.string s')) w' = .ok () w' := by
      intro op w'
      cases op <;> rfl
    have ecat : s ++ s' = mk (bl s ++ bl s') := by
      apply ByteArray.ext
      simp [mk, bl]
    cases op <;> simp only at h <;> try exact h.elim
    case add =>
      obtain ⟨hle, hk⟩ := h
      refine fin _ hk fun w' => ?_
      have hle' : ¬ (IntKind.i64.max < ((s.size + s'.size : Nat) : Int)) := by rw [size_bl, size_bl]; simp [IntKind.max, IntKind.signed, IntKind.bits]; omega
      simp [g0, Sem.run_bind, binOp, Op.stringOp, ← ecat, hle']
      rw [size_bl, size_bl]
      exact hle
    case eql => exact fin _ h fun w' => by simp [g0, Sem.run_bind, binOp, Op.stringOp, toList_bl]
    case neq => exact fin _ h fun w' => by simp [g0, Sem.run_bind, binOp, Op.stringOp, toList_bl]
    case lss => exact fin _ h fun w' => by simp [g0, Sem.run_bind, binOp, Op.stringOp, toList_bl]
    case leq => exact fin _ h fun w' => by simp [g0, Sem.run_bind, binOp, Op.stringOp, toList_bl]
    case gtr => exact fin _ h fun w' => by simp [g0, Sem.run_bind, binOp, Op.stringOp, toList_bl]
    case geq => exact fin _ h fun w' => by simp [g0, Sem.run_bind, binOp, Op.stringOp, toList_bl]
  · exact h.elim
end
end Go.PM

namespace Go.PM
open Go.RowKit
theorem at_add (b off n : Nat) : (at_ b off).add n = at_ b (off + n) := by
  unfold Addr.add at_
  split
  · rename_i h; subst h; rfl
  · rfl
def look : Heap → Int → Option PObj
  | [], _ => none
  | (m, o) :: r, n => if m = n then some o else look r n
theorem look_mem {n : Int} {o : PObj} : ∀ {H : Heap}, look H n = some o → (n, o) ∈ H
  | [], h => by simp [look] at h
  | (m, o') :: r, h => by
    simp only [look] at h
    split at h
    · rename_i hm; cases h; subst hm; exact .head _
    · exact .tail _ (look_mem h)
section
variable {w : World} {A : Nat → Prop} {v : Value}
theorem Rep.ptr_inv {n : Int} {off : Nat} (h : Rep w A (.ptr n off) v) : ∃ b : Nat, n = b ∧ v = .pointer (some (at_ b off)) ∧ ∃ x, w.shape? b = some x := by
  cases h with | ptr b off x hs => exact ⟨b, rfl, rfl, x, hs⟩
theorem Rep.iptr_inv {cs : List PV} {off : Nat} (h : Rep w A (.iptr cs off) v) : ∃ (b off0 : Nat) (f : Nat → Value), A b ∧ v = .pointer (some (at_ b (off0 + off))) ∧
    (∀ (j : Nat) (u : PV), cs[j]? = some u → w.cell? (at_ b (off0 + j)) = some (f j)) ∧ ∀ (j : Nat) (u : PV), cs[j]? = some u → Rep w A u (f j) := by
  cases h with | iptr cs b off0 off f hA h1 h2 => exact ⟨b, off0, f, hA, rfl, h1, h2⟩
theorem Rep.list_inv {es : Nat} {xs : List PV} (h : Rep w A (.list es xs) v) : (xs = [] ∧ ∃ a c, v = .slice a 0 c) ∨
    ∃ (b off c : Nat) (f : Nat → Value), A b ∧ xs.length ≤ c ∧ v = .slice (some (at_ b off)) xs.length c ∧ (∀ x ∈ xs, x.cells.length = es) ∧
      (∀ (j : Nat) (u : PV), (flat xs)[j]? = some u → w.cell? (at_ b (off + j)) = some (f j) ∧ u.one = true) ∧ ∀ (j : Nat) (u : PV), (flat xs)[j]? = some u → Rep w A u (f j) := by
  cases h with
  | nil es a c => exact .inl ⟨rfl, a, c, rfl⟩
  | list es xs b off c f hA hc hes h1 h2 => exact .inr ⟨b, off, c, f, hA, hc, rfl, hes, h1, h2⟩
theorem Rep.agg_inv {cs : List PV} (h : Rep w A (.agg cs) v) : ∃ f : Nat → Value, v = .agg ((List.range cs.length).map f).toArray ∧ ∀ (j : Nat) (u : PV), cs[j]? = some u → Rep w A u (f j) := by
  cases h with | agg cs f h2 => exact ⟨f, rfl, h2⟩
theorem Rep.tuple_inv {cs : List PV} (h : Rep w A (.tuple cs) v) : ∃ f : Nat → Value, v = .tuple ((List.range cs.length).map f).toArray ∧ ∀ (j : Nat) (u : PV), cs[j]? = some u → Rep w A u (f j) := by
  cases h with | tuple cs f h2 => exact ⟨f, rfl, h2⟩
theorem Rep.row_inv {n : Int} {es len : Nat} (h : Rep w A (.row n es len) v) : (n < 0 ∧ len = 0 ∧ v = .slice none 0 0) ∨
    ∃ (b c N : Nat) (t : TypeId), n = b ∧ v = .slice (some (at_ b 0)) len c ∧ w.shape? b = some (t, N) ∧ N = c * es ∧ len ≤ c ∧ c ≤ maxLen := by
  cases h with
  | rownil n es hn => exact .inl ⟨hn, rfl, rfl⟩
  | row b es len c N t hs hN hl hm => exact .inr ⟨b, c, N, t, rfl, rfl, hs, hN, hl, hm⟩
theorem Rep.sub_inv {n : Int} {es off len : Nat} (h : Rep w A (.sub n es off len) v) : (len = 0 ∧ ∃ a c, v = .slice a 0 c) ∨ ∃ b c : Nat, n = b ∧ v = .slice (some (at_ b off)) len c ∧ len ≤ c ∧ ∃ x, w.shape? b = some x := by
  cases h with
  | subnil n es off a c => exact .inl ⟨rfl, a, c, rfl⟩
  | sub b es off len c x hs hl => exact .inr ⟨b, c, rfl, rfl, hl, x, hs⟩
theorem Rep.mp_inv {n : Int} (h : Rep w A (.mp n) v) : ∃ b : Nat, n = b ∧ v = .map (some b) ∧ kindOf w b = some none := by
  cases h with | mp b hk => exact ⟨b, rfl, rfl, hk⟩
end
/-- Where the flat cells of a list's element lie. -/
theorem flat_get (es : Nat) (xs : List PV) (h : ∀ x ∈ xs, x.cells.length = es) (i j : Nat) (e u : PV) (hi : xs[i]? = some e) (hj : e.cells[j]? = some u) : (flat xs)[i * es + j]? = some u := by
  induction xs generalizing i with
  | nil => simp at hi
  | cons x xs ih =>
    have hx := h x (.head _)
    cases i with
    | zero =>
      simp at hi
      subst hi
      have : j < x.cells.length := (List.getElem?_eq_some_iff.1 hj).1
      simp only [flat, List.flatMap_cons, Nat.zero_mul, Nat.zero_add]
      rw [List.getElem?_append_left this]
      exact hj
    | succ i =>
      have := ih (fun y hy => h y (.tail _ hy)) i (by simpa using hi)
      simp only [flat, List.flatMap_cons]
      rw [List.getElem?_append_right (by rw [hx, Nat.succ_mul]; omega)]
      rw [show (i + 1) * es + j - x.cells.length = i * es + j by rw [hx, Nat.succ_mul]; omega]
      exact this
section
variable {P : Program} {G : Globs} {H : Heap} {fr : List PV} {w : World} {A : Nat → Prop} {ρ : Operand → Value} {o : Oper} {K : PV → Prop}
/-- What an operation reads: its operands, the objects. -/
structure Ctx (G : Globs) (H : Heap) (fr : List PV) (w : World) (A : Nat → Prop) (ρ : Operand → Value) : Prop where
  op : ∀ o, Rep w A (opnd G fr o) (ρ o)
  obj : ∀ n o, look H n = some o → ObjRep w A n o
def pun (op : UnOp) (x : PV) (K : PV → Prop) : Prop :=
  match op, x with
  | .neg, .val (.int k n) => K (pint k (k.wrap (0 - n)))
  | .xor, .val (.int k n) => K (pint k (bits .xor k (if k.signed then -1 else k.max) n))
  | .not, .val (.bool b) => K (pbool (!b))
  | _, _ => False
theorem pun_sound {op : UnOp} {t : TypeId} {x : Operand} {px : PV} (ho : o.op = .unOp op t x) (hx : Rep w A px (ρ x)) (h : pun op px K) : ∃ r, K r ∧ Gives P w A ρ o r := by
  unfold pun at h
  split at h
  · refine ⟨_, h, gives_of (.val _) fun w' _ => ?_⟩
    unfold execOp; simp [ho, hx.val_eq, Op.unary, Op.intArith]
  · refine ⟨_, h, gives_of (.val _) fun w' _ => ?_⟩
    unfold execOp; simp [ho, hx.val_eq, Op.unary, Op.intBits, bits]
  · refine ⟨_, h, gives_of (.val _) fun w' _ => ?_⟩
    unfold execOp; simp [ho, hx.val_eq, Op.unary]
  · exact h.elim
/-- A load of a variable of type F out of the cells cs, from off on. -/
def pload (F : TF) (cs : List PV) (off : Nat) (K : PV → Prop) : Prop :=
  if F.agg then off + F.size ≤ cs.length ∧ K (.agg ((cs.drop off).take F.size))
  else match cs[off]? with
    | some u => K u
    | none => False
theorem isAgg_run {t : TypeId} {F : TF} (hF : tf P t = some F) (w : World) : (isAgg t).run P w = .ok F.agg w := by
  obtain ⟨d, i, hd, hi, rfl⟩ := tf_some hF
  unfold isAgg
  cases d <;> simp [run_underlying hd, aggD]
theorem sizeOf_run {t : TypeId} {F : TF} (hF : tf P t = some F) (w : World) : (sizeOf t).run P w = .ok F.size w := by
  obtain ⟨d, i, hd, hi, rfl⟩ := tf_some hF
  simp [sizeOf, typeInfo, hi]
/-- loads through an address -/
theorem load_gives {t : TypeId} {x : Operand} {F : TF} (ho : o.op = .load t x) (hF : tf P t = some F) {b off0 off : Nat} (hx : ρ x = .pointer (some (at_ b (off0 + off)))) {cs : List PV} {f : Nat → Value}
    (hc : ∀ (j : Nat) (u : PV), cs[j]? = some u → w.cell? (at_ b (off0 + j)) = some (f j)) (hr : ∀ (j : Nat) (u : PV), cs[j]? = some u → Rep w A u (f j)) (h : pload F cs off K) :
    ∃ r, K r ∧ Gives P w A ρ o r := by
  unfold pload at h
  split at h
  · rename_i ha
    obtain ⟨hle, hk⟩ := h
    refine ⟨_, hk, .agg ((List.range F.size).map fun j => f (off + j)).toArray, ?_, fun w' hw => ?_⟩
    · have := Rep.agg (w := w) (A := A) ((cs.drop off).take F.size) (fun j => f (off + j)) (fun j u hu => by
        rw [List.getElem?_take] at hu
        split at hu
        · rw [List.getElem?_drop] at hu; exact hr _ _ hu
        · cases hu)
      rw [show ((cs.drop off).take F.size).length = F.size by simp; omega] at this
      exact this
    · have hl := run_loadCells (P := P) w' (at_ b (off0 + off)) F.size (fun j => f (off + j)) (fun j hj => by
        rw [at_add, Nat.add_assoc]
        have hlt : off + j < cs.length := by omega
        exact hw.cell (hc (off + j) _ (List.getElem?_eq_getElem hlt)))
      unfold execOp
      simp [ho, hx, Instr.loadAt, Instr.sureAddr, loadVar, isAgg_run hF, sizeOf_run hF, ha, hl]
  · rename_i ha
    split at h
    · rename_i u hu
      refine ⟨u, h, f off, hr _ _ hu, fun w' hw => ?_⟩
      have hcell := hw.cell (hc off u hu)
      unfold execOp
      simp [ho, hx, Instr.loadAt, Instr.sureAddr, loadVar, isAgg_run hF, ha, load, Sem.run, hcell]
    · exact h.elim
end
end Go.PM

namespace Go.PM
open Go.RowKit
@[reducible] def pnil : PV := .val (.slice none 0 0)
section
variable {P : Program} {G : Globs} {H : Heap} {fr : List PV} {w : World} {A : Nat → Prop} {ρ : Operand → Value} {o : Oper} {K : PV → Prop}
def pldop (P : Program) (H : Heap) (t : TypeId) (x : PV) (K : PV → Prop) : Prop :=
  match tf P t with
  | none => False
  | some F => match x with
    | .ptr n off => match look H n with
      | some o => pload F o.cells off K
      | none => False
    | .iptr cs off => pload F cs off K
    | _ => False
theorem ObjRep.block {n : Int} {b : Nat} {o : PObj} (h : ObjRep w A n o) (hn : n = b) {x : TypeId × Nat} (hx : w.shape? b = some x) :
    ∃ (cur : Array Value) (fz : Nat × Nat) (f : Nat → Value), w.heap[b]? = some (.cells cur o.ty fz) ∧ unmarked fz cur.size ∧ Grows o fz cur.size ∧
      ∀ (j : Nat) (u : PV), o.cells[j]? = some u → cur[j]? = some (f j) ∧ u.one = true ∧ Rep w A u (f j) := by
  rcases h with ⟨_, h, _⟩ | ⟨b', cur, fz, f, hb, h1, h2, h3, h4⟩ | ⟨b', es, clock, hb, h1, _⟩ | ⟨b', o', _, hb, h1, h2, _⟩
  · omega
  · have : b' = b := by omega
    subst this
    exact ⟨cur, fz, f, h1, h2, h3, h4⟩
  · have : b' = b := by omega
    subst this
    simp [World.shape?, h1] at hx
  · have : b' = b := by omega
    subst this
    rcases h2 with h2 | ⟨es, c, rfl⟩
    · rw [kind_shape.2 hx] at h2
      cases h2
    · simp [World.shape?, h1] at hx
theorem cell_of_block {b off : Nat} {cur : Array Value} {t : TypeId} {fz : Nat × Nat} (h : w.heap[b]? = some (.cells cur t fz)) : w.cell? (at_ b off) = cur[off]? := by
  simp [World.cell?, h]
theorem pldop_sound {t : TypeId} {x : Operand} {px : PV} (ho : o.op = .load t x) (hx : Rep w A px (ρ x)) (hob : ∀ n o, look H n = some o → ObjRep w A n o) (h : pldop P H t px K) :
    ∃ r, K r ∧ Gives P w A ρ o r := by
  unfold pldop at h
  split at h
  · exact h.elim
  · rename_i F hF
    split at h
    · rename_i n off
      split at h
      · rename_i ob hl
        obtain ⟨b, rfl, hv, xs, hsx⟩ := hx.ptr_inv
        obtain ⟨cur, fz, f, hh, _, _, hc⟩ := (hob _ _ hl).block rfl hsx
        refine load_gives (off0 := 0) ho hF (by simpa using hv) (cs := ob.cells) (f := f) ?_ (fun j u hu => (hc j u hu).2.2) h
        intro j u hu
        rw [cell_of_block hh, Nat.zero_add]
        exact (hc j u hu).1
      · exact h.elim
    · rename_i cs off
      obtain ⟨b, off0, f, hA, hv, h1, h2⟩ := hx.iptr_inv
      exact load_gives ho hF hv h1 h2 h
    · exact h.elim
def pfaddr (P : Program) (t : TypeId) (x : PV) (k : Nat) (K : PV → Prop) : Prop :=
  match tf P t with
  | some ⟨.struct fs, _, _, _, _⟩ => match fs[k]? with
    | some (off, sz, _) => sz ≠ 0 ∧ match x with
      | .ptr n o => K (.ptr n (o + off))
      | .iptr cs o => K (.iptr cs (o + off))
      | _ => False
    | none => False
  | _ => False
theorem pfaddr_sound {t : TypeId} {x : Operand} {k : Nat} {px : PV} (ho : o.op = .fieldAddr t x k) (hx : Rep w A px (ρ x)) (h : pfaddr P t px k K) : ∃ r, K r ∧ Gives P w A ρ o r := by
  unfold pfaddr at h
  split at h
  · rename_i fs sz by_ ag z hF
    split at h
    · rename_i off s _ hk
      obtain ⟨hs0, h⟩ := h
      obtain ⟨fa, hu, hfs⟩ := tf_struct hF rfl
      obtain ⟨f, i, d, hf, hoff, hi, hisz, _, _⟩ := fieldsOf_get _ _ hfs k off s _ hk
      have hfa : fa[k]? = some f := by simpa using hf
      have run : ∀ (b o' : Nat) (w' : World), Sem.run P (Instr.fieldAt t (.pointer (some (at_ b o'))) k) w' = .ok (.pointer (some (at_ b (o' + off)))) w' := by
        intro b o' w'
        have hlt : k < fa.size := (Array.getElem?_eq_some_iff.1 hfa).1
        have hge : fa[k] = f := (Array.getElem?_eq_some_iff.1 hfa).2
        simp [Instr.fieldAt, run_underlying hu, hlt, hge, Instr.sureAddr, fieldPlace, sizeOf, typeInfo, hi, hisz, hs0, at_add, hoff]
      split at h
      · rename_i n o'
        obtain ⟨b, rfl, hv, xs, hsx⟩ := hx.ptr_inv
        refine ⟨_, h, _, .ptr b (o' + off) xs hsx, fun w' _ => ?_⟩
        unfold execOp
        simp [ho, hv, run]
      · rename_i cs o'
        obtain ⟨b, off0, f', hA, hv, h1, h2⟩ := hx.iptr_inv
        refine ⟨_, h, _, .iptr cs b off0 (o' + off) f' hA h1 h2, fun w' _ => ?_⟩
        unfold execOp
        simp [ho, hv, run, Nat.add_assoc]
      · exact h.elim
    · exact h.elim
  · exact h.elim
def piaddr (P : Program) (t : TypeId) (x i : PV) (K : PV → Prop) : Prop :=
  match tf P t, i with
  | some ⟨.slice _ es _, _, _, _, _⟩, .val (.int _ k) => match x with
    | .list es' xs => es' = es ∧ 0 ≤ k ∧ k < xs.length ∧ K (.iptr (xs.getD k.toNat .junk).cells 0)
    | .full es' xs => es' = es ∧ 0 ≤ k ∧ k < xs.length ∧ K (.iptr (xs.getD k.toNat .junk).cells 0)
    | .row n es' len => es' = es ∧ 0 ≤ k ∧ k < len ∧ K (.ptr n (k.toNat * es))
    | .sub n es' off len => es' = es ∧ 0 ≤ k ∧ k < len ∧ K (.ptr n (off + k.toNat * es))
    | _ => False
  | some ⟨.array n _ es _, _, _, _, _⟩, .val (.int _ k) => match x with
    | .ptr m off => 0 ≤ k ∧ k < n ∧ K (.ptr m (off + k.toNat * es))
    | .iptr cs off => 0 ≤ k ∧ k < n ∧ K (.iptr cs (off + k.toNat * es))
    | _ => False
  | _, _ => False
theorem run_indexAt_sl {t e : TypeId} {i : TypeInfo} (ht : P.underlying t = some (.slice e)) (hi : P.info? e = some i) (b off len cap : Nat) (kd : IntKind) (k : Int) (h0 : 0 ≤ k) (h1 : k < len) (w' : World) :
    Sem.run P (Instr.indexAt t (.slice (some (at_ b off)) len cap) (.int kd k)) w' = .ok (.pointer (some (at_ b (off + k.toNat * i.size)))) w' := by
  simp [Instr.indexAt, asIntOf, run_underlying ht, h0, h1, sizeOf, typeInfo, hi, at_add]
theorem run_indexAt_ar {t e : TypeId} {n : Nat} {i : TypeInfo} (ht : P.underlying t = some (.array n e)) (hi : P.info? e = some i) (b off : Nat) (kd : IntKind) (k : Int) (h0 : 0 ≤ k) (h1 : k < n) (w' : World) :
    Sem.run P (Instr.indexAt t (.pointer (some (at_ b off))) (.int kd k)) w' = .ok (.pointer (some (at_ b (off + k.toNat * i.size)))) w' := by
  simp [Instr.indexAt, asIntOf, run_underlying ht, Instr.sureAddr, h0, h1, sizeOf, typeInfo, hi, at_add]
theorem getD_of_lt {xs : List PV} {k : Int} (h0 : 0 ≤ k) (h1 : k < xs.length) : xs[k.toNat]? = some (xs.getD k.toNat .junk) := by
  have : k.toNat < xs.length := by omega
  simp [List.getD_eq_getElem?_getD, List.getElem?_eq_getElem this]
theorem piaddr_sound {t : TypeId} {x i : Operand} {px pi : PV} (ho : o.op = .indexAddr t x i) (hx : Rep w A px (ρ x)) (hi : Rep w A pi (ρ i)) (h : piaddr P t px pi K) : ∃ r, K r ∧ Gives P w A ρ o r := by
  unfold piaddr at h
  split at h
  · rename_i e es eb s1 s2 s3 s4 kd k hF
    obtain ⟨hu, ti, hti, hes, _⟩ := tf_slice hF rfl
    have ei := hi.val_eq
    split at h
    · rename_i es' xs
      obtain ⟨rfl, h0, h1, hk⟩ := h
      rcases hx.list_inv with ⟨rfl, _⟩ | ⟨b, off, c, f, hA, hc, hv, hl, hc1, hc2⟩
      · simp at h1; omega
      · refine ⟨_, hk, _, .iptr _ b (off + k.toNat * es') 0 (fun j => f (k.toNat * es' + j)) hA ?_ ?_, fun w' _ => ?_⟩
        · intro j u hu
          rw [Nat.add_assoc]
          exact (hc1 _ _ (flat_get es' xs hl _ _ _ _ (getD_of_lt h0 h1) hu)).1
        · intro j u hu
          exact hc2 _ _ (flat_get es' xs hl _ _ _ _ (getD_of_lt h0 h1) hu)
        · unfold execOp
          simp [ho, hv, ei, run_indexAt_sl hu hti b off _ c kd k h0 h1, hes]
    · rename_i es' xs
      obtain ⟨rfl, h0, h1, hk⟩ := h
      cases hx' : ρ x with
      | slice a n c =>
        rw [hx'] at hx
        cases hx with
        | full0 => simp at h1; omega
        | full es xs b off f hA hl hc1 hc2 =>
          refine ⟨_, hk, _, .iptr _ b (off + k.toNat * es') 0 (fun j => f (k.toNat * es' + j)) hA ?_ ?_, fun w' _ => ?_⟩
          · intro j u hu
            rw [Nat.add_assoc]
            exact (hc1 _ _ (flat_get es' xs hl _ _ _ _ (getD_of_lt h0 h1) hu)).1
          · intro j u hu
            exact hc2 _ _ (flat_get es' xs hl _ _ _ _ (getD_of_lt h0 h1) hu)
          · unfold execOp
            simp [ho, hx', ei, run_indexAt_sl hu hti b off _ _ kd k h0 h1, hes]
      | _ => rw [hx'] at hx; cases hx
    · rename_i n es' len
      obtain ⟨rfl, h0, h1, hk⟩ := h
      rcases hx.row_inv with ⟨_, rfl, _⟩ | ⟨b, c, N, t', rfl, hv, hs, hN, hl, hm⟩
      · omega
      · refine ⟨_, hk, _, .ptr b _ _ hs, fun w' _ => ?_⟩
        unfold execOp
        simp [ho, hv, ei, run_indexAt_sl hu hti b 0 len c kd k h0 h1, hes]
    · rename_i n es' off len
      obtain ⟨rfl, h0, h1, hk⟩ := h
      rcases hx.sub_inv with ⟨rfl, _⟩ | ⟨b, c, rfl, hv, hl, xs, hsx⟩
      · omega
      · refine ⟨_, hk, _, .ptr b _ xs hsx, fun w' _ => ?_⟩
        unfold execOp
        simp [ho, hv, ei, run_indexAt_sl hu hti b off len c kd k h0 h1, hes]
    · exact h.elim
  · rename_i n e es ea s1 s2 s3 s4 kd k hF
    obtain ⟨hu, ti, d, hti, hes, _, _⟩ := tf_array hF rfl
    have ei := hi.val_eq
    split at h
    · rename_i m off
      obtain ⟨h0, h1, hk⟩ := h
      obtain ⟨b, rfl, hv, xs, hsx⟩ := hx.ptr_inv
      refine ⟨_, hk, _, .ptr b _ xs hsx, fun w' _ => ?_⟩
      unfold execOp
      simp [ho, hv, ei, run_indexAt_ar hu hti b off kd k h0 h1, hes]
    · rename_i cs off
      obtain ⟨h0, h1, hk⟩ := h
      obtain ⟨b, off0, f', hA, hv, hc1, hc2⟩ := hx.iptr_inv
      refine ⟨_, hk, _, .iptr cs b off0 _ f' hA hc1 hc2, fun w' _ => ?_⟩
      unfold execOp
      simp [ho, hv, ei, run_indexAt_ar hu hti b (off0 + off) kd k h0 h1, hes, Nat.add_assoc]
    · exact h.elim
  · exact h.elim
/-- A length. -/
def plen (P : Program) (t : TypeId) (x : PV) (K : PV → Prop) : Prop :=
  match tf P t with
  | some ⟨.string, _, _, _, _⟩ => match x with
    | .val (.string s) => K (pint .i64 (bl s).length)
    | _ => False
  | some ⟨.slice _ _ _, _, _, _, _⟩ => match x with
    | .list _ xs => K (pint .i64 xs.length)
    | .full _ xs => K (pint .i64 xs.length)
    | .row _ _ n => K (pint .i64 n)
    | .sub _ _ _ n => K (pint .i64 n)
    | .val (.slice none 0 0) => K (pint .i64 0)
    | _ => False
  | some ⟨.array n _ _ _, _, _, _, _⟩ => K (pint .i64 n)
  | _ => False
theorem plen_sound {t ty : TypeId} {x : Operand} {px : PV} (ho : o.op = .call { callee := .builtin .len, args := #[x], argTypes := #[t] }) (hx : Rep w A px (ρ x)) (h : plen P t px K) :
    ∃ r, K r ∧ Gives P w A ρ o r := by
  have fin : ∀ (n : Int), K (pint .i64 n) → (∀ w', Sem.run P (Builtin.len_ #[t] o.type #[ρ x]) w' = .ok (.int .i64 n) w') → ∃ r, K r ∧ Gives P w A ρ o r := by
    intro n hk hv
    refine ⟨_, hk, _, .val _, fun w' _ => ?_⟩
    unfold execOp
    simp [ho, resolve, invoke, builtin, hv]
  unfold plen at h
  split at h
  · rename_i hF
    split at h
    · rename_i s
      refine fin _ h fun w' => ?_
      simp [Builtin.len_, run_underlying (tf_string hF rfl), hx.val_eq, goInt, size_bl]
    · exact h.elim
  · rename_i e es eb s1 s2 s3 s4 hF
    have hu := (tf_slice hF rfl).1
    split at h
    · rename_i es' xs
      rcases hx.list_inv with ⟨rfl, a, c, hv⟩ | ⟨b, off, c, f, hA, hc, hv, _⟩
      · exact fin _ h fun w' => by simp [Builtin.len_, run_underlying hu, hv, goInt]
      · exact fin _ h fun w' => by simp [Builtin.len_, run_underlying hu, hv, goInt]
    · rename_i es' xs
      cases hx' : ρ x with
      | slice a n c =>
        rw [hx'] at hx
        cases hx with
        | full0 => exact fin _ h fun w' => by simp [Builtin.len_, run_underlying hu, hx', goInt]
        | full => exact fin _ h fun w' => by simp [Builtin.len_, run_underlying hu, hx', goInt]
      | _ => rw [hx'] at hx; cases hx
    · rename_i n es' len
      rcases hx.row_inv with ⟨_, rfl, hv⟩ | ⟨b, c, N, t', rfl, hv, _⟩
      · exact fin _ h fun w' => by simp [Builtin.len_, run_underlying hu, hv, goInt]
      · exact fin _ h fun w' => by simp [Builtin.len_, run_underlying hu, hv, goInt]
    · rename_i n es' off len
      rcases hx.sub_inv with ⟨rfl, a, c, hv⟩ | ⟨b, c, rfl, hv, _⟩
      · exact fin _ h fun w' => by simp [Builtin.len_, run_underlying hu, hv, goInt]
      · exact fin _ h fun w' => by simp [Builtin.len_, run_underlying hu, hv, goInt]
    · exact fin _ h fun w' => by simp [Builtin.len_, run_underlying hu, hx.val_eq, goInt]
    · exact h.elim
  · rename_i n e es ea s1 s2 s3 s4 hF
    have hu := (tf_array hF rfl).1
    exact fin _ h fun w' => by simp [Builtin.len_, run_underlying hu, goInt]
  · exact h.elim
end
end Go.PM

namespace Go.PM
open Go.RowKit
section
variable {P : Program} {G : Globs} {H : Heap} {fr : List PV} {w : World} {A : Nat → Prop} {ρ : Operand → Value} {o : Oper} {K : PV → Prop}
/-- A part of an aggregate. -/
theorem part_gives {e : TypeId} {sz : Nat} {ag : Bool} {i : TypeInfo} {d : TypeDesc} (hi : P.info? e = some i) (hs : i.size = sz) (hd : P.underlying e = some d) (ha : aggD d = ag) {cs : List PV} {f : Nat → Value} {off : Nat}
    (h2 : ∀ (j : Nat) (u : PV), cs[j]? = some u → Rep w A u (f j)) (h : pload ⟨.other, sz, 0, ag, none⟩ cs off K) :
    ∃ r, K r ∧ ∃ v, Rep w A r v ∧ ∀ w', Sem.run P (part e ((List.range cs.length).map f).toArray off) w' = .ok v w' := by
  have hagg : ∀ w', Sem.run P (isAgg e) w' = .ok ag w' := by
    intro w'
    subst ha
    unfold isAgg
    cases d <;> simp [run_underlying hd, aggD]
  unfold pload at h
  simp only at h
  split at h
  · rename_i hag
    obtain ⟨hle, hk⟩ := h
    refine ⟨_, hk, .agg ((List.range sz).map fun j => f (off + j)).toArray, ?_, fun w' => ?_⟩
    · have := Rep.agg (w := w) (A := A) ((cs.drop off).take sz) (fun j => f (off + j)) (fun j u hu => by
        rw [List.getElem?_take] at hu
        split at hu
        · rw [List.getElem?_drop] at hu; exact h2 _ _ hu
        · cases hu)
      rw [show ((cs.drop off).take sz).length = sz by simp; omega] at this
      exact this
    · have : (((List.range cs.length).map f).drop off).take sz = (List.range sz).map fun j => f (off + j) := by
        apply List.ext_getElem
        · simp; omega
        · intro j h1 h2
          simp
      simp [part, hagg, hag, sizeOf, typeInfo, hi, hs, this]
  · rename_i hag
    split at h
    · rename_i u hu
      refine ⟨u, h, f off, h2 _ _ hu, fun w' => ?_⟩
      have hlt : off < cs.length := (List.getElem?_eq_some_iff.1 hu).1
      simp [part, hagg, hag, hlt]
    · exact h.elim
def pfield (P : Program) (t : TypeId) (x : PV) (k : Nat) (K : PV → Prop) : Prop :=
  match tf P t, x with
  | some ⟨.struct fs, _, _, _, _⟩, .agg cs => match fs[k]? with
    | some (off, sz, ag) => pload ⟨.other, sz, 0, ag, none⟩ cs off K
    | none => False
  | _, _ => False
theorem pfield_sound {t : TypeId} {x : Operand} {k : Nat} {px : PV} (ho : o.op = .field t x k) (hx : Rep w A px (ρ x)) (h : pfield P t px k K) : ∃ r, K r ∧ Gives P w A ρ o r := by
  unfold pfield at h
  split at h
  · rename_i fs s1 s2 s3 s4 cs hF
    split at h
    · rename_i off sz ag hk
      obtain ⟨fa, hu, hfs⟩ := tf_struct hF rfl
      obtain ⟨f, i, d, hf, hoff, hi, hisz, hd, hag⟩ := fieldsOf_get _ _ hfs k off sz ag hk
      have hfa : fa[k]? = some f := by simpa using hf
      have hlt : k < fa.size := (Array.getElem?_eq_some_iff.1 hfa).1
      have hge : fa[k] = f := (Array.getElem?_eq_some_iff.1 hfa).2
      obtain ⟨g, hv, h2⟩ := hx.agg_inv
      obtain ⟨r, hr, v, hrep, hrun⟩ := part_gives hi hisz hd hag h2 h
      refine ⟨r, hr, v, hrep, fun w' _ => ?_⟩
      unfold execOp
      simp [ho, hv, Instr.field, run_underlying hu, hlt, hge, asAgg, hoff, hrun]
    · exact h.elim
  · exact h.elim
def pindex (P : Program) (t : TypeId) (x i : PV) (K : PV → Prop) : Prop :=
  match tf P t, i with
  | some ⟨.string, _, _, _, _⟩, .val (.int _ k) => match x with
    | .val (.string s) => 0 ≤ k ∧ k < (bl s).length ∧ K (pint .u8 ((bl s).getD k.toNat 0).toNat)
    | _ => False
  | some ⟨.array n _ es ea, _, _, _, _⟩, .val (.int _ k) => match x with
    | .agg cs => 0 ≤ k ∧ k < n ∧ pload ⟨.other, es, 0, ea, none⟩ cs (k.toNat * es) K
    | _ => False
  | _, _ => False
theorem pindex_sound {t : TypeId} {x i : Operand} {px pi : PV} (ho : o.op = .index t x i) (hx : Rep w A px (ρ x)) (hi : Rep w A pi (ρ i)) (h : pindex P t px pi K) : ∃ r, K r ∧ Gives P w A ρ o r := by
  unfold pindex at h
  split at h
  · rename_i s1 s2 s3 s4 kd k hF
    have ei := hi.val_eq
    split at h
    · rename_i s
      obtain ⟨h0, h1, hk⟩ := h
      have ex := hx.val_eq
      refine ⟨_, hk, _, .val _, fun w' _ => ?_⟩
      have hlt : k.toNat < s.size := by rw [size_bl]; omega
      have hget : s[k.toNat] = (bl s).getD k.toNat 0 := by
        have : k.toNat < (bl s).length := by omega
        simp [List.getD_eq_getElem?_getD, List.getElem?_eq_getElem this]
        rfl
      unfold execOp
      simp [ho, ex, ei, Instr.index, asIntOf, run_underlying (tf_string hF rfl), h0, getElem?_pos s k.toNat hlt, hget]
    · exact h.elim
  · rename_i n e es ea s1 s2 s3 s4 kd k hF
    obtain ⟨hu, ti, d, hti, hes, hd, hag⟩ := tf_array hF rfl
    have ei := hi.val_eq
    split at h
    · rename_i cs
      obtain ⟨h0, h1, hk⟩ := h
      obtain ⟨g, hv, h2⟩ := hx.agg_inv
      obtain ⟨r, hr, v, hrep, hrun⟩ := part_gives hti hes hd hag h2 hk
      refine ⟨r, hr, v, hrep, fun w' _ => ?_⟩
      unfold execOp
      simp [ho, hv, ei, Instr.index, asIntOf, run_underlying hu, h0, h1, sizeOf, typeInfo, hti, hes, hrun]
    · exact h.elim
  · exact h.elim
/-- The bounds of a cut: low and high (left out: 0 and the length). -/
def pbound (d : Nat) : Option PV → Option Int
  | none => some d
  | some (.val (.int _ k)) => some k
  | _ => none
theorem pbound_some (d d' : Nat) (p : PV) : pbound d (some p) = pbound d' (some p) := by
  cases p with
  | val v => cases v <;> rfl
  | _ => rfl
/-- a string's, a slice's or an array's part -/
def pslice (P : Program) (t : TypeId) (x : PV) (lo hi mx : Option PV) (K : PV → Prop) : Prop :=
  match tf P t with
  | some ⟨.string, _, _, _, _⟩ => match x with
    | .val (.string s) => mx = none ∧ ∃ l h : Int, pbound 0 lo = some l ∧ pbound (bl s).length hi = some h ∧ 0 ≤ l ∧ l ≤ h ∧ h ≤ (bl s).length ∧ K (pstr (((bl s).take h.toNat).drop l.toNat))
    | _ => False
  | some ⟨.slice _ es _, _, _, _, _⟩ => match x with
    | .list es' xs => es' = es ∧ match mx with
      | none => ∃ l h : Int, pbound 0 lo = some l ∧ pbound xs.length hi = some h ∧ 0 ≤ l ∧ l ≤ h ∧ h ≤ xs.length ∧ K (.list es ((xs.take h.toNat).drop l.toNat))
      | some m => ∃ l h : Int, pbound 0 lo = some l ∧ hi ≠ none ∧ pbound 0 hi = some h ∧ pbound 0 (some m) = some h ∧ 0 ≤ l ∧ l ≤ h ∧ h ≤ xs.length ∧ K (.full es ((xs.take h.toNat).drop l.toNat))
    | .row n es' len => es' = es ∧ mx = none ∧ ∃ l h : Int, pbound 0 lo = some l ∧ pbound len hi = some h ∧ 0 ≤ l ∧ l ≤ h ∧ h ≤ len ∧ match lo with
      | none => K (.row n es h.toNat)
      | some _ => K (.sub n es (l.toNat * es) (h - l).toNat)
    | .sub n es' off len => es' = es ∧ mx = none ∧ ∃ l h : Int, pbound 0 lo = some l ∧ pbound len hi = some h ∧ 0 ≤ l ∧ l ≤ h ∧ h ≤ len ∧ K (.sub n es (off + l.toNat * es) (h - l).toNat)
    | .val (.slice none 0 0) => mx = none ∧ ∃ l h : Int, pbound 0 lo = some l ∧ pbound 0 hi = some h ∧ 0 ≤ l ∧ l ≤ h ∧ h ≤ 0 ∧ K (.val (.slice none 0 0))
    | _ => False
  | some ⟨.array n _ es _, _, _, _, _⟩ => match x with
    | .ptr m off => mx = none ∧ ∃ l h : Int, pbound 0 lo = some l ∧ pbound n hi = some h ∧ 0 ≤ l ∧ l ≤ h ∧ h ≤ n ∧ K (.sub m es (off + l.toNat * es) (h - l).toNat)
    | .iptr cs off => mx = none ∧ es = 1 ∧ off + n ≤ cs.length ∧ cs.all PV.one = true ∧ ∃ l h : Int, pbound 0 lo = some l ∧ pbound n hi = some h ∧ 0 ≤ l ∧ l ≤ h ∧ h ≤ n ∧ K (.list 1 (((cs.drop off).take h.toNat).drop l.toNat))
    | _ => False
  | _ => False
theorem bound_none {d : Nat} {k : Int} (h : pbound d none = some k) : k = d := by simp [pbound] at h; exact h.symm
theorem bound_some {d : Nat} {k : Int} {p : PV} {v : Value} (h : pbound d (some p) = some k) (hr : Rep w A p v) : ∃ kd, v = .int kd k := by
  unfold pbound at h
  split at h
  · rename_i e; cases e
  · rename_i kd k' e; cases e; cases h; exact ⟨kd, hr.val_eq⟩
  · cases h
theorem bounds_run {pv : Operand → PV} (hp : ∀ o, Rep w A (pv o) (ρ o)) {lo hi : Option Operand} {isS : Bool} {len cap : Nat} {l h : Int} (hl : pbound 0 (lo.map pv) = some l) (hh : pbound len (hi.map pv) = some h)
    (h0 : 0 ≤ l) (h1 : l ≤ h) (h2 : h ≤ cap) (w' : World) : Sem.run P (Instr.sliceBounds isS len cap (lo.map ρ) (hi.map ρ) none) w' = .ok (l.toNat, h.toNat, cap) w' := by
  have sb : ∀ (kd : IntKind) (i : Int) (y : Nat) (c : BoundsCode), 0 ≤ i → i ≤ y → Sem.run P (Instr.sliceBound (.int kd i) y c) w' = .ok i.toNat w' := by
    intro kd i y c a b
    simp [Instr.sliceBound, asIntOf, a, b]
  cases lo with
  | none =>
    have := bound_none hl
    subst this
    cases hi with
    | none => have := bound_none hh; subst this; simp [Instr.sliceBounds]
    | some hi =>
      obtain ⟨kd, e⟩ := bound_some hh (hp hi)
      simp [Instr.sliceBounds, e, sb kd h cap _ (by omega) h2]
  | some lo =>
    obtain ⟨kl, el⟩ := bound_some hl (hp lo)
    cases hi with
    | none =>
      have := bound_none hh
      subst this
      simp [Instr.sliceBounds, el, sb kl l len _ h0 h1]
    | some hi =>
      obtain ⟨kd, e⟩ := bound_some hh (hp hi)
      have : l ≤ (h.toNat : Int) := by omega
      simp [Instr.sliceBounds, e, el, sb kd h cap _ (by omega) h2, sb kl l h.toNat _ h0 this]
theorem bounds_run3 {pv : Operand → PV} (hp : ∀ o, Rep w A (pv o) (ρ o)) {lo : Option Operand} {hi mx : Operand} {len cap : Nat} {l h m : Int} (hl : pbound 0 (lo.map pv) = some l) (hh : pbound len (some (pv hi)) = some h)
    (hm : pbound 0 (some (pv mx)) = some m) (h0 : 0 ≤ l) (h1 : l ≤ h) (h2 : h ≤ m) (h3 : m ≤ cap) (w' : World) :
    Sem.run P (Instr.sliceBounds true len cap (lo.map ρ) (some (ρ hi)) (some (ρ mx))) w' = .ok (l.toNat, h.toNat, m.toNat) w' := by
  have sb : ∀ (kd : IntKind) (i : Int) (y : Nat) (c : BoundsCode), 0 ≤ i → i ≤ y → Sem.run P (Instr.sliceBound (.int kd i) y c) w' = .ok i.toNat w' := by
    intro kd i y c a b
    simp [Instr.sliceBound, asIntOf, a, b]
  obtain ⟨kd, e⟩ := bound_some hh (hp hi)
  obtain ⟨km, em⟩ := bound_some hm (hp mx)
  have h2' : h ≤ (m.toNat : Int) := by omega
  cases lo with
  | none =>
    have := bound_none hl
    subst this
    simp [Instr.sliceBounds, e, em, sb km m cap _ (by omega) h3, sb kd h m.toNat _ (by omega) h2']
  | some lo =>
    obtain ⟨kl, el⟩ := bound_some hl (hp lo)
    have h1' : l ≤ (h.toNat : Int) := by omega
    simp [Instr.sliceBounds, e, em, el, sb km m cap _ (by omega) h3, sb kd h m.toNat _ (by omega) h2', sb kl l h.toNat _ h0 h1']
theorem run_sliceAt_sl {t e : TypeId} {i : TypeInfo} (ht : P.underlying t = some (.slice e)) (hi : P.info? e = some i) (a : Option Addr) (len cap : Nat) (lo hi' mx : Option Value) (l h m : Nat) (w' : World)
    (hb : Sem.run P (Instr.sliceBounds true len cap lo hi' mx) w' = .ok (l, h, m) w') :
    Sem.run P (Instr.sliceAt t (.slice a len cap) lo hi' mx) w' = .ok (.slice (if m = l then a else a.map (·.add (l * i.size))) (h - l) (m - l)) w' := by
  simp [Instr.sliceAt, Instr.slice, run_underlying ht, hb, sizeOf, typeInfo, hi]
theorem run_sliceAt_ar {t e : TypeId} {n : Nat} {i : TypeInfo} (ht : P.underlying t = some (.array n e)) (hi : P.info? e = some i) (a : Addr) (lo hi' : Option Value) (l h m : Nat) (w' : World)
    (hb : Sem.run P (Instr.sliceBounds false n n lo hi' none) w' = .ok (l, h, m) w') :
    Sem.run P (Instr.sliceAt t (.pointer (some a)) lo hi' none) w' = .ok (.slice (some (if m = l then a else a.add (l * i.size))) (h - l) (m - l)) w' := by
  simp [Instr.sliceAt, Instr.sureAddr, run_underlying ht, hb, sizeOf, typeInfo, hi]
/-- The flat cells of a part of a list. -/
theorem flat_part (es : Nat) (xs : List PV) (hl : ∀ x ∈ xs, x.cells.length = es) (l h : Nat) (j : Nat) (u : PV) (hu : (flat ((xs.take h).drop l))[j]? = some u) : (flat xs)[l * es + j]? = some u := by
  have hflat : ∀ (ys : List PV), (∀ x ∈ ys, x.cells.length = es) → (flat ys).length = ys.length * es := by
    intro ys
    induction ys with
    | nil => simp [flat]
    | cons y ys ih =>
      intro hy
      simp only [flat, List.flatMap_cons, List.length_append, List.length_cons] at ih ⊢
      rw [ih (fun x hx => hy x (.tail _ hx)), hy y (.head _), Nat.succ_mul]; omega
  have e1 : flat xs = flat (xs.take l) ++ flat (xs.drop l) := by
    simp only [flat]; rw [← List.flatMap_append, List.take_append_drop]
  by_cases hlx : l ≤ xs.length
  · rw [e1, List.getElem?_append_right (by rw [hflat _ (fun x hx => hl x (List.mem_of_mem_take hx))]; simp; rw [Nat.min_eq_left hlx]; omega)]
    rw [hflat _ (fun x hx => hl x (List.mem_of_mem_take hx)), List.length_take, Nat.min_eq_left hlx]
    rw [show l * es + j - l * es = j by omega]
    rw [List.drop_take] at hu
    have e2 : flat (xs.drop l) = flat ((xs.drop l).take (h - l)) ++ flat ((xs.drop l).drop (h - l)) := by
      simp only [flat]; rw [← List.flatMap_append, List.take_append_drop]
    rw [e2, List.getElem?_append_left (List.getElem?_eq_some_iff.1 hu).1]
    exact hu
  · have : (xs.take h).drop l = [] := by apply List.drop_eq_nil_of_le; simp; omega
    rw [this] at hu
    simp [flat] at hu
/-- the address of a part -/
def cutA (a : Option Addr) (c l es : Nat) : Option Addr := if c = l then a else a.map (·.add (l * es))
theorem list_part {es : Nat} {xs : List PV} {b off c : Nat} {f : Nat → Value} (hA : A b) (hc : xs.length ≤ c) (hle : ∀ x ∈ xs, x.cells.length = es)
    (hc1 : ∀ (j : Nat) (u : PV), (flat xs)[j]? = some u → w.cell? (at_ b (off + j)) = some (f j) ∧ u.one = true) (hc2 : ∀ (j : Nat) (u : PV), (flat xs)[j]? = some u → Rep w A u (f j))
    {l h : Nat} (h1 : l ≤ h) (h2 : h ≤ xs.length) : Rep w A (.list es ((xs.take h).drop l)) (.slice (cutA (some (at_ b off)) c l es) (h - l) (c - l)) := by
  have hlen : ((xs.take h).drop l).length = h - l := by simp; omega
  by_cases e : h = l
  · subst e
    have : (xs.take h).drop h = [] := List.eq_nil_of_length_eq_zero (by rw [hlen]; omega)
    rw [this, Nat.sub_self]
    exact Rep.nil _ _ _
  · unfold cutA
    rw [if_neg (by omega)]
    simp only [Option.map_some, at_add]
    have := Rep.list (w := w) (A := A) es ((xs.take h).drop l) b (off + l * es) (c - l) (fun j => f (l * es + j)) hA (by rw [hlen]; omega)
      (fun x hx => hle x (List.mem_of_mem_take (List.mem_of_mem_drop hx)))
      (fun j u hu => by rw [Nat.add_assoc]; exact hc1 _ _ (flat_part es xs hle l h j u hu)) (fun j u hu => hc2 _ _ (flat_part es xs hle l h j u hu))
    rw [hlen] at this
    exact this
theorem full_part {es : Nat} {xs : List PV} {b off c : Nat} {f : Nat → Value} (hA : A b) (hle : ∀ x ∈ xs, x.cells.length = es)
    (hc1 : ∀ (j : Nat) (u : PV), (flat xs)[j]? = some u → w.cell? (at_ b (off + j)) = some (f j) ∧ u.one = true) (hc2 : ∀ (j : Nat) (u : PV), (flat xs)[j]? = some u → Rep w A u (f j))
    {l h : Nat} (h1 : l ≤ h) (h2 : h ≤ xs.length) (hc : c = h) : Rep w A (.full es ((xs.take h).drop l)) (.slice (cutA (some (at_ b off)) c l es) (h - l) (c - l)) := by
  subst hc
  have hlen : ((xs.take c).drop l).length = c - l := by simp; omega
  by_cases e : c = l
  · subst e
    have : (xs.take c).drop c = [] := List.eq_nil_of_length_eq_zero (by rw [hlen]; omega)
    rw [this, Nat.sub_self]
    exact Rep.full0 _ _
  · unfold cutA
    rw [if_neg (by omega)]
    simp only [Option.map_some, at_add]
    have := Rep.full (w := w) (A := A) es ((xs.take c).drop l) b (off + l * es) (fun j => f (l * es + j)) hA
      (fun x hx => hle x (List.mem_of_mem_take (List.mem_of_mem_drop hx)))
      (fun j u hu => by rw [Nat.add_assoc]; exact hc1 _ _ (flat_part es xs hle l c j u hu)) (fun j u hu => hc2 _ _ (flat_part es xs hle l c j u hu))
    rw [hlen] at this
    exact this
theorem sub_part {n : Int} {es off len c : Nat} {b : Nat} (hn : n = b) {x : TypeId × Nat} (hsx : w.shape? b = some x) (hc : len ≤ c) {l h : Nat} (h1 : l ≤ h) (h2 : h ≤ len) :
    Rep w A (.sub n es (off + l * es) (h - l)) (.slice (cutA (some (at_ b off)) c l es) (h - l) (c - l)) := by
  by_cases e : h = l
  · subst e; rw [Nat.sub_self]; exact Rep.subnil _ _ _ _ _
  · unfold cutA
    rw [if_neg (by omega)]
    simp only [Option.map_some, at_add]
    subst hn
    exact Rep.sub b es (off + l * es) (h - l) (c - l) x hsx (by omega)
theorem pslice_sound {t : TypeId} {x : Operand} {lo hi mx : Option Operand} {pv : Operand → PV} (ho : o.op = .slice t x lo hi mx) (hp : ∀ o, Rep w A (pv o) (ρ o)) (h : pslice P t (pv x) (lo.map pv) (hi.map pv) (mx.map pv) K) :
    ∃ r, K r ∧ Gives P w A ρ o r := by
  have hx := hp x
  unfold pslice at h
  split at h
  · rename_i s1 s2 s3 s4 hF
    split at h
    · rename_i s hxe
      obtain ⟨hm, l, h', hl, hh, h0, h1, h2, hk⟩ := h
      have hmx : mx = none := by cases mx with | none => rfl | some _ => simp at hm
      subst hmx
      rw [hxe] at hx
      refine ⟨_, hk, _, .val _, fun w' _ => ?_⟩
      have hb := bounds_run (P := P) hp (isS := false) (len := s.size) (cap := s.size) hl (by rw [size_bl]; exact hh) h0 h1 (by rw [size_bl]; exact h2) w'
      have hex : s.extract l.toNat h'.toNat = mk (((bl s).take h'.toNat).drop l.toNat) := by
        rw [Lib.extract_eq, List.drop_take]; rfl
      unfold execOp
      simp only [ho, hx.val_eq, Option.map_none, Instr.sliceAt, Instr.slice, run_underlying (tf_string hF rfl), Sem.run_bind, Result.andThen_ok, Option.isSome_none, Bool.false_eq_true, if_false, Sem.run_pure, hb, hex]
    · exact h.elim
  · rename_i e es eb s1 s2 s3 s4 hF
    obtain ⟨hu, ti, hti, hes, _⟩ := tf_slice hF rfl
    subst hes
    -- the run, once the bounds are known
    have run2 : ∀ (a : Option Addr) (len cap : Nat) (l h' : Int), ρ x = .slice a len cap → mx = none → pbound 0 (lo.map pv) = some l → pbound len (hi.map pv) = some h' → 0 ≤ l → l ≤ h' → h' ≤ cap → ∀ w',
        Sem.run P (execOp ρ o) w' = .ok (.value (.slice (cutA a cap l.toNat ti.size) (h'.toNat - l.toNat) (cap - l.toNat))) w' := by
      intro a len cap l h' hv hm hl hh h0 h1 h2 w'
      subst hm
      have hb := bounds_run (P := P) hp (isS := true) (len := len) (cap := cap) hl hh h0 h1 h2 w'
      unfold execOp
      simp only [ho, hv, Option.map_none, Sem.run_bind, run_sliceAt_sl hu hti a len cap _ _ _ _ _ _ w' hb, Result.andThen_ok, Sem.run_pure, cutA]
    have nomx : mx.map pv = none → mx = none := by cases mx <;> simp
    split at h
    · rename_i es' xs hxe
      rw [hxe] at hx
      obtain ⟨rfl, h⟩ := h
      split at h
      · rename_i hm
        obtain ⟨l, h', hl, hh, h0, h1, h2, hk⟩ := h
        rcases hx.list_inv with ⟨rfl, a, c, hv⟩ | ⟨b, off, c, f, hA, hc, hv, hle, hc1, hc2⟩
        · refine ⟨_, hk, _, ?_, fun w' _ => run2 a 0 c l h' hv (nomx hm) hl (by simpa using hh) h0 h1 (by simp at h2; omega) w'⟩
          have : h'.toNat - l.toNat = 0 := by simp at h2; omega
          rw [this]
          simpa using Rep.nil _ _ _
        · exact ⟨_, hk, _, list_part hA hc hle hc1 hc2 (by omega) (by omega), fun w' _ => run2 _ _ c l h' hv (nomx hm) hl hh h0 h1 (by omega) w'⟩
      · rename_i m hm
        obtain ⟨l, h', hl, hn, hh, hmm, h0, h1, h2, hk⟩ := h
        cases mx with
        | none => simp at hm
        | some mx =>
          cases hi with
          | none => simp at hn
          | some hi =>
            simp only [Option.map_some, Option.some.injEq] at hm hh
            subst hm
            have run3 : ∀ (a : Option Addr) (len cap : Nat), ρ x = .slice a len cap → h' ≤ cap → ∀ w',
                Sem.run P (execOp ρ o) w' = .ok (.value (.slice (cutA a h'.toNat l.toNat ti.size) (h'.toNat - l.toNat) (h'.toNat - l.toNat))) w' := by
              intro a len cap hv h3 w'
              have hb := bounds_run3 (P := P) hp (hi := hi) (len := len) (cap := cap) hl ((pbound_some _ _ _).trans hh) hmm h0 h1 (Int.le_refl _) h3 w'
              unfold execOp
              simp only [ho, hv, Option.map_some, Sem.run_bind, run_sliceAt_sl hu hti a len cap _ _ _ _ _ _ w' hb, Result.andThen_ok, Sem.run_pure, cutA]
            rcases hx.list_inv with ⟨rfl, a, c, hv⟩ | ⟨b, off, c, f, hA, hc, hv, hle, hc1, hc2⟩
            · refine ⟨_, hk, _, ?_, fun w' _ => run3 a 0 c hv (by simp at h2; omega) w'⟩
              have : h'.toNat - l.toNat = 0 := by simp at h2; omega
              rw [this]
              simpa using Rep.full0 _ _
            · exact ⟨_, hk, _, full_part hA hle hc1 hc2 (by omega) (by omega) rfl, fun w' _ => run3 _ _ c hv (by omega) w'⟩
    · rename_i n es' len hxe
      rw [hxe] at hx
      obtain ⟨rfl, hm, l, h', hl, hh, h0, h1, h2, hk⟩ := h
      have part : match Option.map pv lo with
          | none => l = 0 ∧ K (.row n ti.size h'.toNat)
          | some _ => K (.sub n ti.size (l.toNat * ti.size) (h' - l).toNat) := by
        cases lo with
        | none => exact ⟨bound_none hl, hk⟩
        | some _ => exact hk
      rcases hx.row_inv with ⟨hneg, rfl, hv⟩ | ⟨b, c, N, t', hn, hv, hs, hN, hle, hmx⟩
      · have e1 : (h' - l).toNat = 0 := by omega
        have e2 : h'.toNat - l.toNat = 0 := by omega
        have e3 : h'.toNat = 0 := by omega
        split at part
        · refine ⟨_, part.2, _, ?_, fun w' _ => run2 none 0 0 l h' hv (nomx hm) hl hh h0 h1 (by omega) w'⟩
          rw [e2, e3, part.1]
          simp only [cutA, Int.toNat_zero, if_true, Nat.sub_zero]
          exact Rep.rownil _ _ hneg
        · refine ⟨_, part, _, ?_, fun w' _ => run2 none 0 0 l h' hv (nomx hm) hl hh h0 h1 (by omega) w'⟩
          rw [e1, e2]
          exact Rep.subnil _ _ _ _ _
      · split at part
        · refine ⟨_, part.2, _, ?_, fun w' _ => run2 _ len c l h' hv (nomx hm) hl hh h0 h1 (by omega) w'⟩
          rw [part.1]
          subst hn
          have e4 : cutA (some (at_ b 0)) c (0 : Int).toNat ti.size = some (at_ b 0) := by
            unfold cutA
            split
            · rfl
            · simp [at_add]
          rw [e4]
          simp only [Int.toNat_zero, Nat.sub_zero]
          exact Rep.row b ti.size h'.toNat c N t' hs hN (by omega) hmx
        · refine ⟨_, part, _, ?_, fun w' _ => run2 _ len c l h' hv (nomx hm) hl hh h0 h1 (by omega) w'⟩
          have := sub_part (w := w) (A := A) (es := ti.size) (off := 0) hn hs hle (l := l.toNat) (h := h'.toNat) (by omega) (by omega)
          rw [Nat.zero_add] at this
          rw [show (h' - l).toNat = h'.toNat - l.toNat by omega]
          exact this
    · rename_i n es' off len hxe
      rw [hxe] at hx
      obtain ⟨rfl, hm, l, h', hl, hh, h0, h1, h2, hk⟩ := h
      rcases hx.sub_inv with ⟨rfl, a, c, hv⟩ | ⟨b, c, hn, hv, hle, xs, hsx⟩
      · refine ⟨_, hk, _, ?_, fun w' _ => run2 a 0 c l h' hv (nomx hm) hl hh h0 h1 (by omega) w'⟩
        have e1 : (h' - l).toNat = 0 := by omega
        have e2 : h'.toNat - l.toNat = 0 := by omega
        rw [e1, e2]
        exact Rep.subnil _ _ _ _ _
      · refine ⟨_, hk, _, ?_, fun w' _ => run2 _ len c l h' hv (nomx hm) hl hh h0 h1 (by omega) w'⟩
        have := sub_part (w := w) (A := A) (es := ti.size) (off := off) hn hsx hle (l := l.toNat) (h := h'.toNat) (by omega) (by omega)
        rw [show (h' - l).toNat = h'.toNat - l.toNat by omega]
        exact this
    · rename_i hxe
      rw [hxe] at hx
      obtain ⟨hm, l, h', hl, hh, h0, h1, h2, hk⟩ := h
      refine ⟨_, hk, _, ?_, fun w' _ => run2 none 0 0 l h' hx.val_eq (nomx hm) hl hh h0 h1 (by omega) w'⟩
      have e2 : h'.toNat - l.toNat = 0 := by omega
      have e3 : cutA none 0 l.toNat ti.size = none := by
        unfold cutA
        split <;> rfl
      rw [e2, e3, Nat.zero_sub]
      exact Rep.val _
    · exact h.elim
  · rename_i n e es ea s1 s2 s3 s4 hF
    obtain ⟨hu, ti, d, hti, hes, _, _⟩ := tf_array hF rfl
    subst hes
    have run2 : ∀ (a : Addr) (l h' : Int), ρ x = .pointer (some a) → mx = none → pbound 0 (lo.map pv) = some l → pbound n (hi.map pv) = some h' → 0 ≤ l → l ≤ h' → h' ≤ n → ∀ w',
        Sem.run P (execOp ρ o) w' = .ok (.value (.slice (cutA (some a) n l.toNat ti.size) (h'.toNat - l.toNat) (n - l.toNat))) w' := by
      intro a l h' hv hm hl hh h0 h1 h2 w'
      subst hm
      have hb := bounds_run (P := P) hp (isS := false) (len := n) (cap := n) hl hh h0 h1 h2 w'
      unfold execOp
      simp only [ho, hv, Option.map_none, Sem.run_bind, run_sliceAt_ar hu hti a _ _ _ _ _ w' hb, Result.andThen_ok, Sem.run_pure, cutA]
      split <;> rfl
    have nomx : mx.map pv = none → mx = none := by cases mx <;> simp
    split at h
    · rename_i m off hxe
      rw [hxe] at hx
      obtain ⟨hm, l, h', hl, hh, h0, h1, h2, hk⟩ := h
      obtain ⟨b, hn, hv, xs, hsx⟩ := hx.ptr_inv
      refine ⟨_, hk, _, ?_, fun w' _ => run2 _ l h' hv (nomx hm) hl hh h0 h1 h2 w'⟩
      have := sub_part (w := w) (A := A) (es := ti.size) (off := off) hn hsx (Nat.le_refl n) (l := l.toNat) (h := h'.toNat) (by omega) (by omega)
      rw [show (h' - l).toNat = h'.toNat - l.toNat by omega]
      exact this
    · rename_i cs off hxe
      rw [hxe] at hx
      obtain ⟨hm, hes1, hoff, hone, l, h', hl, hh, h0, h1, h2, hk⟩ := h
      obtain ⟨b, off0, f, hA, hv, hc1, hc2⟩ := hx.iptr_inv
      refine ⟨_, hk, _, ?_, fun w' _ => run2 _ l h' hv (nomx hm) hl hh h0 h1 h2 w'⟩
      have hcell1 : ∀ x ∈ cs, x.cells = [x] := by
        intro x hx
        have := List.all_eq_true.1 hone x hx
        cases x <;> first | rfl | (simp [PV.one] at this)
      have hflat : ∀ ys : List PV, (∀ y ∈ ys, y ∈ cs) → flat ys = ys := by
        intro ys
        induction ys with
        | nil => intro _; rfl
        | cons y ys ih => intro hy; simp only [flat, List.flatMap_cons] at ih ⊢; rw [ih (fun z hz => hy z (.tail _ hz)), hcell1 y (hy y (.head _))]; rfl
      have hsub : ∀ y ∈ (cs.drop off).take n, y ∈ cs := fun y hy => List.mem_of_mem_drop (List.mem_of_mem_take hy)
      rw [hes1]
      have hget : ∀ (j : Nat) (u : PV), ((cs.drop off).take n)[j]? = some u → cs[off + j]? = some u := by
        intro j u hu
        rw [List.getElem?_take] at hu
        split at hu
        · rwa [List.getElem?_drop] at hu
        · cases hu
      have := list_part (w := w) (A := A) (es := 1) (xs := (cs.drop off).take n) (b := b) (off := off0 + off) (c := n) (f := fun j => f (off + j)) hA (by simp; omega)
        (fun x hx => by rw [hcell1 x (hsub x hx)]; rfl)
        (fun j u hu => by
          rw [hflat _ hsub] at hu
          have hu' := hget j u hu
          rw [Nat.add_assoc]
          exact ⟨hc1 _ _ hu', List.all_eq_true.1 hone u (List.mem_of_getElem? hu')⟩)
        (fun j u hu => by rw [hflat _ hsub] at hu; exact hc2 _ _ (hget j u hu)) (l := l.toNat) (h := h'.toNat) (by omega) (by simp; omega)
      rw [List.take_take, Nat.min_eq_left (by omega)] at this
      exact this
    · exact h.elim
  · exact h.elim
end
end Go.PM

namespace Go.PM
open Go.RowKit
/-- Bytes as pure values. -/
@[reducible] def pbyte (b : UInt8) : PV := pint .u8 b.toNat
def bytes (l : List UInt8) : List PV := l.map pbyte
def isByte : PV → Bool
  | .val (.int .u8 n) => decide (0 ≤ n) && decide (n < 256)
  | _ => false
def unb : PV → UInt8
  | .val (.int .u8 n) => UInt8.ofNat n.toNat
  | _ => 0
theorem isByte_pbyte (b : UInt8) : isByte (pbyte b) = true := by
  have := b.toNat_lt
  simp [isByte]; omega
theorem unb_pbyte (b : UInt8) : unb (pbyte b) = b := by simp [unb]
theorem bytes_isByte (l : List UInt8) : (bytes l).all isByte = true := by
  rw [List.all_eq_true]
  intro p hp
  obtain ⟨b, _, rfl⟩ := List.mem_map.1 hp
  exact isByte_pbyte b
theorem bytes_unb (l : List UInt8) : (bytes l).map unb = l := by
  unfold bytes
  rw [List.map_map]
  conv => rhs; rw [← List.map_id l]
  exact List.map_congr_left fun b _ => unb_pbyte b
theorem isByte_eq {p : PV} (h : isByte p = true) : ∃ b : UInt8, p = pbyte b ∧ unb p = b := by
  unfold isByte at h
  split at h
  · rename_i n
    simp at h
    refine ⟨UInt8.ofNat n.toNat, ?_, by simp [unb]⟩
    simp only [pbyte, pint]
    congr 2
    have : (UInt8.ofNat n.toNat).toNat = n.toNat := by simp; omega
    rw [this]; omega
  · cases h
theorem bytes_length (l : List UInt8) : (bytes l).length = l.length := by simp [bytes]
section
variable {P : Program} {G : Globs} {H : Heap} {fr : List PV} {w : World} {A : Nat → Prop} {ρ : Operand → Value} {o : Oper} {K : PV → Prop}
/-- The elements of a slice: its own cells, where an element is one cell. -/
def pelems (H : Heap) : PV → Option (List PV)
  | .list _ xs => some xs
  | .full _ xs => some xs
  | .row n es len => if es = 1 then
      if len = 0 then some [] else match look H n with
      | some o => if len ≤ o.cells.length then some (o.cells.take len) else none
      | none => none
    else none
  | .sub n es off len => if es = 1 then match look H n with
      | some o => if off + len ≤ o.cells.length then some ((o.cells.drop off).take len) else none
      | none => none
    else none
  | .val (.slice none 0 0) => some []
  | _ => none
/-- a slice's elements of one cell each lie one behind the other -/
theorem pelems_cells {x : PV} {v : Value} {xs : List PV} (hx : Rep w A x v) (hob : ∀ n o, look H n = some o → ObjRep w A n o) (h : pelems H x = some xs) (h1 : ∀ p ∈ xs, p.cells = [p]) :
    (xs = [] ∧ ∃ a c, v = .slice a 0 c) ∨ ∃ (b off c : Nat) (f : Nat → Value), v = .slice (some (at_ b off)) xs.length c ∧
      (∀ (j : Nat) (u : PV), xs[j]? = some u → w.cell? (at_ b (off + j)) = some (f j) ∧ u.one = true ∧ Rep w A u (f j)) := by
  have hflat : flat xs = xs := by
    clear h
    induction xs with
    | nil => rfl
    | cons y ys ih => simp only [flat, List.flatMap_cons] at ih ⊢; rw [ih (fun z hz => h1 z (.tail _ hz)), h1 y (.head _)]; rfl
  unfold pelems at h
  split at h
  · cases h
    rcases hx.list_inv with ⟨rfl, a, c, hv⟩ | ⟨b, off, c, f, hA, hc, hv, hle, hc1, hc2⟩
    · exact .inl ⟨rfl, a, c, hv⟩
    · rw [hflat] at hc1 hc2
      exact .inr ⟨b, off, c, f, hv, fun j u hu => ⟨(hc1 j u hu).1, (hc1 j u hu).2, hc2 j u hu⟩⟩
  · cases h
    cases hx with
    | full0 es a => exact .inl ⟨rfl, a, 0, rfl⟩
    | full es xs b off f hA hle hc1 hc2 =>
      rw [hflat] at hc1 hc2
      exact .inr ⟨b, off, _, f, rfl, fun j u hu => ⟨(hc1 j u hu).1, (hc1 j u hu).2, hc2 j u hu⟩⟩
  · rename_i n es len
    split at h
    · rename_i hes
      rcases hx.row_inv with ⟨hn, rfl, hv⟩ | ⟨b, c, N, t', hn, hv, hsx, _⟩
      · rw [if_pos rfl] at h
        cases h
        exact .inl ⟨rfl, none, 0, hv⟩
      · by_cases h0 : len = 0
        · rw [if_pos h0] at h
          cases h
          subst h0
          exact .inl ⟨rfl, _, _, hv⟩
        rw [if_neg h0] at h
        split at h
        · rename_i ob hl
          split at h
          · rename_i hle
            cases h
            obtain ⟨cur, fz, f, hh, _, _, hc⟩ := (hob _ _ hl).block hn hsx
            refine .inr ⟨b, 0, c, f, by rw [hv]; simp [List.length_take, Nat.min_eq_left hle], fun j u hu => ?_⟩
            have hu' : ob.cells[j]? = some u := by
              rw [List.getElem?_take] at hu
              split at hu
              · exact hu
              · cases hu
            obtain ⟨a1, a2, a3⟩ := hc j u hu'
            exact ⟨by rw [cell_of_block hh, Nat.zero_add]; exact a1, a2, a3⟩
          · cases h
        · cases h
    · cases h
  · rename_i n es off len
    split at h
    · rename_i hes
      split at h
      · rename_i ob hl
        split at h
        · rename_i hle
          cases h
          rcases hx.sub_inv with ⟨rfl, a, c, hv⟩ | ⟨b, c, hn, hv, _, xs, hsx⟩
          · exact .inl ⟨by simp, a, c, hv⟩
          · obtain ⟨cur, fz, f, hh, _, _, hc⟩ := (hob _ _ hl).block hn hsx
            refine .inr ⟨b, off, c, fun j => f (off + j), by rw [hv]; simp [List.length_take]; omega, fun j u hu => ?_⟩
            have hu' : ob.cells[off + j]? = some u := by
              rw [List.getElem?_take] at hu
              split at hu
              · rwa [List.getElem?_drop] at hu
              · cases hu
            obtain ⟨a1, a2, a3⟩ := hc _ u hu'
            exact ⟨by rw [cell_of_block hh]; exact a1, a2, a3⟩
        · cases h
      · cases h
    · cases h
  · cases h
    exact .inl ⟨rfl, none, 0, hx.val_eq⟩
  · cases h
def pconv (P : Program) (H : Heap) (src dst : TypeId) (x : PV) (K : PV → Prop) : Prop :=
  match tf P src, tf P dst with
  | some Fs, some Fd => match Fs.ti, Fd.ti with
    | .int _, .int k => match x with
      | .val (.int _ n) => K (pint k (k.wrap n))
      | _ => False
    | .string, .string => match x with
      | .val (.string s) => K (.val (.string s))
      | _ => False
    | .slice e _ _, .string => P.underlying e = some (.int .u8) ∧ ∃ xs, pelems H x = some xs ∧ xs.all isByte = true ∧ K (pstr (xs.map unb))
    | _, _ => False
  | _, _ => False
theorem isByte_one {xs : List PV} (h : xs.all isByte = true) : ∀ p ∈ xs, p.cells = [p] := by
  intro p hp
  obtain ⟨b, rfl, _⟩ := isByte_eq (List.all_eq_true.1 h p hp)
  rfl
theorem pconv_sound {src dst : TypeId} {x : Operand} {px : PV} (ho : o.op = .convert src dst x) (hx : Rep w A px (ρ x)) (hob : ∀ n o, look H n = some o → ObjRep w A n o) (h : pconv P H src dst px K) :
    ∃ r, K r ∧ Gives P w A ρ o r := by
  unfold pconv at h
  split at h
  · rename_i Fs Fd hs hd
    split at h
    · rename_i k' k h1 h2
      split at h
      · refine ⟨_, h, _, .val _, fun w' _ => ?_⟩
        unfold execOp
        simp [ho, hx.val_eq, convert, run_underlying (tf_int hs h1), run_underlying (tf_int hd h2), Conv.intToInt]
      · exact h.elim
    · rename_i h1 h2
      split at h
      · refine ⟨_, h, _, .val _, fun w' _ => ?_⟩
        unfold execOp
        simp [ho, hx.val_eq, convert, run_underlying (tf_string hs h1), run_underlying (tf_string hd h2)]
      · exact h.elim
    · rename_i e es eb h1 h2
      obtain ⟨he, xs, hxs, hb, hk⟩ := h
      have hu := (tf_slice hs h1).1
      have hdu := tf_string hd h2
      refine ⟨_, hk, _, .val _, fun w' hw => ?_⟩
      have := pelems_cells hx hob hxs (isByte_one hb)
      rcases this with ⟨rfl, a, c, hv⟩ | ⟨b, off, c, f, hv, hc⟩
      · unfold execOp
        simp only [ho, hv, Sem.run_bind]
        cases a with
        | none => rw [run_convert_bytes_nil w' src e hu he 0 c dst hdu]; rfl
        | some ad =>
          have e0 : (loadCells ad 0).run P w' = .ok (([] : List Int).map (Value.int .u8)).toArray w' := by simp [loadCells, loadCellsFrom]
          rw [run_convert_bytes_string w' src dst e _ 0 c hu he hdu, run_bytesToString w' _ 0 c [] e0]
          rfl
      · have hn : ∀ i, i < xs.length → w'.cell? ⟨b, off + i, none⟩ = some (.int .u8 ((xs.map fun p => ((unb p).toNat : Int)).getD i 0)) := by
          intro i hi
          obtain ⟨h3, _, h4⟩ := hc i _ (List.getElem?_eq_getElem hi)
          obtain ⟨bb, hbb, hub⟩ := isByte_eq (List.all_eq_true.1 hb _ (List.getElem_mem hi))
          rw [hbb] at h4
          have := hw.cell h3
          rw [h4.val_eq] at this
          simp only [List.getD_eq_getElem?_getD, List.getElem?_map, List.getElem?_eq_getElem hi, Option.map_some, Option.getD_some, hub]
          exact this
        have hr := run_convert_bytes_arg (P := P) w' src e hu he b off xs.length c (xs.map fun p => ((unb p).toNat : Int)) (by simp) hn dst hdu
        unfold execOp
        simp only [ho, hv, Sem.run_bind, hr, Result.andThen_ok, Sem.run_pure]
        have : strOfNums (xs.map fun p => ((unb p).toNat : Int)) = mk (xs.map unb) := by
          simp [strOfNums, mk, Function.comp_def]
        rw [this]
    · exact h.elim
  · exact h.elim
def pextract (x : PV) (k : Nat) (K : PV → Prop) : Prop :=
  match x with
  | .tuple xs => match xs[k]? with
    | some u => K u
    | none => False
  | _ => False
theorem pextract_sound {x : Operand} {k : Nat} {px : PV} (ho : o.op = .extract x k) (hx : Rep w A px (ρ x)) (h : pextract px k K) : ∃ r, K r ∧ Gives P w A ρ o r := by
  unfold pextract at h
  split at h
  · rename_i xs
    split at h
    · rename_i u hu
      obtain ⟨f, hv, h2⟩ := hx.tuple_inv
      refine ⟨u, h, f k, h2 k u hu, fun w' _ => ?_⟩
      have hlt : k < xs.length := (List.getElem?_eq_some_iff.1 hu).1
      unfold execOp
      simp [ho, hv, Instr.extract, hlt]
    · exact h.elim
  · exact h.elim
def ppick (c a b : PV) (K : PV → Prop) : Prop :=
  match c with
  | .val (.bool t) => @pguard t true ⟨K a, K b⟩
  | _ => False
theorem ppick_sound {c x y : Operand} {pc px py : PV} (ho : o.op = .pick c x y) (hc : Rep w A pc (ρ c)) (hx : Rep w A px (ρ x)) (hy : Rep w A py (ρ y)) (h : ppick pc px py K) : ∃ r, K r ∧ Gives P w A ρ o r := by
  unfold ppick at h
  split at h
  · rename_i t
    cases t
    · refine ⟨py, h.2 rfl, ρ y, hy, fun w' _ => ?_⟩
      unfold execOp
      simp [ho, hc.val_eq, asBool]
    · refine ⟨px, h.1 rfl, ρ x, hx, fun w' _ => ?_⟩
      unfold execOp
      simp [ho, hc.val_eq, asBool]
  · exact h.elim
/-- the least, the greatest of two or three integers -/
def pmm (mn : Bool) (xs : List PV) (K : PV → Prop) : Prop :=
  match xs with
  | [.val (.int k a), .val (.int _ b)] => K (pint k (if mn then min a b else max a b))
  | [.val (.int k a), .val (.int _ b), .val (.int _ c)] => K (pint k (if mn then min (min a b) c else max (max a b) c))
  | _ => False
theorem max_ite (a b : Int) : (if a < b then b else a) = max a b := by omega
theorem min_ite (a b : Int) : (if b < a then b else a) = min a b := by omega
theorem pmm_sound {mn : Bool} {xs : List Operand} {ts : Array TypeId} {pv : Operand → PV} (ho : o.op = .call { callee := .builtin (if mn then .min else .max), args := xs.toArray, argTypes := ts }) (hp : ∀ o, Rep w A (pv o) (ρ o))
    (h : pmm mn (xs.map pv) K) : ∃ r, K r ∧ Gives P w A ρ o r := by
  match xs, h with
  | [x, y], h =>
    have h1 := hp x
    have h2 := hp y
    simp only [List.map_cons, List.map_nil] at h
    revert h h1 h2
    generalize pv x = p
    generalize pv y = q
    intro h1 h2 h
    unfold pmm at h
    split at h
    · rename_i k a k' b e
      simp only [List.cons.injEq, and_true] at e
      obtain ⟨rfl, rfl⟩ := e
      refine ⟨_, h, _, .val _, fun w' _ => ?_⟩
      unfold execOp
      cases mn <;> simp [ho, resolve, invoke, builtin, Builtin.min_, Builtin.max_, h1.val_eq, h2.val_eq, Builtin.min2, Builtin.max2, max_ite, min_ite]
    · rename_i e; simp at e
    · exact h.elim
  | [x, y, z], h =>
    have h1 := hp x
    have h2 := hp y
    have h3 := hp z
    simp only [List.map_cons, List.map_nil] at h
    revert h h1 h2 h3
    generalize pv x = p
    generalize pv y = q
    generalize pv z = r
    intro h1 h2 h3 h
    unfold pmm at h
    split at h
    · rename_i e; simp at e
    · rename_i k a k' b k'' c e
      simp only [List.cons.injEq, and_true] at e
      obtain ⟨rfl, rfl, rfl⟩ := e
      refine ⟨_, h, _, .val _, fun w' _ => ?_⟩
      unfold execOp
      cases mn <;> simp [ho, resolve, invoke, builtin, Builtin.min_, Builtin.max_, h1.val_eq, h2.val_eq, h3.val_eq, Builtin.min2, Builtin.max2, max_ite, min_ite]
    · exact h.elim
  | [], h => exact absurd h (by simp [pmm])
  | [_], h => exact absurd h (by simp [pmm])
  | _ :: _ :: _ :: _ :: _, h => exact absurd h (by simp [pmm])
/-- a closure -/
theorem pfunc_sound {f : FuncId} {cs : List Operand} {pv : Operand → PV} (ho : o.op = .makeFunc (.func f) #[] cs.toArray) (hp : ∀ o, Rep w A (pv o) (ρ o)) (h : K (.func f (cs.map pv))) : ∃ r, K r ∧ Gives P w A ρ o r := by
  refine ⟨_, h, _, Rep.func f (cs.map pv) (fun j => ρ (cs.getD j (.const undef))) ?_, fun w' _ => ?_⟩
  · intro j u hu
    rw [List.getElem?_map] at hu
    cases hj : cs[j]? with
    | none => simp [hj] at hu
    | some c =>
      simp [hj] at hu
      subst hu
      simpa [List.getD_eq_getElem?_getD, hj] using hp c
  · unfold execOp
    have : (cs.toArray.map ρ) = ((List.range (cs.map pv).length).map fun j => ρ (cs.getD j (.const undef))).toArray := by
      apply Array.ext
      · simp
      · intro j h1 h2
        have hj : j < cs.length := by simpa using h1
        simp [List.getD_eq_getElem?_getD, List.getElem?_eq_getElem hj]
    simp [ho, Instr.makeFunc, this]
/-- the address of the array in a slice -/
def parr (P : Program) (t : TypeId) (x : PV) (K : PV → Prop) : Prop :=
  match tf P t with
  | some ⟨.array n _ _ _, _, _, _, _⟩ => 0 < n ∧ match x with
    | .list _ xs => n ≤ xs.length ∧ K (.iptr (flat xs) 0)
    | .row m _ len => n ≤ len ∧ K (.ptr m 0)
    | .sub m _ off len => n ≤ len ∧ K (.ptr m off)
    | _ => False
  | _ => False
theorem parr_sound {t : TypeId} {x : Operand} {px : PV} (ho : o.op = .sliceToArrayPointer t x) (hx : Rep w A px (ρ x)) (h : parr P t px K) : ∃ r, K r ∧ Gives P w A ρ o r := by
  unfold parr at h
  split at h
  · rename_i n e es ea s1 s2 s3 s4 hF
    have hu := (tf_array hF rfl).1
    obtain ⟨h0, h⟩ := h
    have run : ∀ (a : Option Addr) (len c : Nat), ρ x = .slice a len c → n ≤ len → ∀ w', Sem.run P (execOp ρ o) w' = .ok (.value (.pointer a)) w' := by
      intro a len c hv hl w'
      unfold execOp
      simp [ho, hv, Instr.arrayAt, run_underlying hu, Nat.not_lt.2 hl]
    split at h
    · rename_i es' xs
      obtain ⟨hl, hk⟩ := h
      rcases hx.list_inv with ⟨rfl, a, c, hv⟩ | ⟨b, off, c, f, hA, hc, hv, hle, hc1, hc2⟩
      · simp at hl; omega
      · refine ⟨_, hk, _, ?_, fun w' _ => run _ _ _ hv hl w'⟩
        have := Rep.iptr (w := w) (A := A) (flat xs) b off 0 f hA (fun j u hu => (hc1 j u hu).1) hc2
        exact this
    · rename_i m es' len
      obtain ⟨hl, hk⟩ := h
      rcases hx.row_inv with ⟨hn, rfl, hv⟩ | ⟨b, c, N, t', hn, hv, hsx, _⟩
      · omega
      · subst hn
        exact ⟨_, hk, _, .ptr b 0 _ hsx, fun w' _ => run _ _ _ hv hl w'⟩
    · rename_i m es' off len
      obtain ⟨hl, hk⟩ := h
      rcases hx.sub_inv with ⟨rfl, a, c, hv⟩ | ⟨b, c, hn, hv, _, xs, hsx⟩
      · omega
      · subst hn
        exact ⟨_, hk, _, .ptr b off xs hsx, fun w' _ => run _ _ _ hv hl w'⟩
    · exact h.elim
  · exact h.elim
end
end Go.PM

namespace Go.PM
open Go.RowKit
/-- The cells that a value takes in memory. -/
def PV.mem? : PV → Option (List PV)
  | .agg cs => some cs
  | x => if x.one then some [x] else none
def Reps (w : World) (A : Nat → Prop) (cs : List PV) (vs : Array Value) : Prop :=
  vs.size = cs.length ∧ ∀ (j : Nat) (u : PV), cs[j]? = some u → ∃ v, vs[j]? = some v ∧ Rep w A u v
section
variable {P : Program} {w : World} {A : Nat → Prop} {ρ : Operand → Value} {o : Oper} {K : PV → Prop}
theorem Reps.agg {cs : List PV} {vs : Array Value} (h : Reps w A cs vs) : Rep w A (.agg cs) (.agg vs) := by
  have := Rep.agg (w := w) (A := A) cs (fun j => vs.getD j undef) (fun j u hu => by
    obtain ⟨v, hv, hr⟩ := h.2 j u hu
    rw [show vs.getD j undef = v by simp [Array.getD_eq_getD_getElem?, hv]]
    exact hr)
  have e : ((List.range cs.length).map fun j => vs.getD j undef).toArray = vs := by
    apply Array.ext
    · simp [h.1]
    · intro j h1 h2
      simp [Array.getD_eq_getD_getElem?, h2]
  rw [e] at this
  exact this
theorem one_cells {x : PV} {v : Value} (h1 : x.one = true) (h : Rep w A x v) : v.cells = #[v] ∧ v.oneCell' = true := by
  cases h <;> first | (simp [PV.one] at h1; done) | exact ⟨rfl, rfl⟩ | skip
  simp only [PV.one] at h1
  cases v <;> first | exact ⟨rfl, rfl⟩ | (simp [Value.oneCell'] at h1)
theorem mem_reps {x : PV} {v : Value} {cs : List PV} (hm : x.mem? = some cs) (h : Rep w A x v) : Reps w A cs v.cells := by
  unfold PV.mem? at hm
  split at hm
  · cases hm
    obtain ⟨f, rfl, h2⟩ := h.agg_inv
    refine ⟨by simp [Value.cells], fun j u hu => ⟨f j, ?_, h2 j u hu⟩⟩
    have : j < cs.length := (List.getElem?_eq_some_iff.1 hu).1
    simp [Value.cells, this]
  · split at hm
    · rename_i h1
      cases hm
      rw [(one_cells h1 h).1]
      refine ⟨rfl, fun j u hu => ?_⟩
      cases j with
      | zero => simp at hu; subst hu; exact ⟨v, rfl, h⟩
      | succ j => simp at hu
    · cases hm
def pfill (place : Nat → Option (Nat × Nat)) : List PV → List (Nat × PV) → Option (List PV)
  | cs, [] => some cs
  | cs, (i, x) :: r => match place i, x.mem? with
    | some (off, sz), some xs => if xs.length = sz ∧ off + sz ≤ cs.length then pfill place (cs.take off ++ xs ++ cs.drop (off + sz)) r else none
    | _, _ => none
theorem setMany_get (vs : List Value) : ∀ (k off : Nat) (cells : Array Value) (j : Nat),
    ((vs.zipIdx k).foldl (fun cs (c, j) => cs.setIfInBounds (off + j) c) cells).size = cells.size ∧
    ((vs.zipIdx k).foldl (fun cs (c, j) => cs.setIfInBounds (off + j) c) cells)[j]? =
      if off + k ≤ j ∧ j < off + k + vs.length ∧ j < cells.size then vs[j - (off + k)]? else cells[j]? := by
  induction vs with
  | nil => intro k off cells j; simp; intro h1 h2; omega
  | cons v vs ih =>
    intro k off cells j
    simp only [List.zipIdx_cons, List.foldl_cons]
    obtain ⟨h1, h2⟩ := ih (k + 1) off (cells.setIfInBounds (off + k) v) j
    refine ⟨by rw [h1]; simp, ?_⟩
    rw [h2]
    simp only [Array.size_setIfInBounds, List.length_cons]
    by_cases e : j = off + k
    · subst e
      rw [if_neg (by omega)]
      by_cases hs : off + k < cells.size
      · rw [if_pos (by omega)]; simp [hs]
      · rw [if_neg (by omega)]
        simp [Nat.not_lt.1 hs]
    · by_cases hr : off + (k + 1) ≤ j ∧ j < off + (k + 1) + vs.length ∧ j < cells.size
      · rw [if_pos hr, if_pos (by omega)]
        rw [show j - (off + k) = (j - (off + (k + 1))) + 1 by omega]
        simp
      · rw [if_neg hr, if_neg (by omega)]
        rw [Array.getElem?_setIfInBounds_ne (by omega)]
theorem fill_reps {place : Nat → Option (Nat × Nat)} {place' : Nat → Option (Nat × Nat)} (hpl : ∀ i off sz, place i = some (off, sz) → place' i = some (off, sz)) :
    ∀ (ps : List (Nat × PV)) (vs : List (Nat × Value)) (cs : List PV) (cells : Array Value) (out : List PV), Reps w A cs cells → ps.length = vs.length →
      (∀ (k : Nat) (p : Nat × PV), ps[k]? = some p → ∃ v, vs[k]? = some (p.1, v) ∧ Rep w A p.2 v) → pfill place cs ps = some out → ∃ res, Instr.fill place' cells vs = some res ∧ Reps w A out res
  | [], [], cs, cells, out, hr, _, _, h => by
    simp [pfill] at h
    subst h
    exact ⟨cells, rfl, hr⟩
  | (i, x) :: ps, (i', v) :: vs, cs, cells, out, hr, hl, hv, h => by
    obtain ⟨v', hv', hrep⟩ := hv 0 (i, x) rfl
    simp at hv'
    obtain ⟨rfl, rfl⟩ := hv'
    simp only [pfill] at h
    split at h
    · rename_i off sz xs hp hm
      split at h
      · rename_i hc
        have hx := mem_reps hm hrep
        have hsz : v.cells.size = sz := by rw [hx.1]; exact hc.1
        have hnot : ¬ ((decide (v.cells.size ≠ sz) || decide (off + v.cells.size > cells.size)) = true) := by
          simp [hsz, hr.1]; omega
        have hget := fun j => (setMany_get v.cells.toList 0 off cells j).2
        have hsize := (setMany_get v.cells.toList 0 off cells 0).1
        have hfold : v.cells.zipIdx.foldl (fun cs (c, j) => cs.setIfInBounds (off + j) c) cells = (v.cells.toList.zipIdx 0).foldl (fun cs (c, j) => cs.setIfInBounds (off + j) c) cells := by
          rw [← Array.foldl_toList]; simp [Array.toList_zipIdx]
        obtain ⟨res, h1, h2⟩ := fill_reps hpl ps vs (cs.take off ++ xs ++ cs.drop (off + sz)) (v.cells.zipIdx.foldl (fun cs (c, j) => cs.setIfInBounds (off + j) c) cells) out
          ⟨by rw [hfold, hsize, hr.1]; simp; omega, fun j u hu => by
            rw [hfold, hget j]
            simp only [Nat.add_zero, Array.length_toList, hsz]
            by_cases hj1 : j < off
            · rw [if_neg (by omega)]
              rw [List.append_assoc, List.getElem?_append_left (by simp; omega), List.getElem?_take, if_pos hj1] at hu
              exact hr.2 j u hu
            · by_cases hj2 : j < off + sz
              · rw [if_pos (by rw [hr.1]; omega)]
                rw [List.getElem?_append_left (by simp; omega), List.getElem?_append_right (by simp; omega)] at hu
                simp only [List.length_take, Nat.min_eq_left (show off ≤ cs.length by omega)] at hu
                obtain ⟨v', hv', hr'⟩ := hx.2 _ u hu
                exact ⟨v', by simpa using hv', hr'⟩
              · rw [if_neg (by omega)]
                rw [List.getElem?_append_right (by simp; omega), List.getElem?_drop] at hu
                simp only [List.length_append, List.length_take, Nat.min_eq_left (show off ≤ cs.length by omega), hc.1] at hu
                rw [show off + sz + (j - (off + sz)) = j by omega] at hu
                exact hr.2 j u hu⟩
          (by simpa using hl) (fun k p hp => by
            obtain ⟨v', hv', hr'⟩ := hv (k + 1) p (by simpa using hp)
            exact ⟨v', by simpa using hv', hr'⟩) h
        refine ⟨res, ?_, h2⟩
        simp only [Instr.fill, hpl _ _ _ hp]
        rw [if_neg hnot]
        exact h1
      · cases h
    · cases h
  | [], _ :: _, _, _, _, _, hl, _, _ => by simp at hl
  | _ :: _, [], _, _, _, _, hl, _, _ => by simp at hl
def pbuild (P : Program) (t : TypeId) (parts : List (Nat × PV)) (K : PV → Prop) : Prop :=
  match tf P t with
  | some F => match F.zero, F.ti with
    | some z, .struct fs => match pfill (fun i => (fs[i]?).map fun f => (f.1, f.2.1)) (z.cells.toList.map .val) parts with
      | some cs => K (.agg cs)
      | none => False
    | some z, .array _ _ es _ => match pfill (fun i => some (i * es, es)) (z.cells.toList.map .val) parts with
      | some cs => K (.agg cs)
      | none => False
    | _, _ => False
  | none => False
theorem places_run {fs : List Field} {l : List (Nat × Nat × Bool)} (h : fieldsOf P fs = some l) (w' : World) :
    Sem.run P (fs.mapM fun f => do pure (f.offset, ← sizeOf f.type)) w' = .ok (l.map fun f => (f.1, f.2.1)) w' := by
  induction fs generalizing l with
  | nil => simp [fieldsOf] at h; subst h; rfl
  | cons f r ih =>
    simp only [fieldsOf] at h
    split at h
    · rename_i i d l' hi hd hr
      cases h
      simp [List.mapM_cons, sizeOf, typeInfo, hi] at ih ⊢
      rw [ih hr]
      rfl
    · cases h
theorem vals_reps (vs : Array Value) : Reps w A (vs.toList.map .val) vs :=
  ⟨by simp, fun j u hu => by
    rw [List.getElem?_map] at hu
    cases hj : vs.toList[j]? with
    | none => rw [hj] at hu; cases hu
    | some c =>
      rw [hj] at hu
      cases hu
      exact ⟨c, by simpa using hj, .val c⟩⟩
theorem pbuild_sound {t : TypeId} {parts : List (Nat × Operand)} {pv : Operand → PV} (ho : o.op = .build t parts.toArray) (hp : ∀ o, Rep w A (pv o) (ρ o)) (h : pbuild P t (parts.map fun p => (p.1, pv p.2)) K) :
    ∃ r, K r ∧ Gives P w A ρ o r := by
  unfold pbuild at h
  split at h
  · rename_i F hF
    have hzero : ∀ z, F.zero = some z → ∀ w', Sem.run P (zeroValue t) w' = .ok z w' := by
      intro z hz w'
      obtain ⟨d, i, hd, hi, rfl⟩ := tf_some hF
      simp only at hz
      simp [zeroValue, typeInfo, hi, hz]
    have hvs : ∀ (k : Nat) (p : Nat × PV), (parts.map fun p => (p.1, pv p.2))[k]? = some p → ∃ v, (parts.map fun p => (p.1, ρ p.2))[k]? = some (p.1, v) ∧ Rep w A p.2 v := by
      intro k p hk
      rw [List.getElem?_map] at hk
      cases hj : parts[k]? with
      | none => rw [hj] at hk; cases hk
      | some q =>
        rw [hj] at hk
        cases hk
        exact ⟨ρ q.2, by simp [hj], hp q.2⟩
    split at h
    · rename_i z fs hz hti
      split at h
      · rename_i cs hfill
        obtain ⟨fa, hu, hfs⟩ := tf_struct hF hti
        obtain ⟨res, hf, hres⟩ := fill_reps (w := w) (A := A) (place := fun i => (fs[i]?).map fun f => (f.1, f.2.1)) (place' := fun i => (fs[i]?).map fun f => (f.1, f.2.1)) (fun _ _ _ h => h) _ (parts.map fun p => (p.1, ρ p.2)) _ z.cells cs (vals_reps z.cells) (by simp) hvs hfill
        refine ⟨_, h, _, hres.agg, fun w' _ => ?_⟩
        have hpl : Sem.run P (fa.mapM fun f => do pure (f.offset, ← sizeOf f.type)) w' = .ok ((fs.map fun f => (f.1, f.2.1)).toArray) w' := by
          rw [Array.mapM_eq_mapM_toList]
          change Sem.run P ((fa.toList.mapM _) >>= fun l => pure l.toArray) w' = _
          rw [Sem.run_bind, places_run (P := P) hfs w']
          rfl
        unfold execOp
        simp only [ho, Instr.build, Sem.run_bind, hzero z hz, Result.andThen_ok, run_underlying hu, hpl]
        simp [hf]
      · exact h.elim
    · rename_i z n e es ea hz hti
      split at h
      · rename_i cs hfill
        obtain ⟨hu, ti, d, hti', hes, _, _⟩ := tf_array hF hti
        obtain ⟨res, hf, hres⟩ := fill_reps (w := w) (A := A) (place := fun i => some (i * es, es)) (place' := fun i => some (i * es, es)) (fun _ _ _ h => h) _ (parts.map fun p => (p.1, ρ p.2)) _ z.cells cs (vals_reps z.cells) (by simp) hvs hfill
        refine ⟨_, h, _, hres.agg, fun w' _ => ?_⟩
        unfold execOp
        simp only [ho, Instr.build, Sem.run_bind, hzero z hz, Result.andThen_ok, run_underlying hu, sizeOf, typeInfo, hti', run_program]
        simp [hf, hes, hti']
      · exact h.elim
    · exact h.elim
  · exact h.elim
end
end Go.PM

namespace Go.PM
open Go.RowKit
/-- the kinds of a type whose values are compared cell by cell -/
def scalarD (P : Program) (t : TypeId) : Option TypeDesc :=
  match P.underlying t, P.info? t with
  | some (.int k), some i => if i.size = 1 then some (.int k) else none
  | some .bool, some i => if i.size = 1 then some .bool else none
  | some .string, some i => if i.size = 1 then some .string else none
  | _, _ => none
def eqFieldKinds (P : Program) : List Field → Nat → Option (List TypeDesc)
  | [], _ => some []
  | f :: r, k => match scalarD P f.type, eqFieldKinds P r (k + 1) with
    | some d, some l => if f.name ≠ "_" ∧ f.offset = k then some (d :: l) else none
    | _, _ => none
def teq (P : Program) (t : TypeId) : Option (List TypeDesc) :=
  if P.eqGuardType P.depth t = false then match P.underlying t with
    | some (.struct fs) => if P.stoodInHeld t = false then eqFieldKinds P fs.toList 0 else none
    | some (.array n e) => match scalarD P e with
      | some d => some (List.replicate n d)
      | none => none
    | _ => none
  else none
def peq1 : TypeDesc → PV → PV → Option Bool
  | .int _, .val (.int k a), .val (.int k' b) => if k = k' then some (a == b) else none
  | .string, .val (.string s), .val (.string t) => some (bl s == bl t)
  | .bool, .val (.bool a), .val (.bool b) => some (a == b)
  | _, _, _ => none
def peqs : List TypeDesc → List PV → List PV → Option Bool
  | [], [], [] => some true
  | d :: ds, x :: xs, y :: ys => match peq1 d x y, peqs ds xs ys with
    | some a, some b => some (a && b)
    | _, _ => none
  | _, _, _ => none
section
variable {P : Program} {w : World} {A : Nat → Prop} {ρ : Operand → Value} {o : Oper} {K : PV → Prop}
theorem scalarD_some {t : TypeId} {d : TypeDesc} (h : scalarD P t = some d) : P.underlying t = some d ∧ (∃ i, P.info? t = some i ∧ i.size = 1) ∧ (match d with | .struct _ | .array _ _ => False | _ => True) := by
  unfold scalarD at h
  split at h <;> first | (cases h; done) | skip
  all_goals
    split at h
    · rename_i hs; cases h; exact ⟨by assumption, ⟨_, by assumption, hs⟩, trivial⟩
    · cases h
theorem run_part1 {t : TypeId} {d : TypeDesc} (h : scalarD P t = some d) {vs : Array Value} {k : Nat} {v : Value} (hv : vs[k]? = some v) (w' : World) : Sem.run P (part t vs k) w' = .ok v w' := by
  obtain ⟨hu, _, hd⟩ := scalarD_some h
  have : Sem.run P (isAgg t) w' = .ok false w' := by
    unfold isAgg
    cases d <;> simp [run_underlying hu] <;> exact hd.elim
  simp [part, this, hv]
theorem run_eq1 {t : TypeId} {d : TypeDesc} (h : scalarD P t = some d) {x y : PV} {a b : Value} {r : Bool} (hx : Rep w A x a) (hy : Rep w A y b) (hr : peq1 d x y = some r) (n : Nat) (w' : World) :
    Sem.run P (Op.equalIn (n + 1) t a b) w' = .ok r w' := by
  obtain ⟨hu, _, _⟩ := scalarD_some h
  unfold peq1 at hr
  split at hr
  · split at hr
    · rename_i hk
      cases hr
      subst hk
      rw [hx.val_eq, hy.val_eq]
      exact run_equalIn_int w' n t _ _ _ _ hu
    · cases hr
  · cases hr
    rw [hx.val_eq, hy.val_eq, run_equalIn_string w' n t _ _ hu, toList_bl, toList_bl]
  · cases hr
    rw [hx.val_eq, hy.val_eq]
    exact run_equalIn_bool' w' n t _ _ hu
  · cases hr
theorem run_eqFields : ∀ (fs : List Field) (k : Nat) (ds : List TypeDesc) (xs ys : List PV) (av bs : Array Value) (r : Bool), eqFieldKinds P fs k = some ds →
    (∀ (j : Nat) (u : PV), xs[j]? = some u → ∃ v, av[k + j]? = some v ∧ Rep w A u v) → (∀ (j : Nat) (u : PV), ys[j]? = some u → ∃ v, bs[k + j]? = some v ∧ Rep w A u v) →
    peqs ds xs ys = some r → ∀ (n : Nat) (w' : World), Sem.run P (Op.eqFields (n + 1) av bs fs) w' = .ok r w'
  | [], k, ds, xs, ys, av, bs, r, hf, _, _, hr, n, w' => by
    simp [eqFieldKinds] at hf
    subst hf
    cases xs <;> cases ys <;> simp [peqs] at hr
    subst hr
    rfl
  | f :: fs, k, ds, xs, ys, av, bs, r, hf, hx, hy, hr, n, w' => by
    simp only [eqFieldKinds] at hf
    split at hf
    · rename_i d l hd hl
      split at hf
      · rename_i hc
        cases hf
        cases xs with
        | nil => simp [peqs] at hr
        | cons x xs =>
          cases ys with
          | nil => simp [peqs] at hr
          | cons y ys =>
            simp only [peqs] at hr
            split at hr
            · rename_i a b ha hb
              cases hr
              obtain ⟨vx, hvx, hrx⟩ := hx 0 x rfl
              obtain ⟨vy, hvy, hry⟩ := hy 0 y rfl
              have ih := run_eqFields fs (k + 1) l xs ys av bs b hl (fun j u hu => by
                have := hx (j + 1) u (by simpa using hu)
                rwa [show k + (j + 1) = k + 1 + j by omega] at this) (fun j u hu => by
                have := hy (j + 1) u (by simpa using hu)
                rwa [show k + (j + 1) = k + 1 + j by omega] at this) hb n w'
              simp only [Op.eqFields]
              rw [if_pos hc.1]
              simp only [Sem.run_bind, hc.2, run_part1 hd (by simpa using hvx) w', run_part1 hd (by simpa using hvy) w', Result.andThen_ok, run_eq1 hd hrx hry ha n w']
              cases a
              · simp
              · simpa using ih
            · cases hr
      · cases hf
    · cases hf
theorem run_eqArray {e : TypeId} {d : TypeDesc} (he : scalarD P e = some d) (n : Nat) (w' : World) (av bs : Array Value) : ∀ (m k : Nat) (xs ys : List PV) (r : Bool),
    (∀ (j : Nat) (u : PV), xs[j]? = some u → ∃ v, av[k + j]? = some v ∧ Rep w A u v) → (∀ (j : Nat) (u : PV), ys[j]? = some u → ∃ v, bs[k + j]? = some v ∧ Rep w A u v) →
    peqs (List.replicate m d) xs ys = some r → Sem.run P (Op.eqItems (n + 1) e 1 av bs (List.range' k m)) w' = .ok r w'
  | 0, k, xs, ys, r, _, _, hr => by
    cases xs <;> cases ys <;> simp [peqs] at hr
    subst hr
    rfl
  | m + 1, k, xs, ys, r, hx, hy, hr => by
    cases xs with
    | nil => simp [peqs, List.replicate_succ] at hr
    | cons x xs =>
      cases ys with
      | nil => simp [peqs, List.replicate_succ] at hr
      | cons y ys =>
        simp only [peqs, List.replicate_succ] at hr
        split at hr
        · rename_i a b ha hb
          cases hr
          obtain ⟨vx, hvx, hrx⟩ := hx 0 x rfl
          obtain ⟨vy, hvy, hry⟩ := hy 0 y rfl
          have ih := run_eqArray he n w' av bs m (k + 1) xs ys b (fun j u hu => by
            have := hx (j + 1) u (by simpa using hu)
            rwa [show k + (j + 1) = k + 1 + j by omega] at this) (fun j u hu => by
            have := hy (j + 1) u (by simpa using hu)
            rwa [show k + (j + 1) = k + 1 + j by omega] at this) hb
          rw [List.range'_succ]
          simp only [Op.eqItems, Sem.run_bind, Nat.mul_one, run_part1 he (by simpa using hvx) w', run_part1 he (by simpa using hvy) w', Result.andThen_ok, run_eq1 he hrx hry ha n w']
          cases a
          · simp
          · simpa using ih
        · cases hr
/-- '==' and '!=' of structs and arrays -/
def pageq (P : Program) (neg : Bool) (t : TypeId) (x y : PV) (K : PV → Prop) : Prop :=
  match x, y with
  | .agg cs, .agg ds => match teq P t with
    | some kinds => match peqs kinds cs ds with
      | some b => K (pbool (if neg then !b else b))
      | none => False
    | none => False
  | .val (.bool p), .val (.bool q) => match tf P t with
    | some ⟨.bool, _, _, _, _⟩ => K (pbool (if neg then !(p == q) else (p == q)))
    | _ => False
  | _, _ => False
theorem tf_bool {t : TypeId} {F : TF} (h : tf P t = some F) (hF : F.ti = .bool) : P.underlying t = some .bool := by
  obtain ⟨d, i, hd, hi, rfl⟩ := tf_some h
  simp only at hF
  cases d <;> simp only [tiOf] at hF <;> try (cases hF; done)
  · exact hd
  · split at hF <;> cases hF
  · split at hF <;> cases hF
  · split at hF <;> cases hF
theorem pageq_sound {neg : Bool} {t u : TypeId} {x y : Operand} {px py : PV} (ho : o.op = .binOp (if neg then .neq else .eql) t x y u) (hx : Rep w A px (ρ x)) (hy : Rep w A py (ρ y)) (h : pageq P neg t px py K) :
    ∃ r, K r ∧ Gives P w A ρ o r := by
  unfold pageq at h
  split at h
  · rename_i cs ds
    split at h
    · rename_i kinds hk
      split at h
      · rename_i b hb
        obtain ⟨f, ex, hf⟩ := hx.agg_inv
        obtain ⟨g, ey, hg⟩ := hy.agg_inv
        have hxs : ∀ (j : Nat) (u : PV), cs[j]? = some u → ∃ v, (((List.range cs.length).map f).toArray)[0 + j]? = some v ∧ Rep w A u v := fun j u hu => by
          have : j < cs.length := (List.getElem?_eq_some_iff.1 hu).1
          exact ⟨f j, by simp [this], hf j u hu⟩
        have hys : ∀ (j : Nat) (u : PV), ds[j]? = some u → ∃ v, (((List.range ds.length).map g).toArray)[0 + j]? = some v ∧ Rep w A u v := fun j u hu => by
          have : j < ds.length := (List.getElem?_eq_some_iff.1 hu).1
          exact ⟨g j, by simp [this], hg j u hu⟩
        unfold teq at hk
        split at hk
        · rename_i hguard
          have heq : ∀ w', Sem.run P (Op.equalIn 10000 t (.agg ((List.range cs.length).map f).toArray) (.agg ((List.range ds.length).map g).toArray)) w' = .ok b w' := by
            intro w'
            split at hk
            · rename_i fs hu
              split at hk
              · rename_i hsp
                rw [run_equalIn_agg w' 9999 t _ _ (by simp [Program.fieldsOf, hu]) hsp]
                have : P.fieldsOf t = fs := by simp [Program.fieldsOf, hu]
                rw [this]
                exact run_eqFields fs.toList 0 kinds cs ds _ _ b hk hxs hys hb 9998 w'
              · cases hk
            · rename_i n e hu
              split at hk
              · rename_i d he
                cases hk
                obtain ⟨_, ⟨i, hi, hsz⟩, _⟩ := scalarD_some he
                have hc : P.cellsOf e = 1 := by simp [Program.cellsOf, hi, hsz]
                rw [run_equalIn_array (w := w') 9999 _ _ hu hi, hc]
                have hrun := run_eqArray (P := P) he 9998 w' _ _ n 0 cs ds b hxs hys hb
                rw [← List.range_eq_range'] at hrun
                exact hrun
              · cases hk
            · cases hk
          refine ⟨_, h, _, .val _, fun w' _ => ?_⟩
          unfold execOp
          simp only [ho, ex, ey, Sem.run_bind, run_eqGuard_agg w' _ t x y _ _ hguard, Result.andThen_ok]
          cases neg
          · simp only [Bool.false_eq_true, if_false, run_eql_struct, heq w', Result.andThen_ok, Sem.run_pure]
          · simp only [if_true, run_neq_struct, heq w', Result.andThen_ok, Sem.run_pure]
        · cases hk
      · exact h.elim
    · exact h.elim
  · rename_i p q
    split at h
    · rename_i s1 s2 s3 s4 hF
      have hu := tf_bool hF rfl
      refine ⟨_, h, _, .val _, fun w' _ => ?_⟩
      have ex := hx.val_eq
      have ey := hy.val_eq
      have hq1 : Sem.run P (Op.equal t (.bool p) (.bool q)) w' = .ok (p == q) w' := run_equalIn_bool' w' 9999 t p q hu
      have hq2 : Sem.run P (binOp (if neg then .neq else .eql) t (.bool p) (.bool q)) w' = .ok (.bool (if neg then !(p == q) else (p == q))) w' := by
        cases neg
        · show Sem.run P (Op.equal t (.bool p) (.bool q) >>= fun b => pure (Value.bool b)) w' = _
          rw [Sem.run_bind, hq1]
          rfl
        · show Sem.run P (Op.equal t (.bool p) (.bool q) >>= fun b => pure (Value.bool (!b))) w' = _
          rw [Sem.run_bind, hq1]
          rfl
      have g0 : Sem.run P (eqGuard (if neg then .neq else .eql) t x y (.bool p) (.bool q)) w' = .ok () w' := by cases neg <;> rfl
      have hq3 : Sem.run P (do eqGuard (if neg then .neq else .eql) t x y (.bool p) (.bool q); binOp (if neg then .neq else .eql) t (.bool p) (.bool q)) w' = .ok (.bool (if neg then !(p == q) else (p == q))) w' := by
        rw [Sem.run_bind, g0]
        exact hq2
      unfold execOp
      simp only [ho, ex, ey, Sem.run_bind] at hq3 ⊢
      rw [hq3]
      rfl
    · exact h.elim
  · exact h.elim
end
end Go.PM

namespace Go.PM
open Go.RowKit
def names (H : Heap) : List Int := H.map (·.1)
def upd : Heap → Int → PObj → Heap
  | [], _, _ => []
  | (m, x) :: r, n, o => if m = n then (n, o) :: r else (m, x) :: upd r n o
def del : Heap → Int → Heap
  | [], _ => []
  | (m, x) :: r, n => if m = n then r else (m, x) :: del r n
theorem names_upd (n : Int) (o : PObj) : ∀ H : Heap, names (upd H n o) = names H
  | [] => rfl
  | (m, x) :: r => by
    simp only [upd]
    split
    · rename_i h; subst h; rfl
    · show m :: names (upd r n o) = m :: names r
      rw [names_upd n o r]
theorem mem_upd {n m : Int} {o x : PObj} : ∀ {H : Heap}, (names H).Nodup → (m, x) ∈ upd H n o → (m = n ∧ x = o) ∨ (m ≠ n ∧ (m, x) ∈ H)
  | [], _, h => by simp [upd] at h
  | (m', x') :: r, hn, h => by
    simp only [names, List.map_cons, List.nodup_cons] at hn
    simp only [upd] at h
    split at h
    · rename_i e
      subst e
      cases List.mem_cons.1 h with
      | inl e => cases e; exact .inl ⟨rfl, rfl⟩
      | inr e =>
        refine .inr ⟨fun e' => ?_, .tail _ e⟩
        subst e'
        exact hn.1 (List.mem_map.2 ⟨_, e, rfl⟩)
    · rename_i hne
      cases List.mem_cons.1 h with
      | inl e => cases e; exact .inr ⟨hne, .head _⟩
      | inr e =>
        rcases mem_upd hn.2 e with h | h
        · exact .inl h
        · exact .inr ⟨h.1, .tail _ h.2⟩
theorem mem_del {n m : Int} {x : PObj} : ∀ {H : Heap}, (names H).Nodup → (m, x) ∈ del H n → m ≠ n ∧ (m, x) ∈ H
  | [], _, h => by simp [del] at h
  | (m', x') :: r, hn, h => by
    simp only [names, List.map_cons, List.nodup_cons] at hn
    simp only [del] at h
    split at h
    · rename_i e
      subst e
      refine ⟨fun e' => ?_, .tail _ h⟩
      subst e'
      exact hn.1 (List.mem_map.2 ⟨_, h, rfl⟩)
    · rename_i hne
      cases List.mem_cons.1 h with
      | inl e => cases e; exact ⟨hne, .head _⟩
      | inr e => exact ⟨(mem_del hn.2 e).1, .tail _ (mem_del hn.2 e).2⟩
theorem names_del_sub (n : Int) : ∀ H : Heap, (names (del H n)).Sublist (names H)
  | [] => .slnil
  | (m, x) :: r => by
    simp only [del]
    split
    · exact List.sublist_cons_self _ _
    · exact (names_del_sub n r).cons_cons m
section
variable {P : Program} {G : Globs} {E : Amb} {A : Nat → Prop} {σ : PState} {a : Act} {w : World}
theorem Sim.put (hs : Sim G E A σ a w) (d : Option Tmp) {p : PV} {v : Value} (hr : Rep w A p v) : Sim G E A (σ.put d p) (a.put d v) w := by
  cases d with
  | none => exact hs
  | some d =>
    refine ⟨hs.ext, hs.lt, hs.a0, hs.a1, hs.globs, hs.nodup, hs.objs, hs.own, hs.neg, hs.defers, by simp [Act.put, PState.put, hs.size], fun i q hq => ?_⟩
    simp only [PState.put] at hq
    simp only [Act.put]
    rw [List.getElem?_set] at hq
    split at hq
    · rename_i e
      subst e
      split at hq
      · rename_i hlt
        cases hq
        have : d < a.tmps.size := by rw [hs.size]; exact hlt
        exact ⟨v, by simp [this], hr⟩
      · cases hq
    · rename_i hne
      obtain ⟨u, hu, hru⟩ := hs.frame i q hq
      exact ⟨u, by rw [Array.getElem?_setIfInBounds_ne (by omega)]; exact hu, hru⟩
/-- the world grows: nothing that was there turns -/
theorem Sim.grow {w' : World} (hs : Sim G E A σ a w) (he : Ext (fun _ => False) w w') : Sim G E A σ a w' := by
  have hm : ∀ b, A b → ¬ False := fun _ _ h => h
  exact ⟨hs.ext.trans he (fun _ _ h => h.elim), fun b hb => Nat.lt_of_lt_of_le (hs.lt b hb) he.size, hs.a0, hs.a1, fun g => (hs.globs g).ext he (fun _ h => h) hm, hs.nodup,
    fun n o h => (hs.objs n o h).ext he (fun _ h => h) hm (fun _ _ h => h), fun n o h b hb => by
      obtain ⟨h1, h2, h3⟩ := hs.own n o h b hb
      exact ⟨Nat.lt_of_lt_of_le h1 he.size, h2, h3⟩, hs.neg, hs.defers, hs.size, fun i p hp => by
      obtain ⟨v, hv, hr⟩ := hs.frame i p hp
      exact ⟨v, hv, hr.ext he (fun _ h => h) hm⟩⟩
/-- more memory is told to be turned by nobody: a block that is no object's -/
theorem Sim.more (hs : Sim G E A σ a w) {A' : Nat → Prop} (hA : ∀ b, A b → A' b) (h : ∀ b, A' b → A b ∨ (b < w.heap.size ∧ E.w0.heap.size ≤ b ∧ (b : Int) ∉ names σ.heap)) : Sim G E A' σ a w := by
  have he : Ext (fun _ => False) w w := Ext.refl _ _
  have hm : ∀ b, A b → ¬ False := fun _ _ h => h
  refine ⟨hs.ext, fun b hb => ?_, fun b hb => hA b (hs.a0 b hb), fun b hb => ?_, fun g => (hs.globs g).ext he hA hm, hs.nodup, fun n o h => (hs.objs n o h).ext he hA hm (fun _ _ h => h), fun n o hno b hb => ?_, hs.neg, hs.defers, hs.size,
    fun i p hp => ?_⟩
  · rcases h b hb with h | h
    · exact hs.lt b h
    · exact h.1
  · rcases h b hb with h | h
    · exact hs.a1 b h
    · exact .inr h.2.1
  · obtain ⟨h1, h2, h3⟩ := hs.own n o hno b hb
    refine ⟨h1, fun hb' => ?_, h3⟩
    rcases h b hb' with h | h
    · exact h2 h
    · exact h.2.2 (hb ▸ List.mem_map.2 ⟨_, hno, rfl⟩)
  · obtain ⟨v, hv, hr⟩ := hs.frame i p hp
    exact ⟨v, hv, hr.ext he hA hm⟩
/-- a new object -/
theorem Sim.new (hs : Sim G E A σ a w) (cur : Array Value) (fz : Nat × Nat) (o : PObj) (f : Nat → Value) (hu : unmarked fz cur.size) (hg : Grows o fz cur.size)
    (hc : ∀ (j : Nat) (u : PV), o.cells[j]? = some u → cur[j]? = some (f j) ∧ u.one = true ∧ Rep w A u (f j)) :
    (w.heap.size : Int) ∉ names σ.heap ∧ Sim G E A ⟨σ.frame, ((w.heap.size : Int), o) :: σ.heap⟩ a (w.alloc (.cells cur o.ty fz)) := by
  have hfresh : (w.heap.size : Int) ∉ names σ.heap := by
    intro h
    obtain ⟨⟨n, o'⟩, hno, hn⟩ := List.mem_map.1 h
    have := (hs.own n o' hno w.heap.size hn).1
    omega
  have he : Ext (fun _ => False) w (w.alloc (.cells cur o.ty fz)) := Ext.alloc _ _ _
  have hg' := hs.grow he
  refine ⟨hfresh, hg'.ext, hg'.lt, hg'.a0, hg'.a1, hg'.globs, List.nodup_cons.2 ⟨hfresh, hg'.nodup⟩, fun n o' h => ?_, fun n o' h b hb => ?_, fun n o' h hn => ?_, hg'.defers, hg'.size, hg'.frame⟩
  · cases List.mem_cons.1 h with
    | inl e =>
      cases e
      exact .inr (.inl ⟨w.heap.size, cur, fz, f, rfl, heap_alloc_new w _, hu, hg, fun j u hj => ⟨(hc j u hj).1, (hc j u hj).2.1, (hc j u hj).2.2.ext he (fun _ h => h) (fun _ _ h => h)⟩⟩)
    | inr e => exact hg'.objs n o' e
  · cases List.mem_cons.1 h with
    | inl e =>
      cases e
      have : b = w.heap.size := by omega
      subst this
      exact ⟨by simp, fun hA => by have := hs.lt _ hA; omega, .inl hs.ext.size⟩
    | inr e => exact hg'.own n o' e b hb
  · cases List.mem_cons.1 h with
    | inl e => cases e; omega
    | inr e => exact hg'.neg n o' e hn
theorem setCells_heap (b : Nat) (t : TypeId) (fz : Nat × Nat) : ∀ (vs : List Value) (off : Nat) (cur : Array Value) (w : World), w.heap[b]? = some (.cells cur t fz) →
    ∃ cur', (w.setCells b off vs).heap[b]? = some (.cells cur' t fz) ∧ cur'.size = cur.size ∧ ∀ j, cur'[j]? = if off ≤ j ∧ j < off + vs.length ∧ j < cur.size then vs[j - off]? else cur[j]?
  | [], off, cur, w, h => ⟨cur, h, rfl, fun j => by rw [if_neg (by simp; omega)]⟩
  | v :: vs, off, cur, w, h => by
    have h1 : (w.setCell (at_ b off) v).heap[b]? = some (.cells (cur.setIfInBounds off v) t fz) := by
      simp [World.setCell, Array.getElem?_modify, h]
    obtain ⟨cur', h2, h3, h4⟩ := setCells_heap b t fz vs (off + 1) _ _ h1
    refine ⟨cur', h2, by rw [h3]; simp, fun j => ?_⟩
    rw [h4]
    simp only [Array.size_setIfInBounds, List.length_cons]
    by_cases e : j = off
    · subst e
      rw [if_neg (by omega)]
      by_cases hj : j < cur.size
      · rw [if_pos (by omega)]; simp [hj]
      · rw [if_neg (by omega)]; simp [Nat.not_lt.1 hj]
    · by_cases hr : off + 1 ≤ j ∧ j < off + 1 + vs.length ∧ j < cur.size
      · rw [if_pos hr, if_pos (by omega)]
        rw [show j - off = (j - (off + 1)) + 1 by omega]
        simp
      · rw [if_neg hr, if_neg (by omega), Array.getElem?_setIfInBounds_ne (by omega)]
theorem Ext.setCells {M : Nat → Prop} (b : Nat) (hM : M b) : ∀ (vs : List Value) (off : Nat) (w : World), Ext M w (w.setCells b off vs)
  | [], _, w => Ext.refl _ _
  | v :: vs, off, w => (Ext.setCell w b off v hM).trans (Ext.setCells b hM vs (off + 1) _) (fun _ _ h => h)
/-- a store into an object -/
theorem Sim.store (hs : Sim G E A σ a w) {n : Int} {o : PObj} {b off : Nat} {sh : TypeId × Nat} (hl : look σ.heap n = some o) (hn : n = b) (hsx : w.shape? b = some sh) {xs : List PV} {vs : List Value} (hlen : xs.length = vs.length) (hoff : off ≤ o.cells.length) (hroom : off + xs.length ≤ o.cells.length ∨ ∃ t N, w.shape? b = some (t, N) ∧ off + xs.length ≤ N)
    (hx : ∀ (j : Nat) (u : PV), xs[j]? = some u → u.one = true ∧ ∃ v, vs[j]? = some v ∧ Rep w A u v) :
    Sim G E A ⟨σ.frame, upd σ.heap n { o with cells := o.cells.take off ++ xs ++ o.cells.drop (off + xs.length) }⟩ a (w.setCells b off vs) := by
  have hmem := look_mem hl
  obtain ⟨cur, fz, f, hh, hu, hg, hc⟩ := (hs.objs n o hmem).block hn hsx
  obtain ⟨hb1, hb2, hb3⟩ := hs.own n o hmem b hn
  have he : Ext (fun x => x = b) w (w.setCells b off vs) := Ext.setCells (M := fun x => x = b) b rfl vs off w
  have hAb : ∀ x, A x → ¬ x = b := fun x hx e => hb2 (e ▸ hx)
  obtain ⟨cur', h2, h3, h4⟩ := setCells_heap b o.ty fz vs off cur w hh
  have hcl : o.cells.length ≤ cur.size := by
    rcases Nat.lt_or_ge cur.size o.cells.length with h | h
    · have := (hc cur.size _ (List.getElem?_eq_getElem h)).1
      simp at this
    · exact h
  have hroom' : off + xs.length ≤ cur.size := by
    rcases hroom with h | ⟨t, N, hsh, h⟩
    · omega
    · simp [World.shape?, hh] at hsh
      omega
  refine ⟨hs.ext.trans he (fun x hx e => by
      subst e
      rcases hb3 with h | h
      · omega
      · exact h), fun x hx => Nat.lt_of_lt_of_le (hs.lt x hx) he.size, hs.a0, hs.a1, fun g => (hs.globs g).ext he (fun _ h => h) hAb, ?_, fun m o' h => ?_, fun m o' h x hx => ?_, fun m o' h hm => ?_, hs.defers, hs.size, fun i p hp => ?_⟩
  · show (names (upd σ.heap n _)).Nodup
    rw [names_upd]
    exact hs.nodup
  · rcases mem_upd hs.nodup h with ⟨rfl, rfl⟩ | ⟨hne, hm⟩
    · refine .inr (.inl ⟨b, cur', fz, fun j => cur'.getD j undef, hn, h2, by rw [h3]; exact hu, ⟨hg.1, fun k1 k2 => by have e := hg.2 k1 k2; rw [h3]; simp only [List.length_append, List.length_take, List.length_drop]; omega⟩, fun j u hj => ?_⟩)
      simp only at hj
      have key : ∃ v, cur'[j]? = some v ∧ u.one = true ∧ Rep w A u v := by
        rw [h4]
        by_cases hj1 : j < off
        · rw [if_neg (by omega)]
          rw [List.append_assoc, List.getElem?_append_left (by simp; omega), List.getElem?_take, if_pos hj1] at hj
          exact ⟨f j, hc j u hj⟩
        · by_cases hj2 : j < off + xs.length
          · rw [if_pos (by omega)]
            rw [List.getElem?_append_left (by simp; omega), List.getElem?_append_right (by simp; omega)] at hj
            simp only [List.length_take, Nat.min_eq_left (show off ≤ o.cells.length by omega)] at hj
            obtain ⟨h1, v, hv, hr⟩ := hx _ u hj
            exact ⟨v, hv, h1, hr⟩
          · rw [if_neg (by omega)]
            rw [List.getElem?_append_right (by simp; omega), List.getElem?_drop] at hj
            simp only [List.length_append, List.length_take, Nat.min_eq_left (show off ≤ o.cells.length by omega)] at hj
            rw [show off + xs.length + (j - (off + xs.length)) = j by omega] at hj
            exact ⟨f j, hc j u hj⟩
      obtain ⟨v, hv, h1, hr⟩ := key
      have : cur'.getD j undef = v := by simp [Array.getD_eq_getD_getElem?, hv]
      simp only [this]
      exact ⟨hv, h1, hr.ext he (fun _ h => h) hAb⟩
    · exact (hs.objs m o' hm).ext he (fun _ h => h) hAb (fun x hx e => hne (by rw [hx, e, hn]))
  · have hsz : w.heap.size ≤ (w.setCells b off vs).heap.size := he.size
    rcases mem_upd hs.nodup h with ⟨rfl, rfl⟩ | ⟨hne, hm⟩
    · have : x = b := by omega
      subst this
      exact ⟨Nat.lt_of_lt_of_le hb1 hsz, hb2, hb3⟩
    · obtain ⟨q1, q2, q3⟩ := hs.own m o' hm x hx
      exact ⟨Nat.lt_of_lt_of_le q1 hsz, q2, q3⟩
  · rcases mem_upd hs.nodup h with ⟨rfl, rfl⟩ | ⟨hne, hm'⟩
    · omega
    · exact hs.neg m o' hm' hm
  · obtain ⟨v, hv, hr⟩ := hs.frame i p hp
    exact ⟨v, hv, hr.ext he (fun _ h => h) hAb⟩
/-- an object is let go -/
theorem Sim.drop (hs : Sim G E A σ a w) (n : Int) : Sim G E A ⟨σ.frame, del σ.heap n⟩ a w :=
  ⟨hs.ext, hs.lt, hs.a0, hs.a1, hs.globs, List.Sublist.nodup (names_del_sub n σ.heap) hs.nodup, fun m o h => hs.objs m o (mem_del hs.nodup h).2, fun m o h => hs.own m o (mem_del hs.nodup h).2, fun m o h => hs.neg m o (mem_del hs.nodup h).2,
    hs.defers, hs.size, hs.frame⟩
theorem names_del_not (n : Int) : ∀ H : Heap, (names H).Nodup → n ∉ names (del H n)
  | [], _ => by simp [del, names]
  | (m, x) :: r, hn => by
    simp only [names, List.map_cons, List.nodup_cons] at hn
    simp only [del]
    split
    · rename_i e; subst e; exact hn.1
    · rename_i hne
      intro h
      cases List.mem_cons.1 h with
      | inl e => exact hne e.symm
      | inr e => exact names_del_not n r hn.2 e
theorem mem_upd_self {n : Int} {o x : PObj} : ∀ {H : Heap}, look H n = some x → (n, o) ∈ upd H n o
  | [], h => by simp [look] at h
  | (m, y) :: r, h => by
    simp only [look] at h
    simp only [upd]
    split
    · exact .head _
    · rename_i hne
      rw [if_neg hne] at h
      exact .tail _ (mem_upd_self h)
theorem mem_upd_of_del {n m : Int} {o x : PObj} : ∀ {H : Heap}, (m, x) ∈ del H n → (names H).Nodup → (m, x) ∈ upd H n o
  | [], h, _ => by simp [del] at h
  | (m', y) :: r, h, hn => by
    simp only [names, List.map_cons, List.nodup_cons] at hn
    simp only [del] at h
    simp only [upd]
    split
    · rename_i e; rw [if_pos e] at h; exact .tail _ h
    · rename_i hne
      rw [if_neg hne] at h
      cases List.mem_cons.1 h with
      | inl e => cases e; exact .head _
      | inr e => exact .tail _ (mem_upd_of_del e hn.2)
theorem Sim.front (hs : Sim G E A σ a w) {n : Int} {o x : PObj} {H : Heap} (hH : (names H).Nodup) (hl : look H n = some x) (he : σ.heap = upd H n o) : Sim G E A ⟨σ.frame, (n, o) :: del H n⟩ a w := by
  have key : ∀ m y, (m, y) ∈ ((n, o) :: del H n : Heap) → (m, y) ∈ σ.heap := by
    intro m y h
    rw [he]
    cases List.mem_cons.1 h with
    | inl e => cases e; exact mem_upd_self hl
    | inr e => exact mem_upd_of_del e hH
  exact ⟨hs.ext, hs.lt, hs.a0, hs.a1, hs.globs, List.nodup_cons.2 ⟨names_del_not n H hH, List.Sublist.nodup (names_del_sub n H) hH⟩, fun m y h => hs.objs m y (key m y h), fun m y h => hs.own m y (key m y h), fun m y h => hs.neg m y (key m y h),
    hs.defers, hs.size, hs.frame⟩
/-- What is appended: its length, its cells. -/
structure Src (P : Program) (t : TypeId) (size m : Nat) (x : Value) (news : List Value) (w : World) : Prop where
  kind : ∃ d, P.underlying t = some d ∧ (∀ k, d ≠ .int k)
  len : ∀ w', Sem.run P (Builtin.lenOf x) w' = .ok m w'
  count : news.length = m * size
  first : ∀ n, n ≤ m → ∀ w', Keeps w w' → Sem.run P (Builtin.firstCells size n x) w' = .ok (news.take (n * size)).toArray w'
theorem Src.cells {P : Program} {t : TypeId} {size m : Nat} {x : Value} {news : List Value} {w : World} (h : Src P t size m x news w) : ∀ w', Keeps w w' → Sem.run P (Builtin.firstCells size m x) w' = .ok news.toArray w' := by
  intro w' hw
  rw [h.first m (Nat.le_refl m) w' hw, ← h.count, List.take_length]
theorem keeps_drew (w : World) : Keeps w w.drew := fun _ _ => rfl
theorem run_append_grow' {t u ty e : TypeId} {i : TypeInfo} {z : Value} (ht : P.underlying t = some (.slice e)) (hi : P.info? e = some i) (hz : i.zero = some z) {s : Value} {base : Option Addr} {sLen sCap m : Nat} {x : Value}
    {olds news : List Value} (hs : s = .slice base sLen sCap) (hsrc : Src P u i.size m x news w) (hold : ∀ w', Keeps w w' → Sem.run P (Builtin.firstCells i.size sLen s) w' = .ok olds.toArray w')
    (hg : sCap < sLen + m) (h63 : sLen + m ≤ 9223372036854775807) (hfit : (sLen + m) * i.bytes ≤ 140737488355328) :
    Sem.run P (Builtin.append_ #[t, u] ty #[s, x]) w = .ok (.slice (some (at_ w.heap.size 0)) (sLen + m) (grownCap w (sLen + m) sCap e))
        (w.drew.alloc (.cells (olds.toArray ++ news.toArray ++ Builtin.zeroCells z.cells (grownCap w (sLen + m) sCap e - (sLen + m))) e)) := by
  obtain ⟨d, hd, hk⟩ := hsrc.kind
  have hn : ¬ (sLen + m ≤ sCap) := by omega
  have h63' : ¬ (9223372036854775807 < ((sLen : Int) + (m : Int))) := by omega
  have hfit' := growslice_fits (bytes := i.bytes) hg hfit
  have h48' : ¬ (281474976710656 < Builtin.nextslicecap (sLen + m) sCap * i.bytes) := by omega
  have hf := hsrc.cells w.drew (keeps_drew w)
  have ho := hold w.drew (keeps_drew w)
  have hkind : (match d with | .int _ => true | _ => false) = false := by cases d <;> first | rfl | exact absurd rfl (hk _)
  subst hs
  simp only [Builtin.append_, List.getElem?_toArray, List.getElem?_cons_zero, List.getElem?_cons_succ, Sem.run_bind, run_underlying ht, Result.andThen_ok, run_underlying hd]
  simp [hkind, sizeOf, typeInfo, zeroValue, hi, hz, hsrc.len, hn, h63', h48', Question.forced, newRow, grownCap]
  rw [ho]
  simp only [Result.andThen_ok]
  rw [hf]
  simp only [Result.andThen_ok]
  congr 2
  congr 1
  apply Array.ext'
  simp [List.append_assoc]
end
end Go.PM

namespace Go.PM
open Go.RowKit
section
variable {P : Program} {G : Globs} {E : Amb} {A : Nat → Prop} {σ : PState} {a : Act} {w : World}
theorem run_append_room' {t u ty e : TypeId} {i : TypeInfo} (ht : P.underlying t = some (.slice e)) (hi : P.info? e = some i) {b sLen sCap m : Nat} {x : Value} {news : List Value} {cur : Array Value} {ft : TypeId}
    (hsrc : Src P u i.size m x news w) (hh : w.heap[b]? = some (.cells cur ft (0, 0))) (hsz : cur.size = sCap * i.size) (hg : sLen + m ≤ sCap) (h1 : ∀ v ∈ news, v.oneCell' = true) :
    Sem.run P (Builtin.append_ #[t, u] ty #[.slice (some (at_ b 0)) sLen sCap, x]) w = .ok (.slice (some (at_ b 0)) (sLen + m) sCap) (w.setCells b (sLen * i.size) news) := by
  obtain ⟨d, hd, hk⟩ := hsrc.kind
  have hf := hsrc.cells w (Keeps.refl w)
  have hkind : (match d with | .int _ => true | _ => false) = false := by cases d <;> first | rfl | exact absurd rfl (hk _)
  have hle : sLen * i.size + m * i.size ≤ cur.size := by rw [hsz, ← Nat.add_mul]; exact Nat.mul_le_mul_right _ hg
  have hst := run_storeCells_cells (P := P) b (sLen * i.size) news 0 w (fun j hj => by
      have : sLen * i.size + 0 + j < cur.size := by rw [hsrc.count] at hj; omega
      simp [World.cell?, hh]; omega) (fun j hj => by simp [World.frozen?, hh]) h1
  simp only [Builtin.append_, List.getElem?_toArray, List.getElem?_cons_zero, List.getElem?_cons_succ, Sem.run_bind, run_underlying ht, Result.andThen_ok, run_underlying hd]
  simp [hkind, sizeOf, typeInfo, hi, hsrc.len, hg, hf, at_add]
  have hst' : Sem.run P (storeCells (at_ b (sLen * i.size)) news 0) w = .ok () (w.setCells b (sLen * i.size) news) := by simpa using hst
  rw [hst']
  rfl
/-- The head of a program's own law: what append does to the simulation, for a row of one's own. -/
theorem Sim.append (hs : Sim G E A σ a w) {t u ty e : TypeId} {i : TypeInfo} {z : Value} (ht : P.underlying t = some (.slice e)) (hi : P.info? e = some i) (hz : i.zero = some z) (hzs : z.cells.size = i.size) (hsz : 0 < i.size)
    {n : Int} {len m : Nat} {o : PObj} {s x : Value} {ys : List PV} {news : List Value} (hrep : Rep w A (.row n i.size len) s) (hl : look σ.heap n = some o) (hg : o.grow = true) (hty : o.ty = e) (hes : o.es = i.size) (hlen : o.cells.length = len * i.size)
    (hsrc : Src P u i.size m x news w) (hys : ys.length = news.length) (hy : ∀ (j : Nat) (p : PV), ys[j]? = some p → p.one = true ∧ ∃ v, news[j]? = some v ∧ Rep w A p v)
    (h63 : len + m ≤ 9223372036854775807) (hfit : (len + m) * i.bytes ≤ 140737488355328) :
    ∃ v w1 n', Sem.run P (Builtin.append_ #[t, u] ty #[s, x]) w = .ok v w1 ∧ n' ∉ names (del σ.heap n) ∧ Rep w1 A (.row n' i.size (len + m)) v ∧
      Sim G E A ⟨σ.frame, (n', ⟨e, true, i.size, o.cells ++ ys⟩) :: del σ.heap n⟩ a w1 := by
  have hnot := names_del_not n σ.heap hs.nodup
  have hone : ∀ v ∈ news, v.oneCell' = true := by
    intro v hv
    obtain ⟨j, hj, rfl⟩ := List.getElem_of_mem hv
    have hj' : j < ys.length := by omega
    obtain ⟨h1, v', hv', hr⟩ := hy j _ (List.getElem?_eq_getElem hj')
    rw [List.getElem?_eq_getElem hj] at hv'
    cases hv'
    exact (one_cells h1 hr).2
  -- a new row
  have grown : ∀ (olds : List Value) (cap : Nat), olds.length = len * i.size → (∀ (j : Nat) (p : PV), o.cells[j]? = some p → ∃ v, olds[j]? = some v ∧ p.one = true ∧ Rep w A p v) → cap < len + m →
      (∀ w', Keeps w w' → Sem.run P (Builtin.firstCells i.size len s) w' = .ok olds.toArray w') → (∃ base, s = .slice base len cap) →
      ∃ v w1 n', Sem.run P (Builtin.append_ #[t, u] ty #[s, x]) w = .ok v w1 ∧ n' ∉ names (del σ.heap n) ∧ Rep w1 A (.row n' i.size (len + m)) v ∧ Sim G E A ⟨σ.frame, (n', ⟨e, true, i.size, o.cells ++ ys⟩) :: del σ.heap n⟩ a w1 := by
    rintro olds cap hol hoc hcap hload ⟨base, hsv⟩
    have hrun := run_append_grow' (P := P) (ty := ty) ht hi hz hsv hsrc hload hcap h63 hfit
    have hge := grownCap_ge w (len + m) cap e
    have hcm := grownCap_le_maxLen w (len + m) cap e (by simp only [maxLen]; omega)
    have hs0 : Sim G E A ⟨σ.frame, del σ.heap n⟩ a w.drew := (hs.drop n).grow (Ext.drew _ w)
    have hsize : (olds.toArray ++ news.toArray ++ Builtin.zeroCells z.cells (grownCap w (len + m) cap e - (len + m))).size = grownCap w (len + m) cap e * i.size := by
      simp only [Array.size_append, List.size_toArray, size_zeroCells, hzs, hol, hsrc.count, ← Nat.add_mul]
      congr 1
      omega
    obtain ⟨hfr, hsim⟩ := hs0.new (olds.toArray ++ news.toArray ++ Builtin.zeroCells z.cells (grownCap w (len + m) cap e - (len + m))) (0, 0) ⟨e, true, i.size, o.cells ++ ys⟩ (fun j => (olds ++ news).getD j undef) (fun j _ h => by omega) ⟨fun _ => rfl, fun k => by cases k⟩
      (fun j p hp => by
        have key : ∃ v, (olds ++ news)[j]? = some v ∧ p.one = true ∧ Rep w A p v := by
          by_cases hj : j < o.cells.length
          · rw [List.getElem?_append_left hj] at hp
            rw [List.getElem?_append_left (by omega)]
            exact hoc j p hp
          · rw [List.getElem?_append_right (by omega)] at hp
            rw [List.getElem?_append_right (by omega), hol, ← hlen]
            obtain ⟨h1, v, hv, hr⟩ := hy _ p hp
            exact ⟨v, hv, h1, hr⟩
        obtain ⟨v, hv, h1, hr⟩ := key
        have hgd : (olds ++ news).getD j undef = v := by simp [List.getD_eq_getElem?_getD, hv]
        simp only [hgd]
        refine ⟨?_, h1, hr.ext (Ext.drew (fun _ => False) w) (fun _ h => h) (fun _ _ h => h)⟩
        have hjl : j < (olds ++ news).length := (List.getElem?_eq_some_iff.1 hv).1
        have e1 : (olds.toArray ++ news.toArray) = (olds ++ news).toArray := by simp
        rw [e1, Array.getElem?_append_left (by simpa using hjl)]
        simpa using hv)
    refine ⟨_, _, (w.heap.size : Int), hrun, ?_, ?_, ?_⟩
    · exact hfr
    · refine Rep.row _ _ _ _ _ e ?_ hsize hge hcm
      have := heap_alloc_new w.drew (.cells (olds.toArray ++ news.toArray ++ Builtin.zeroCells z.cells (grownCap w (len + m) cap e - (len + m))) e)
      simp only [World.shape?]
      rw [show w.heap.size = w.drew.heap.size from rfl, this]
    · exact hsim
  rcases hrep.row_inv with ⟨hn, rfl, hsv⟩ | ⟨b, c, N, t', hn, hsv, hsh, hN, hle, hmx⟩
  · -- nil
    have hcs : o.cells = [] := List.eq_nil_of_length_eq_zero (by simpa using hlen)
    by_cases hm : m = 0
    · subst hm
      have hnews : news = [] := List.eq_nil_of_length_eq_zero (by simpa using hsrc.count)
      subst hnews
      have hys0 : ys = [] := List.eq_nil_of_length_eq_zero (by simpa using hys)
      subst hys0
      obtain ⟨d, hd, hk⟩ := hsrc.kind
      have hkind : (match d with | .int _ => true | _ => false) = false := by cases d <;> first | rfl | exact absurd rfl (hk _)
      have hf := hsrc.cells w (Keeps.refl w)
      refine ⟨.slice none 0 0, w, n, ?_, hnot, Rep.rownil n _ hn, ?_⟩
      · subst hsv
        simp only [Builtin.append_, List.getElem?_toArray, List.getElem?_cons_zero, List.getElem?_cons_succ, Sem.run_bind, run_underlying ht, Result.andThen_ok, run_underlying hd]
        simp [hkind, sizeOf, typeInfo, hi, hsrc.len, hf]
      · have hkey : ∀ k y, (k, y) ∈ ((n, ⟨e, true, i.size, o.cells ++ []⟩) :: del σ.heap n : Heap) → (k, y) ∈ σ.heap ∨ (k = n ∧ y = ⟨e, true, i.size, []⟩) := by
          intro k y h
          cases List.mem_cons.1 h with
          | inl e' => cases e'; exact .inr ⟨rfl, by rw [hcs]; rfl⟩
          | inr e' => exact .inl (mem_del hs.nodup e').2
        have hmem := look_mem hl
        refine ⟨hs.ext, hs.lt, hs.a0, hs.a1, hs.globs, List.nodup_cons.2 ⟨hnot, (hs.drop n).nodup⟩, fun k y h => ?_, fun k y h => ?_, fun k y h => ?_, hs.defers, hs.size, hs.frame⟩
        · rcases hkey k y h with h | ⟨rfl, rfl⟩
          · exact hs.objs k y h
          · exact .inl ⟨rfl, hn, rfl⟩
        · rcases hkey k y h with h | ⟨rfl, rfl⟩
          · exact hs.own k y h
          · intro b hb; omega
        · rcases hkey k y h with h | ⟨rfl, rfl⟩
          · exact hs.neg k y h
          · exact hs.neg k o hmem
    · refine grown [] 0 (by simp) (by simp [hcs]) (by omega) (fun w' _ => ?_) ⟨none, hsv⟩
      rw [hsv]
      exact run_firstCells_none w' _ _ _ _
  · subst hn
    obtain ⟨cur, fz, f, hh, hu, hgz, hc⟩ := (hs.objs _ o (look_mem hl)).block rfl hsh
    have hfz := hgz.1 hg
    subst hfz
    have hcur : cur.size = c * i.size := by
      simp [World.shape?, hh] at hsh
      omega
    have hoc : ∀ (j : Nat) (p : PV), o.cells[j]? = some p → ∃ v, ((List.range o.cells.length).map f)[j]? = some v ∧ p.one = true ∧ Rep w A p v := by
      intro j p hp
      have hj : j < o.cells.length := (List.getElem?_eq_some_iff.1 hp).1
      exact ⟨f j, by simp [hj], (hc j p hp).2.1, (hc j p hp).2.2⟩
    by_cases hroom : len + m ≤ c
    · have hrun := run_append_room' (P := P) (ty := ty) ht hi hsrc hh hcur hroom hone
      have hlm : len * i.size + m * i.size ≤ c * i.size := by rw [← Nat.add_mul]; exact Nat.mul_le_mul_right _ hroom
      have hst := hs.store (off := len * i.size) hl rfl hsh hys (by omega) (.inr ⟨_, _, hsh, by rw [hys, hsrc.count, hN]; exact hlm⟩) hy
      refine ⟨_, _, (b : Int), by rw [hsv]; exact hrun, hnot, ?_, ?_⟩
      · refine Rep.row _ _ _ _ N t' ?_ hN hroom hmx
        exact (Ext.setCells (M := fun x => x = b) b rfl news _ w).shape _ _ hsh
      · have hfin := hst.front hs.nodup hl rfl
        have e1 : o.cells.take (len * i.size) ++ ys ++ o.cells.drop (len * i.size + ys.length) = o.cells ++ ys := by
          rw [← hlen, List.take_length, List.drop_of_length_le (by omega), List.append_nil]
        have e2 : ({ o with cells := o.cells.take (len * i.size) ++ ys ++ o.cells.drop (len * i.size + ys.length) } : PObj) = ⟨e, true, i.size, o.cells ++ ys⟩ := by
          rw [e1, hg, hty, hes]
        rw [e2] at hfin
        exact hfin
    · refine grown ((List.range o.cells.length).map f) c (by simp [hlen]) hoc (by omega) (fun w' hw => ?_) ⟨_, hsv⟩
      rw [hsv]
      have := run_firstCells_some (P := P) w' i.size len (at_ b 0) len c ((List.range o.cells.length).map f) (by simp [hlen]) (fun j v hv => by
        rw [at_add, Nat.zero_add]
        have hj : j < o.cells.length := by
          have := (List.getElem?_eq_some_iff.1 hv).1
          simpa using this
        have hp := List.getElem?_eq_getElem hj
        simp [hj] at hv
        subst hv
        exact hw.cell (by rw [cell_of_block hh]; exact (hc j _ hp).1))
      exact this
end
end Go.PM

namespace Go.PM
open Go.RowKit
/-- The operation o, run in (a, w), comes to a state of which K holds. -/
def Steps1 (P : Program) (G : Globs) (E : Amb) (q : Bool) (o : Oper) (K : PState → Prop) (a : Act) (w : World) : Prop :=
  ∃ v w1 σ' A', ((execOp a.eval o).run P w = .ok (.value v) w1 ∨ ((execOp a.eval o).run P w = .ok .skip w1 ∧ v = undef)) ∧ K σ' ∧ Sim G E A' σ' (a.put o.dst v) w1 ∧ (q = true → Keeps w w1)
def vcells (z : Value) : List PV := z.cells.toList.map .val
section
variable {P : Program} {G : Globs} {E : Amb} {A : Nat → Prop} {σ : PState} {a : Act} {w : World} {o : Oper} {K : PState → Prop} {q : Bool}
theorem Reps.fn {cs : List PV} {vs : Array Value} (h : Reps w A cs vs) : ∀ (j : Nat) (u : PV), cs[j]? = some u → vs[j]? = some (vs.getD j undef) ∧ Rep w A u (vs.getD j undef) := by
  intro j u hu
  obtain ⟨v, hv, hr⟩ := h.2 j u hu
  have : vs.getD j undef = v := by simp [Array.getD_eq_getD_getElem?, hv]
  rw [this]
  exact ⟨hv, hr⟩
/-- a new block that holds the cells cs, and a pointer or a slice to it -/
theorem step_new (hs : Sim G E A σ a w) {cs : List PV} {vs : Array Value} (hc : Reps w A cs vs) (h1 : ∀ u ∈ cs, u.one = true) (ty : TypeId) (gr : Bool) (es : Nat) (p : Int → PV) (v : Nat → Value)
    (hp : ∀ w' : World, w'.shape? w.heap.size = some (ty, vs.size) → Rep w' A (p w.heap.size) (v w.heap.size)) (hrun : (execOp a.eval o).run P w = .ok (.value (v w.heap.size)) (w.alloc (.cells vs ty)))
    (hk : ∀ n : Int, n ∉ names σ.heap → K (PState.put ⟨σ.frame, (n, ⟨ty, gr, es, cs⟩) :: σ.heap⟩ o.dst (p n))) : Steps1 P G E q o K a w := by
  obtain ⟨hfr, hsim⟩ := hs.new vs (0, 0) ⟨ty, gr, es, cs⟩ (fun j => vs.getD j undef) (fun j _ h => by omega) ⟨fun _ => rfl, fun _ _ => hc.1⟩ (fun j u hu => ⟨(hc.fn j u hu).1, h1 u (List.mem_of_getElem? hu), (hc.fn j u hu).2⟩)
  refine ⟨_, _, _, A, .inl hrun, hk _ hfr, hsim.put o.dst (hp _ ?_), fun _ b hb => Below.heap_alloc w _ b hb⟩
  simp only [World.shape?, heap_alloc_new]
def pbox (σ : PState) (d : Option Tmp) (t : TypeId) (x : PV) (K : PState → Prop) : Prop :=
  match x.mem? with
  | some cs => cs.all PV.one = true ∧ @pfresh (names σ.heap) ⟨fun n => K (PState.put ⟨σ.frame, (n, ⟨t, false, 0, cs⟩) :: σ.heap⟩ d (.ptr n 0))⟩
  | none => False
theorem pbox_sound {t : TypeId} {x : Operand} (hs : Sim G E A σ a w) (ho : o.op = .box t x) (h : pbox σ o.dst t (opnd G σ.frame x) K) : Steps1 P G E q o K a w := by
  unfold pbox at h
  split at h
  · rename_i cs hm
    obtain ⟨h1, hk⟩ := h
    refine step_new hs (mem_reps hm (hs.opnd x)) (fun u hu => List.all_eq_true.1 h1 u hu) t false 0 (fun n => .ptr n 0) (fun b => .pointer (some (at_ b 0))) (fun w' hsh => .ptr _ 0 _ hsh) ?_ hk
    unfold execOp
    simp [ho, Instr.box, newVar, newRow, newObj, Sem.run]
  · exact h.elim
def palloc (P : Program) (σ : PState) (d : Option Tmp) (t : TypeId) (K : PState → Prop) : Prop :=
  match tf P t with
  | some F => match F.zero with
    | some z => (vcells z).all PV.one = true ∧ @pfresh (names σ.heap) ⟨fun n => K (PState.put ⟨σ.frame, (n, ⟨t, false, 0, vcells z⟩) :: σ.heap⟩ d (.ptr n 0))⟩
    | none => False
  | none => False
theorem zero_run {t : TypeId} {F : TF} (hF : tf P t = some F) {z : Value} (hz : F.zero = some z) (w' : World) : Sem.run P (zeroValue t) w' = .ok z w' := by
  obtain ⟨d, i, hd, hi, rfl⟩ := tf_some hF
  simp only at hz
  simp [zeroValue, typeInfo, hi, hz]
theorem palloc_sound {t : TypeId} (hs : Sim G E A σ a w) (ho : o.op = .alloc t) (h : palloc P σ o.dst t K) : Steps1 P G E q o K a w := by
  unfold palloc at h
  split at h
  · rename_i F hF
    split at h
    · rename_i z hz
      obtain ⟨h1, hk⟩ := h
      refine step_new hs (vals_reps z.cells) (fun u hu => List.all_eq_true.1 h1 u hu) t false 0 (fun n => .ptr n 0) (fun b => .pointer (some (at_ b 0))) (fun w' hsh => .ptr _ 0 _ hsh) ?_ hk
      unfold execOp
      simp [ho, Instr.alloc, newVar, newRow, newObj, Sem.run, zero_run hF hz]
    · exact h.elim
  · exact h.elim
/-- n times the same cells -/
def times (n : Nat) (zs : List PV) : List PV := (List.replicate n zs).flatten
theorem times_get (n : Nat) (zs : List PV) (j : Nat) (h : j < n * zs.length) : (times n zs)[j]? = zs[j % zs.length]? := by
  induction n generalizing j with
  | zero => omega
  | succ n ih =>
    simp only [times, List.replicate_succ, List.flatten_cons] at ih ⊢
    by_cases hj : j < zs.length
    · rw [List.getElem?_append_left hj, Nat.mod_eq_of_lt hj]
    · rw [List.getElem?_append_right (by omega), ih _ (by rw [Nat.succ_mul] at h; omega)]
      rw [← Nat.mod_eq_sub_mod (by omega)]
theorem times_length (n : Nat) (zs : List PV) : (times n zs).length = n * zs.length := by simp [times]
theorem times_reps (z : Value) (n size : Nat) (hsz : z.cells.size = size) : Reps w A (times n (vcells z)) ((Array.range (n * size)).map (z.cells[· % z.cells.size]!)) := by
  have hl : (vcells z).length = size := by simp [vcells, hsz]
  refine ⟨by simp [times_length, hl], fun j u hu => ?_⟩
  have hj : j < n * size := by
    have := (List.getElem?_eq_some_iff.1 hu).1
    rwa [times_length, hl] at this
  rw [times_get _ _ _ (by rw [hl]; exact hj), hl] at hu
  have hpos : 0 < size := by
    rcases Nat.eq_zero_or_pos size with h | h
    · subst h; omega
    · exact h
  have hlt : j % size < z.cells.size := by rw [hsz]; exact Nat.mod_lt _ hpos
  have : u = .val z.cells[j % size] := by
    simp only [vcells, List.getElem?_map, Array.getElem?_toList, Array.getElem?_eq_getElem hlt, Option.map_some, Option.some.injEq] at hu
    exact hu.symm
  subst this
  refine ⟨z.cells[j % size], ?_, .val _⟩
  simp [hj, hsz]
  rw [getElem!_pos z.cells (j % size) hlt]
theorem times_one {z : Value} {n : Nat} (h : (vcells z).all PV.one = true) : ∀ u ∈ times n (vcells z), u.one = true := by
  intro u hu
  simp only [times, List.mem_flatten, List.mem_replicate] at hu
  obtain ⟨l, ⟨_, rfl⟩, hu⟩ := hu
  exact List.all_eq_true.1 h u hu
/-- make([]T, n) -/
def pmakes (P : Program) (σ : PState) (d : Option Tmp) (t : TypeId) (l c : PV) (K : PState → Prop) : Prop :=
  match tf P t, l, c with
  | some ⟨.slice e es eb, _, _, _, _⟩, .val (.int _ l), .val (.int _ c) => match tf P e with
    | some Fe => match Fe.zero with
      | some z => l = c ∧ 0 ≤ l ∧ l ≤ 9223372036854775807 ∧ (eb : Int) * l ≤ 140737488355328 ∧ z.cells.size = es ∧ 0 < es ∧ (vcells z).all PV.one = true ∧
          @pfresh (names σ.heap) ⟨fun n => K (PState.put ⟨σ.frame, (n, ⟨e, true, es, times l.toNat (vcells z)⟩) :: σ.heap⟩ d (.row n es l.toNat))⟩
      | none => False
    | none => False
  | _, _, _ => False
theorem pmakes_sound {t : TypeId} {l c : Operand} (hs : Sim G E A σ a w) (ho : o.op = .makeSlice t l c) (h : pmakes P σ o.dst t (opnd G σ.frame l) (opnd G σ.frame c) K) : Steps1 P G E q o K a w := by
  unfold pmakes at h
  split at h
  · rename_i e es eb s1 s2 s3 s4 kl l' kc c' hF hel hec
    have hl := hs.opnd l
    have hc := hs.opnd c
    rw [hel] at hl
    rw [hec] at hc
    split at h
    · rename_i Fe hFe
      split at h
      · rename_i z hz
        obtain ⟨rfl, h0, h63, hb, hzs, hes0, h1, hk⟩ := h
        obtain ⟨hu, i, hi, his, hib⟩ := tf_slice hF rfl
        have hw : IntKind.i64.wrap l' = l' := IntWalk.i64_in _ (by omega)
        refine step_new hs (times_reps z l'.toNat es hzs) (times_one h1) e true es (fun n => .row n es l'.toNat) (fun b => .slice (some (at_ b 0)) l'.toNat l'.toNat)
          (fun w' hsh => Rep.row _ _ _ _ _ e hsh (by simp) (Nat.le_refl _) (by simp only [maxLen]; omega)) ?_ hk
        obtain ⟨d', i', hd', hi', hFe'⟩ := tf_some hFe
        have hiz : i.zero = some z := by
          rw [hi] at hi'
          cases hi'
          rw [hFe'] at hz
          exact hz
        have hr := run_make (P := P) w t e i z hu hi hiz kl kc l' l' h0 (Int.le_refl _) (by rw [hib]; omega) h63
        unfold execOp
        simp only [ho, hl.val_eq, hc.val_eq, Sem.run_bind, hr, Result.andThen_ok, Sem.run_pure, madeCells, his]
      · exact h.elim
    · exact h.elim
  · exact h.elim
/-- a store through an address -/
def pstore (P : Program) (σ : PState) (d : Option Tmp) (t : TypeId) (x v : PV) (K : PState → Prop) : Prop :=
  match tf P t, x, v.mem? with
  | some F, .ptr n off, some xs => match look σ.heap n with
    | some o => xs.length = F.size ∧ xs.all PV.one = true ∧ off + xs.length ≤ o.cells.length ∧
        K (PState.put ⟨σ.frame, upd σ.heap n { o with cells := o.cells.take off ++ xs ++ o.cells.drop (off + xs.length) }⟩ d .junk)
    | none => False
  | _, _, _ => False
theorem pstore_sound {t : TypeId} {x y : Operand} (hs : Sim G E A σ a w) (ho : o.op = .store t x y) (h : pstore P σ o.dst t (opnd G σ.frame x) (opnd G σ.frame y) K) : Steps1 P G E false o K a w := by
  unfold pstore at h
  split at h
  · rename_i F n off xs hF hx hm
    split at h
    · rename_i ob hl
      obtain ⟨hlen, h1, hoff, hk⟩ := h
      have hxr := hs.opnd x
      rw [hx] at hxr
      obtain ⟨b, rfl, hv, xsh, hsx⟩ := hxr.ptr_inv
      have hr := mem_reps hm (hs.opnd y)
      obtain ⟨cur, fz, f, hh, hu, hg, hc⟩ := (hs.objs _ ob (look_mem hl)).block rfl hsx
      have hcl : ob.cells.length ≤ cur.size := by
        rcases Nat.lt_or_ge cur.size ob.cells.length with h | h
        · have := (hc cur.size _ (List.getElem?_eq_getElem h)).1
          simp at this
        · exact h
      have hvl : (a.eval y).cells.toList.length = xs.length := by simp [hr.1]
      have hst := hs.store (vs := (a.eval y).cells.toList) (xs := xs) (off := off) hl rfl hsx hvl.symm (by omega) (.inl hoff) (fun j u hu => ⟨List.all_eq_true.1 h1 u (List.mem_of_getElem? hu), by
        obtain ⟨v, hv, hrv⟩ := hr.2 j u hu
        exact ⟨v, by simpa using hv, hrv⟩⟩)
      have hone : ∀ v ∈ (a.eval y).cells.toList, v.oneCell' = true := by
        intro v hv
        obtain ⟨j, hj, rfl⟩ := List.getElem_of_mem hv
        have hj' : j < xs.length := by omega
        obtain ⟨v', hv', hrv⟩ := hr.2 j _ (List.getElem?_eq_getElem hj')
        have : v' = (a.eval y).cells.toList[j] := by
          have hj2 : j < (a.eval y).cells.size := by simpa using hj
          rw [Array.getElem?_eq_getElem hj2] at hv'
          cases hv'
          simp
        rw [← this]
        exact (one_cells (List.all_eq_true.1 h1 _ (List.getElem_mem hj')) hrv).2
      refine ⟨undef, _, _, A, .inr ⟨?_, rfl⟩, hk, hst.put o.dst (.junk _), fun h => by cases h⟩
      have hrun := run_storeCells_cells (P := P) b off (a.eval y).cells.toList 0 w (fun j hj => by
        have : off + 0 + j < cur.size := by rw [hvl] at hj; omega
        simp [World.cell?, hh]; omega) (fun j hj => by
        have hlt : off + 0 + j < cur.size := by rw [hvl] at hj; omega
        have := hu (off + 0 + j) hlt
        obtain ⟨lo, hi⟩ := fz
        simp [World.frozen?, hh]
        simp at this
        exact this) hone
      have hrun' : Sem.run P (storeCells (at_ b off) (a.eval y).cells.toList 0) w = .ok () (w.setCells b off (a.eval y).cells.toList) := by simpa using hrun
      have hsz : (a.eval y).cells.size = F.size := by rw [hr.1, hlen]
      unfold execOp
      simp [ho, hv, Instr.storeAt, Instr.sureAddr, storeVar, sizeOf_run hF, hsz, hrun']
    · exact h.elim
  · exact h.elim
/-- The source of an append or a copy: how many elements, their cells. -/
def psrc (P : Program) (H : Heap) (t : TypeId) (es : Nat) (x : PV) : Option (Nat × List PV) :=
  match tf P t with
  | some ⟨.string, _, _, _, _⟩ => match x with
    | .val (.string s) => if es = 1 then some ((bl s).length, bytes (bl s)) else none
    | _ => none
  | some ⟨.slice _ es' _, _, _, _, _⟩ => if es' = es then match x with
      | .list es'' xs => if es'' = es then some (xs.length, flat xs) else none
      | .full es'' xs => if es'' = es then some (xs.length, flat xs) else none
      | .row n es'' len => if es'' = es then match look H n with
        | some o => if len * es ≤ o.cells.length then some (len, o.cells.take (len * es)) else none
        | none => none
        else none
      | .sub n es'' off len => if es'' = es then match look H n with
        | some o => if off + len * es ≤ o.cells.length then some (len, (o.cells.drop off).take (len * es)) else none
        | none => none
        else none
      | .val (.slice none 0 0) => some (0, [])
      | _ => none
    else none
  | _ => none
theorem flat_length (es : Nat) (xs : List PV) (h : ∀ x ∈ xs, x.cells.length = es) : (flat xs).length = xs.length * es := by
  induction xs with
  | nil => simp [flat]
  | cons y ys ih =>
    simp only [flat, List.flatMap_cons, List.length_append, List.length_cons] at ih ⊢
    rw [ih (fun x hx => h x (.tail _ hx)), h y (.head _), Nat.succ_mul]; omega
/-- cells that lie one behind the other are a source -/
theorem src_of_cells {t : TypeId} {es es' eb : Nat} {e : TypeId} {F : TF} (hF : tf P t = some F) (hti : F.ti = .slice e es' eb) {b off c m : Nat} {xs : List PV} {f : Nat → Value} (hl : xs.length = m * es)
    (hc : ∀ (j : Nat) (u : PV), xs[j]? = some u → w.cell? (at_ b (off + j)) = some (f j) ∧ u.one = true ∧ Rep w A u (f j)) :
    ∃ news, Src P t es m (.slice (some (at_ b off)) m c) news w ∧ xs.length = news.length ∧ ∀ (j : Nat) (p : PV), xs[j]? = some p → p.one = true ∧ ∃ v, news[j]? = some v ∧ Rep w A p v := by
  refine ⟨(List.range xs.length).map f, ⟨⟨_, (tf_slice hF hti).1, fun k h => by cases h⟩, fun w' => by simp [Builtin.lenOf], by simp [hl], fun n hn w' hw => ?_⟩, by simp, fun j p hp => ?_⟩
  · have hle : n * es ≤ m * es := Nat.mul_le_mul_right _ hn
    refine run_firstCells_some (P := P) w' es n (at_ b off) m c _ (by rw [List.length_take, List.length_map, List.length_range, hl, Nat.min_eq_left hle]) (fun j v hv => ?_)
    have hj' : j < n * es := by
      have := (List.getElem?_eq_some_iff.1 hv).1
      simp at this
      omega
    have hj : j < xs.length := by omega
    rw [List.getElem?_take, if_pos hj'] at hv
    simp [hj] at hv
    subst hv
    rw [at_add]
    exact hw.cell (hc j _ (List.getElem?_eq_getElem hj)).1
  · have hj : j < xs.length := (List.getElem?_eq_some_iff.1 hp).1
    exact ⟨(hc j p hp).2.1, f j, by simp [hj], (hc j p hp).2.2⟩
theorem src_empty {t : TypeId} {es es' eb : Nat} {e : TypeId} {F : TF} (hF : tf P t = some F) (hti : F.ti = .slice e es' eb) (ad : Option Addr) (c : Nat) :
    Src P t es 0 (.slice ad 0 c) [] w := by
  refine ⟨⟨_, (tf_slice hF hti).1, fun k h => by cases h⟩, fun w' => by simp [Builtin.lenOf], by simp, fun n hn w' _ => ?_⟩
  have : n = 0 := by omega
  subst this
  cases ad <;> simp [Builtin.firstCells, loadCells, loadCellsFrom]
theorem psrc_sound {t : TypeId} {es m : Nat} {x : PV} {v : Value} {ys : List PV} (hx : Rep w A x v) (hob : ∀ n o, look σ.heap n = some o → ObjRep w A n o) (h : psrc P σ.heap t es x = some (m, ys)) :
    ∃ news, Src P t es m v news w ∧ ys.length = news.length ∧ ∀ (j : Nat) (p : PV), ys[j]? = some p → p.one = true ∧ ∃ v, news[j]? = some v ∧ Rep w A p v := by
  unfold psrc at h
  split at h
  · rename_i hF
    split at h
    · rename_i s
      split at h
      · rename_i hes
        subst hes
        cases h
        rw [hx.val_eq]
        refine ⟨(bl s).map fun b => Value.int .u8 b.toNat, ⟨⟨_, tf_string hF rfl, fun k h => by cases h⟩, fun w' => by simp [Builtin.lenOf, size_bl], by simp, fun n hn w' _ => ?_⟩, by simp [bytes], fun j p hp => ?_⟩
        · have : (s.extract 0 n).data.toList = (bl s).take n := by
            rw [Lib.extract_data]; simp [bl]
          simp only [Builtin.firstCells, Sem.run_pure]
          congr 1
          apply Array.ext'
          simp only [Array.toList_map, this]
          simp
        · simp only [bytes, List.getElem?_map] at hp ⊢
          cases hj : (bl s)[j]? with
          | none => rw [hj] at hp; cases hp
          | some b =>
            rw [hj] at hp
            cases hp
            exact ⟨rfl, _, rfl, .val _⟩
      · cases h
    · cases h
  · rename_i e es' eb s1 s2 s3 s4 hF
    split at h
    · rename_i hes
      subst hes
      split at h
      · rename_i es'' xs
        split at h
        · rename_i he
          subst he
          cases h
          rcases hx.list_inv with ⟨rfl, a', c, hv⟩ | ⟨b, off, c, f, hA, hc, hv, hle, hc1, hc2⟩
          · rw [hv]; exact ⟨[], src_empty hF rfl _ _, rfl, by simp [flat]⟩
          · rw [hv]
            exact src_of_cells hF rfl (flat_length _ _ hle) (fun j u hu => ⟨(hc1 j u hu).1, (hc1 j u hu).2, hc2 j u hu⟩)
        · cases h
      · rename_i es'' xs
        split at h
        · rename_i he
          subst he
          cases h
          cases hx with
          | full0 es a' => exact ⟨[], src_empty hF rfl _ _, rfl, by simp [flat]⟩
          | full es xs b off f hA hle hc1 hc2 => exact src_of_cells hF rfl (flat_length _ _ hle) (fun j u hu => ⟨(hc1 j u hu).1, (hc1 j u hu).2, hc2 j u hu⟩)
        · cases h
      · rename_i n es'' len
        split at h
        · rename_i he
          subst he
          split at h
          · rename_i ob hl
            split at h
            · rename_i hle
              cases h
              rcases hx.row_inv with ⟨hn, rfl, hv⟩ | ⟨b, c, N, t', hn, hv, hsx, _⟩
              · rw [hv]; simp only [Nat.zero_mul, List.take_zero]; exact ⟨[], src_empty hF rfl _ _, rfl, by simp⟩
              · rw [hv]
                obtain ⟨cur, fz, f, hh, _, _, hc⟩ := (hob _ _ hl).block hn hsx
                refine src_of_cells (off := 0) (f := f) hF rfl (by simp; omega) (fun j u hu => ?_)
                have hu' : ob.cells[j]? = some u := by
                  rw [List.getElem?_take] at hu
                  split at hu
                  · exact hu
                  · cases hu
                obtain ⟨a1, a2, a3⟩ := hc j u hu'
                exact ⟨by rw [cell_of_block hh, Nat.zero_add]; exact a1, a2, a3⟩
            · cases h
          · cases h
        · cases h
      · rename_i n es'' off len
        split at h
        · rename_i he
          subst he
          split at h
          · rename_i ob hl
            split at h
            · rename_i hle
              cases h
              rcases hx.sub_inv with ⟨rfl, a', c, hv⟩ | ⟨b, c, hn, hv, _, xsh, hsx⟩
              · rw [hv]; simp only [Nat.zero_mul, List.take_zero]; exact ⟨[], src_empty hF rfl _ _, rfl, by simp⟩
              · rw [hv]
                obtain ⟨cur, fz, f, hh, _, _, hc⟩ := (hob _ _ hl).block hn hsx
                refine src_of_cells (off := off) (f := fun j => f (off + j)) hF rfl (by simp; omega) (fun j u hu => ?_)
                have hu' : ob.cells[off + j]? = some u := by
                  rw [List.getElem?_take] at hu
                  split at hu
                  · rwa [List.getElem?_drop] at hu
                  · cases hu
                obtain ⟨a1, a2, a3⟩ := hc _ u hu'
                exact ⟨by rw [cell_of_block hh]; exact a1, a2, a3⟩
            · cases h
          · cases h
        · cases h
      · cases h
        rw [hx.val_eq]
        exact ⟨[], src_empty hF rfl _ _, rfl, by simp⟩
      · cases h
    · cases h
  · cases h
end
end Go.PM
