/- The pure machine, part b: states, the simulation, the judgement on code, its rules of control; contracts. Conditions: none. -/
import Derived.Test.YtaiflmbhciophaaPma
import Derived.Deep.LoopGhost
set_option linter.unusedSimpArgs false
set_option linter.unusedVariables false
namespace Go.PM
open Go.RowKit

/-- What hangs on a guard: it is not looked at ahead of the guard. -/
class Two where
  x : Prop
  y : Prop

/-- what a guard decides -/
def pguard (b want : Bool) [h : Two] : Prop := (b = want → h.x) ∧ (b = (!want) → h.y)

/-- What follows once a new object has its name. -/
class Fresh where
  k : Int → Prop

def pfresh (l : List Int) [h : Fresh] : Prop := ∀ n : Int, n ∉ l → h.k n

structure PState where
  frame : List PV
  heap : Heap

def PState.put (σ : PState) (d : Option Tmp) (p : PV) : PState :=
  match d with
  | some d => ⟨σ.frame.set d p, σ.heap⟩
  | none => σ

/-- The call that is under way: the world in which it began, the blocks of its arguments that nobody turns, the names of the objects that were handed to it, the names that are taken. -/
structure Amb where
  w0 : World
  A0 : Nat → Prop
  I : List Int
  F : List Int

@[reducible] def Amb.M (E : Amb) : Nat → Prop := fun b => (b : Int) ∈ E.I

abbrev Globs := Nat → PV

structure Sim (G : Globs) (E : Amb) (A : Nat → Prop) (σ : PState) (a : Act) (w : World) : Prop where
  ext : Ext E.M E.w0 w
  lt : ∀ b, A b → b < w.heap.size
  a0 : ∀ b, E.A0 b → A b
  a1 : ∀ b, A b → E.A0 b ∨ E.w0.heap.size ≤ b
  globs : ∀ g, Rep w A (G g) (.pointer (some (at_ g 0)))
  nodup : (σ.heap.map (·.1)).Nodup
  objs : ∀ n o, (n, o) ∈ σ.heap → ObjRep w A n o
  own : ∀ n o, (n, o) ∈ σ.heap → ∀ b : Nat, n = b → b < w.heap.size ∧ ¬ A b ∧ (E.w0.heap.size ≤ b ∨ E.M b)
  neg : ∀ n o, (n, o) ∈ σ.heap → n < 0 → n ∉ E.F ∨ n ∈ E.I
  defers : a.defers = []
  size : a.tmps.size = σ.frame.length
  frame : ∀ (i : Nat) (p : PV), σ.frame[i]? = some p → ∃ v : Value, a.tmps[i]? = some v ∧ Rep w A p v

/-- The judgement: from a state that reads as σ the code comes to an exit and a state of which K holds. -/
def W (P : Program) (G : Globs) (I : List Int) (c : Code) (σ : PState) (K : Exit → PState → Prop) : Prop :=
  ∀ E, E.I = I → ∀ A a w, Sim G E A σ a w → ∀ Q : Exit → Act → World → Prop, (∀ e σ' a' w' A', K e σ' → Sim G E A' σ' a' w' → Q e a' w') → c.wp P Q a w

section
variable {P : Program} {G : Globs} {c x y : Code} {σ : PState} {K : Exit → PState → Prop} {I : List Int}

def seqK (next : PState → Prop) (K : Exit → PState → Prop) : Exit → PState → Prop
  | .normal, σ => next σ
  | e, σ => K e σ

def blockK (id : Nat) (K : Exit → PState → Prop) : Exit → PState → Prop
  | .exit i, σ => if i = id then K .normal σ else K (.exit i) σ
  | e, σ => K e σ

theorem W_mono {K' : Exit → PState → Prop} (h : W P G I c σ K) (hk : ∀ e σ', K e σ' → K' e σ') : W P G I c σ K' :=
  fun E hE A a w hs Q hq => h E hE A a w hs Q fun e σ' a' w' A' hk' hs' => hq e σ' a' w' A' (hk _ _ hk') hs'

theorem W_ghost (h : ∀ E A a w, Sim G E A σ a w → ∃ σ' A', Sim G E A' σ' a w ∧ W P G I c σ' K) : W P G I c σ K :=
  fun E hE A a w hs Q hq => let ⟨_, _, hs', h'⟩ := h E A a w hs; h' _ hE _ _ _ hs' Q hq

theorem W_seq (h : W P G I x σ (seqK (fun σ' => W P G I y σ' K) K)) : W P G I (.seq x y) σ K := by
  intro E hE A a w hs Q hq
  refine wp_seq (h E hE A a w hs _ ?_)
  intro e σ' a' w' A' hk hs'
  cases e with
  | normal => exact hk E hE A' a' w' hs' Q hq
  | _ => exact hq _ _ _ _ _ hk hs'

theorem W_skip (h : K .normal σ) : W P G I .skip σ K := fun _ _ _ _ _ hs _ hq => wp_skip (hq _ _ _ _ _ h hs)
theorem W_label {l : Nat} (h : K .normal σ) : W P G I (.label l) σ K := fun _ _ _ _ _ hs _ hq => wp_label (hq _ _ _ _ _ h hs)
theorem W_exit {id : Nat} (h : K (.exit id) σ) : W P G I (.exit id) σ K := fun _ _ _ _ _ hs _ hq => wp_exit (hq _ _ _ _ _ h hs)
theorem W_goto {l : Nat} (h : K (.goto l) σ) : W P G I (.goto l) σ K := fun _ _ _ _ _ hs _ hq => wp_goto (hq _ _ _ _ _ h hs)
theorem W_ret (h : K .ret σ) : W P G I .ret σ K := fun _ _ _ _ _ hs _ hq => wp_ret (hq _ _ _ _ _ h hs)

theorem W_block {id : Nat} (h : W P G I c σ (blockK id K)) : W P G I (.block id c) σ K := by
  intro E hE A a w hs Q hq
  refine wp_block (h E hE A a w hs _ ?_)
  intro e σ' a' w' A' hk hs'
  cases e with
  | exit i =>
    simp only [blockK] at hk
    simp only [Exit.inBlock]
    split
    · rename_i hi; rw [if_pos hi] at hk; exact hq _ _ _ _ _ hk hs'
    · rename_i hi; rw [if_neg hi] at hk; exact hq _ _ _ _ _ hk hs'
  | _ => exact hq _ _ _ _ _ hk hs'

/-- A loop: a relation with a number that every round lowers. -/
theorem W_loop (R : Nat → PState → Prop) (n0 : Nat) (h0 : R n0 σ) (round : ∀ n σ', R n σ' → W P G I c σ' (seqK (fun σ'' => ∃ n', n' < n ∧ R n' σ'') K)) : W P G I (.loop c) σ K := by
  intro E hE A a w hs Q hq
  refine wp_loop_ghost (fun n a w => ∃ σ' A', R n σ' ∧ Sim G E A' σ' a w) n0 ⟨σ, A, h0, hs⟩ ?_
  rintro n a' w' ⟨σ', A', hI, hs'⟩
  refine round n σ' hI E hE A' a' w' hs' _ ?_
  intro e σ'' a'' w'' A'' hk hs''
  cases e with
  | normal =>
    obtain ⟨n', hlt, hI'⟩ := hk
    exact ⟨n', hlt, σ'', A'', hI', hs''⟩
  | _ => exact hq _ _ _ _ _ hk hs''

/-- A constant's pure value. -/
def constPV : Value → PV
  | .agg cs => .agg (cs.toList.map .val)
  | v => .val v

theorem constPV_rep (w : World) (A : Nat → Prop) (v : Value) : Rep w A (constPV v) v := by
  cases v with
  | agg cs =>
    have := Rep.agg (w := w) (A := A) (cs.toList.map .val) (fun j => cs.getD j undef) (fun j u hu => by
      rw [List.getElem?_map] at hu
      cases hj : cs.toList[j]? with
      | none => rw [hj] at hu; cases hu
      | some c =>
        rw [hj] at hu
        cases hu
        have : cs[j]? = some c := by simpa using hj
        rw [show cs.getD j undef = c by simp [Array.getD_eq_getD_getElem?, this]]
        exact .val c)
    have e : ((List.range (cs.toList.map PV.val).length).map fun j => cs.getD j undef).toArray = cs := by
      apply Array.ext
      · simp
      · intro j h1 h2
        simp [Array.getD_eq_getD_getElem?, h2]
    rw [e] at this
    exact this
  | _ => exact .val _

/-- An operand's pure value. -/
def opnd (G : Globs) (fr : List PV) : Operand → PV
  | .tmp t => fr.getD t .junk
  | .const v => constPV v
  | .global g => G g
  | .func f => .func f []

theorem Sim.opnd {E : Amb} {A : Nat → Prop} {a : Act} {w : World} (hs : Sim G E A σ a w) (o : Operand) : Rep w A (opnd G σ.frame o) (a.eval o) := by
  cases o with
  | tmp t =>
    simp only [Go.PM.opnd, Act.eval, List.getD_eq_getElem?_getD, Array.getD_eq_getD_getElem?]
    cases h : σ.frame[t]? with
    | none => exact .junk _
    | some p =>
      obtain ⟨v, hv, hr⟩ := hs.frame t p h
      simpa [hv] using hr
  | const v => exact constPV_rep _ _ v
  | global g => exact hs.globs g
  | func f => exact (Rep.func (w := w) (A := A) f [] (fun _ => .nilFunc) (by simp))

theorem Rep.val_eq {w : World} {A : Nat → Prop} {v u : Value} (h : Rep w A (.val v) u) : u = v := by cases h; rfl

theorem W_cond {o : Operand} {t : Bool} (ho : opnd G σ.frame o = .val (.bool t)) (ht : t = true → W P G I x σ K) (hf : t = false → W P G I y σ K) : W P G I (.cond o x y) σ K := by
  intro E hE A a w hs Q hq
  have hr := hs.opnd o
  rw [ho] at hr
  exact wp_cond_split hr.val_eq (fun h => ht h E hE A a w hs Q hq) (fun h => hf h E hE A a w hs Q hq)

end

/-- THE CONTRACT of a function: called with values that read as 'args' (and the objects 'Hin') it returns a value that reads as 'res', with the objects 'Hout', of which R holds; what was there stands. -/
def PCalls (P : Program) (G : Globs) (f : FuncId) (args : List PV) (Hin : Heap) (R : PV → Heap → Prop) : Prop :=
  ∀ (w : World) (A : Nat → Prop) (F : List Int) (vals : Array Value),
    (∀ b, A b → b < w.heap.size) → (∀ g, Rep w A (G g) (.pointer (some (at_ g 0)))) → (Hin.map (·.1)).Nodup → (∀ n o, (n, o) ∈ Hin → ObjRep w A n o) →
    (∀ n o, (n, o) ∈ Hin → ∀ b : Nat, n = b → b < w.heap.size ∧ ¬ A b) →
    vals.size = args.length → (∀ (i : Nat) (p : PV), args[i]? = some p → ∃ v : Value, vals[i]? = some v ∧ Rep w A p v) →
    Calls P f vals w fun e w' => ∃ v A' res Hout, e = .returned v ∧ R res Hout ∧ Rep w' A' res v ∧
      Sim G ⟨w, A, Hin.map (·.1), F⟩ A' ⟨[], Hout⟩ ⟨#[], []⟩ w'

section
variable {P : Program} {G : Globs}

theorem PCalls.mono {f : FuncId} {args : List PV} {Hin : Heap} {R R' : PV → Heap → Prop} (h : PCalls P G f args Hin R) (hr : ∀ p H, R p H → R' p H) : PCalls P G f args Hin R' := by
  intro w A F vals h1 h2 h3 h4 h5 h6 h7
  refine (h w A F vals h1 h2 h3 h4 h5 h6 h7).mono ?_
  rintro e w' ⟨v, A', res, Hout, he, hR, hrest⟩
  exact ⟨v, A', res, Hout, he, hr _ _ hR, hrest⟩

end
end Go.PM
