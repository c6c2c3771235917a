/- The pure machine, part d: operations that hand back a value and leave the world as it is: unary, conversions, lengths, addresses, loads. Conditions: none. -/
import Derived.Test.YtaiflmbhciophaaPmc
set_option linter.unusedSimpArgs false
set_option linter.unusedVariables false
namespace Go.PM
open Go.RowKit

theorem at_add (b off n : Nat) : (at_ b off).add n = at_ b (off + n) := by
  unfold Addr.add at_
  split
  · rename_i h; subst h; rfl
  · rfl

def look : Heap → Int → Option PObj
  | [], _ => none
  | (m, o) :: r, n => if m = n then some o else look r n

theorem look_mem {n : Int} {o : PObj} : ∀ {H : Heap}, look H n = some o → (n, o) ∈ H
  | [], h => by simp [look] at h
  | (m, o') :: r, h => by
    simp only [look] at h
    split at h
    · rename_i hm; cases h; subst hm; exact .head _
    · exact .tail _ (look_mem h)

section
variable {w : World} {A : Nat → Prop} {v : Value}
theorem Rep.ptr_inv {n : Int} {off : Nat} (h : Rep w A (.ptr n off) v) : ∃ b : Nat, n = b ∧ v = .pointer (some (at_ b off)) := by
  cases h with | ptr b off => exact ⟨b, rfl, rfl⟩
theorem Rep.iptr_inv {cs : List PV} {off : Nat} (h : Rep w A (.iptr cs off) v) : ∃ (b off0 : Nat) (f : Nat → Value), A b ∧ v = .pointer (some (at_ b (off0 + off))) ∧
    (∀ (j : Nat) (u : PV), cs[j]? = some u → w.cell? (at_ b (off0 + j)) = some (f j)) ∧ ∀ (j : Nat) (u : PV), cs[j]? = some u → Rep w A u (f j) := by
  cases h with | iptr cs b off0 off f hA h1 h2 => exact ⟨b, off0, f, hA, rfl, h1, h2⟩
theorem Rep.list_inv {es : Nat} {xs : List PV} (h : Rep w A (.list es xs) v) : (xs = [] ∧ ∃ a c, v = .slice a 0 c) ∨
    ∃ (b off c : Nat) (f : Nat → Value), A b ∧ xs.length ≤ c ∧ v = .slice (some (at_ b off)) xs.length c ∧ (∀ x ∈ xs, x.cells.length = es) ∧
      (∀ (j : Nat) (u : PV), (flat xs)[j]? = some u → w.cell? (at_ b (off + j)) = some (f j) ∧ u.one = true) ∧ ∀ (j : Nat) (u : PV), (flat xs)[j]? = some u → Rep w A u (f j) := by
  cases h with
  | nil es a c => exact .inl ⟨rfl, a, c, rfl⟩
  | list es xs b off c f hA hc hes h1 h2 => exact .inr ⟨b, off, c, f, hA, hc, rfl, hes, h1, h2⟩
theorem Rep.agg_inv {cs : List PV} (h : Rep w A (.agg cs) v) : ∃ f : Nat → Value, v = .agg ((List.range cs.length).map f).toArray ∧ ∀ (j : Nat) (u : PV), cs[j]? = some u → Rep w A u (f j) := by
  cases h with | agg cs f h2 => exact ⟨f, rfl, h2⟩
theorem Rep.tuple_inv {cs : List PV} (h : Rep w A (.tuple cs) v) : ∃ f : Nat → Value, v = .tuple ((List.range cs.length).map f).toArray ∧ ∀ (j : Nat) (u : PV), cs[j]? = some u → Rep w A u (f j) := by
  cases h with | tuple cs f h2 => exact ⟨f, rfl, h2⟩
theorem Rep.row_inv {n : Int} {es len : Nat} (h : Rep w A (.row n es len) v) : (n < 0 ∧ len = 0 ∧ v = .slice none 0 0) ∨
    ∃ (b c N : Nat) (t : TypeId), n = b ∧ v = .slice (some (at_ b 0)) len c ∧ w.shape? b = some (t, N) ∧ N = c * es ∧ len ≤ c ∧ c ≤ maxLen := by
  cases h with
  | rownil n es hn => exact .inl ⟨hn, rfl, rfl⟩
  | row b es len c N t hs hN hl hm => exact .inr ⟨b, c, N, t, rfl, rfl, hs, hN, hl, hm⟩
theorem Rep.sub_inv {n : Int} {es off len : Nat} (h : Rep w A (.sub n es off len) v) : (len = 0 ∧ ∃ a c, v = .slice a 0 c) ∨ ∃ b c : Nat, n = b ∧ v = .slice (some (at_ b off)) len c ∧ len ≤ c := by
  cases h with
  | subnil n es off a c => exact .inl ⟨rfl, a, c, rfl⟩
  | sub b es off len c hl => exact .inr ⟨b, c, rfl, rfl, hl⟩
end

/-- Where the flat cells of a list's element lie. -/
theorem flat_get (es : Nat) (xs : List PV) (h : ∀ x ∈ xs, x.cells.length = es) (i j : Nat) (e u : PV) (hi : xs[i]? = some e) (hj : e.cells[j]? = some u) : (flat xs)[i * es + j]? = some u := by
  induction xs generalizing i with
  | nil => simp at hi
  | cons x xs ih =>
    have hx := h x (.head _)
    cases i with
    | zero =>
      simp at hi
      subst hi
      have : j < x.cells.length := (List.getElem?_eq_some_iff.1 hj).1
      simp only [flat, List.flatMap_cons, Nat.zero_mul, Nat.zero_add]
      rw [List.getElem?_append_left this]
      exact hj
    | succ i =>
      have := ih (fun y hy => h y (.tail _ hy)) i (by simpa using hi)
      simp only [flat, List.flatMap_cons]
      rw [List.getElem?_append_right (by rw [hx, Nat.succ_mul]; omega)]
      rw [show (i + 1) * es + j - x.cells.length = i * es + j by rw [hx, Nat.succ_mul]; omega]
      exact this

section
variable {P : Program} {G : Globs} {H : Heap} {fr : List PV} {w : World} {A : Nat → Prop} {ρ : Operand → Value} {o : Oper} {K : PV → Prop}

/-- What an operation reads: its operands, the objects. -/
structure Ctx (G : Globs) (H : Heap) (fr : List PV) (w : World) (A : Nat → Prop) (ρ : Operand → Value) : Prop where
  op : ∀ o, Rep w A (opnd G fr o) (ρ o)
  obj : ∀ n o, look H n = some o → ObjRep w A n o

theorem Sim.ctx {E : Amb} {σ : PState} {a : Act} (hs : Sim G E A σ a w) : Ctx G σ.heap σ.frame w A a.eval :=
  ⟨hs.opnd, fun n o h => hs.objs n o (look_mem h)⟩

def pun (op : UnOp) (x : PV) (K : PV → Prop) : Prop :=
  match op, x with
  | .neg, .val (.int k n) => K (pint k (k.wrap (0 - n)))
  | .xor, .val (.int k n) => K (pint k (bits .xor k (if k.signed then -1 else k.max) n))
  | .not, .val (.bool b) => K (pbool (!b))
  | _, _ => False

theorem pun_sound {op : UnOp} {t : TypeId} {x : Operand} {px : PV} (ho : o.op = .unOp op t x) (hx : Rep w A px (ρ x)) (h : pun op px K) : ∃ r, K r ∧ Gives P w A ρ o r := by
  unfold pun at h
  split at h
  · refine ⟨_, h, gives_of (.val _) fun w' _ => ?_⟩
    unfold execOp; simp [ho, hx.val_eq, Op.unary, Op.intArith]
  · refine ⟨_, h, gives_of (.val _) fun w' _ => ?_⟩
    unfold execOp; simp [ho, hx.val_eq, Op.unary, Op.intBits, bits]
  · refine ⟨_, h, gives_of (.val _) fun w' _ => ?_⟩
    unfold execOp; simp [ho, hx.val_eq, Op.unary]
  · exact h.elim

/-- A load of a variable of type F out of the cells cs, from off on. -/
def pload (F : TF) (cs : List PV) (off : Nat) (K : PV → Prop) : Prop :=
  if F.agg then off + F.size ≤ cs.length ∧ K (.agg ((cs.drop off).take F.size))
  else match cs[off]? with
    | some u => K u
    | none => False

theorem isAgg_run {t : TypeId} {F : TF} (hF : tf P t = some F) (w : World) : (isAgg t).run P w = .ok F.agg w := by
  obtain ⟨d, i, hd, hi, rfl⟩ := tf_some hF
  unfold isAgg
  cases d <;> simp [run_underlying hd, aggD]

theorem sizeOf_run {t : TypeId} {F : TF} (hF : tf P t = some F) (w : World) : (sizeOf t).run P w = .ok F.size w := by
  obtain ⟨d, i, hd, hi, rfl⟩ := tf_some hF
  simp [sizeOf, typeInfo, hi]

/-- loads through an address -/
theorem load_gives {t : TypeId} {x : Operand} {F : TF} (ho : o.op = .load t x) (hF : tf P t = some F) {b off0 off : Nat} (hx : ρ x = .pointer (some (at_ b (off0 + off)))) {cs : List PV} {f : Nat → Value}
    (hc : ∀ (j : Nat) (u : PV), cs[j]? = some u → w.cell? (at_ b (off0 + j)) = some (f j)) (hr : ∀ (j : Nat) (u : PV), cs[j]? = some u → Rep w A u (f j)) (h : pload F cs off K) :
    ∃ r, K r ∧ Gives P w A ρ o r := by
  unfold pload at h
  split at h
  · rename_i ha
    obtain ⟨hle, hk⟩ := h
    refine ⟨_, hk, .agg ((List.range F.size).map fun j => f (off + j)).toArray, ?_, fun w' hw => ?_⟩
    · have := Rep.agg (w := w) (A := A) ((cs.drop off).take F.size) (fun j => f (off + j)) (fun j u hu => by
        rw [List.getElem?_take] at hu
        split at hu
        · rw [List.getElem?_drop] at hu; exact hr _ _ hu
        · cases hu)
      rw [show ((cs.drop off).take F.size).length = F.size by simp; omega] at this
      exact this
    · have hl := run_loadCells (P := P) w' (at_ b (off0 + off)) F.size (fun j => f (off + j)) (fun j hj => by
        rw [at_add, Nat.add_assoc]
        have hlt : off + j < cs.length := by omega
        exact hw.cell (hc (off + j) _ (List.getElem?_eq_getElem hlt)))
      unfold execOp
      simp [ho, hx, Instr.loadAt, Instr.sureAddr, loadVar, isAgg_run hF, sizeOf_run hF, ha, hl]
  · rename_i ha
    split at h
    · rename_i u hu
      refine ⟨u, h, f off, hr _ _ hu, fun w' hw => ?_⟩
      have hcell := hw.cell (hc off u hu)
      unfold execOp
      simp [ho, hx, Instr.loadAt, Instr.sureAddr, loadVar, isAgg_run hF, ha, load, Sem.run, hcell]
    · exact h.elim
end
end Go.PM
