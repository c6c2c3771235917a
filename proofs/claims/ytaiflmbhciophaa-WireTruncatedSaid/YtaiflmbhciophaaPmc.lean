/- The pure machine, part c: types; operations that hand back a value and leave the world as it is. Conditions: none. -/
import Derived.Test.YtaiflmbhciophaaPmb
set_option linter.unusedSimpArgs false
set_option linter.unusedVariables false
namespace Go.PM
open Go.RowKit

/-- What the type table says of a type. -/
inductive TI where
  | int (k : IntKind) | bool | string
  | slice (e : TypeId) (es eb : Nat)
  | struct (fs : List (Nat × Nat × Bool))
  | array (n : Nat) (e : TypeId) (es : Nat) (ea : Bool)
  | pointer (e : TypeId)
  | map (k e : TypeId)
  | func | other

structure TF where
  ti : TI
  size : Nat
  bytes : Nat
  agg : Bool
  zero : Option Value

def aggD : TypeDesc → Bool
  | .struct _ | .array _ _ => true
  | _ => false

def fieldsOf (P : Program) : List Field → Option (List (Nat × Nat × Bool))
  | [] => some []
  | f :: r => match P.info? f.type, P.underlying f.type, fieldsOf P r with
    | some i, some d, some l => some ((f.offset, i.size, aggD d) :: l)
    | _, _, _ => none

def tiOf (P : Program) : TypeDesc → TI
  | .int k => .int k
  | .bool => .bool
  | .string => .string
  | .slice e => match P.info? e with
    | some i => .slice e i.size i.bytes
    | none => .other
  | .array n e => match P.info? e, P.underlying e with
    | some i, some d => .array n e i.size (aggD d)
    | _, _ => .other
  | .struct fs => match fieldsOf P fs.toList with
    | some l => .struct l
    | none => .other
  | .pointer e => .pointer e
  | .map k e => .map k e
  | .func _ _ _ => .func
  | _ => .other

def tf (P : Program) (t : TypeId) : Option TF :=
  match P.underlying t, P.info? t with
  | some d, some i => some ⟨tiOf P d, i.size, i.bytes, aggD d, i.zero⟩
  | _, _ => none

theorem tf_some {P : Program} {t : TypeId} {F : TF} (h : tf P t = some F) :
    ∃ d i, P.underlying t = some d ∧ P.info? t = some i ∧ F = ⟨tiOf P d, i.size, i.bytes, aggD d, i.zero⟩ := by
  unfold tf at h
  cases hd : P.underlying t with
  | none => simp [hd] at h
  | some d =>
    cases hi : P.info? t with
    | none => simp [hd, hi] at h
    | some i =>
      simp [hd, hi] at h
      exact ⟨d, i, rfl, rfl, h.symm⟩

theorem tf_slice {P : Program} {t e : TypeId} {es eb : Nat} {F : TF} (h : tf P t = some F) (hF : F.ti = .slice e es eb) :
    P.underlying t = some (.slice e) ∧ ∃ i, P.info? e = some i ∧ i.size = es ∧ i.bytes = eb := by
  obtain ⟨d, i, hd, hi, rfl⟩ := tf_some h
  simp only at hF
  cases d <;> simp only [tiOf] at hF <;> try (cases hF; done)
  · split at hF
    · rename_i j hj; cases hF; exact ⟨hd, j, hj, rfl, rfl⟩
    · cases hF
  · split at hF <;> cases hF
  · split at hF <;> cases hF

theorem tf_array {P : Program} {t e : TypeId} {n es : Nat} {ea : Bool} {F : TF} (h : tf P t = some F) (hF : F.ti = .array n e es ea) :
    P.underlying t = some (.array n e) ∧ ∃ i d, P.info? e = some i ∧ i.size = es ∧ P.underlying e = some d ∧ aggD d = ea := by
  obtain ⟨d, i, hd, hi, rfl⟩ := tf_some h
  simp only at hF
  cases d <;> simp only [tiOf] at hF <;> try (cases hF; done)
  · split at hF <;> cases hF
  · split at hF
    · rename_i j dd hj hdd; cases hF; exact ⟨hd, j, dd, hj, rfl, hdd, rfl⟩
    · cases hF
  · split at hF <;> cases hF

theorem fieldsOf_get {P : Program} : ∀ (fs : List Field) (l : List (Nat × Nat × Bool)), fieldsOf P fs = some l → ∀ (k off sz : Nat) (ag : Bool), l[k]? = some (off, sz, ag) →
    ∃ (f : Field) (i : TypeInfo) (d : TypeDesc), fs[k]? = some f ∧ f.offset = off ∧ P.info? f.type = some i ∧ i.size = sz ∧ P.underlying f.type = some d ∧ aggD d = ag
  | [], l, h, k, off, sz, ag, hk => by simp [fieldsOf] at h; subst h; simp at hk
  | f :: r, l, h, k, off, sz, ag, hk => by
    simp only [fieldsOf] at h
    split at h
    · rename_i i d l' hi hd hr
      cases h
      cases k with
      | zero => simp at hk; exact ⟨f, i, d, rfl, hk.1, hi, hk.2.1, hd, hk.2.2⟩
      | succ k => exact fieldsOf_get r l' hr k off sz ag (by simpa using hk)
    · cases h

theorem tf_struct {P : Program} {t : TypeId} {l : List (Nat × Nat × Bool)} {F : TF} (h : tf P t = some F) (hF : F.ti = .struct l) :
    ∃ fs : Array Field, P.underlying t = some (.struct fs) ∧ fieldsOf P fs.toList = some l := by
  obtain ⟨d, i, hd, hi, rfl⟩ := tf_some h
  simp only at hF
  cases d <;> simp only [tiOf] at hF <;> try (cases hF; done)
  · split at hF <;> cases hF
  · split at hF <;> cases hF
  · split at hF
    · rename_i fs l' hl; cases hF; exact ⟨_, hd, hl⟩
    · cases hF

theorem tf_int {P : Program} {t : TypeId} {k : IntKind} {F : TF} (h : tf P t = some F) (hF : F.ti = .int k) : P.underlying t = some (.int k) := by
  obtain ⟨d, i, hd, hi, rfl⟩ := tf_some h
  simp only at hF
  cases d <;> simp only [tiOf] at hF <;> try (cases hF; done)
  · cases hF; exact hd
  · split at hF <;> cases hF
  · split at hF <;> cases hF
  · split at hF <;> cases hF
theorem tf_string {P : Program} {t : TypeId} {F : TF} (h : tf P t = some F) (hF : F.ti = .string) : P.underlying t = some .string := by
  obtain ⟨d, i, hd, hi, rfl⟩ := tf_some h
  simp only at hF
  cases d <;> simp only [tiOf] at hF <;> try (cases hF; done)
  · exact hd
  · split at hF <;> cases hF
  · split at hF <;> cases hF
  · split at hF <;> cases hF
theorem tf_pointer {P : Program} {t e : TypeId} {F : TF} (h : tf P t = some F) (hF : F.ti = .pointer e) : P.underlying t = some (.pointer e) := by
  obtain ⟨d, i, hd, hi, rfl⟩ := tf_some h
  simp only at hF
  cases d <;> simp only [tiOf] at hF <;> try (cases hF; done)
  · cases hF; exact hd
  · split at hF <;> cases hF
  · split at hF <;> cases hF
  · split at hF <;> cases hF

/-- What stays when the region's other operations have run: the blocks that were there. -/
def Keeps (w w' : World) : Prop := ∀ b, b < w.heap.size → w'.heap[b]? = w.heap[b]?
theorem Keeps.refl (w : World) : Keeps w w := fun _ _ => rfl
theorem Keeps.cell {w w' : World} (h : Keeps w w') {b off : Nat} {v : Value} (hc : w.cell? (at_ b off) = some v) : w'.cell? (at_ b off) = some v :=
  (World.cell?_of_block (w := w) (w' := w') (a := at_ b off) (h b (cell_lt hc))).trans hc
theorem Keeps.shape {w w' : World} (h : Keeps w w') {b : Nat} {x : TypeId × Nat} (hc : w.shape? b = some x) : w'.shape? b = some x := by
  rw [World.shape?] at hc ⊢
  rw [h b (by
    rcases Nat.lt_or_ge b w.heap.size with hl | hg
    · exact hl
    · rw [Array.getElem?_eq_none hg] at hc; cases hc)]
  exact hc
theorem Rep.keeps {w w' : World} {A : Nat → Prop} {p : PV} {v : Value} (h : Rep w A p v) (hk : Keeps w w') : Rep w' A p v :=
  h.mono (fun _ h => h) (fun _ _ _ _ hc => hk.cell hc) (fun _ _ hs => hk.shape hs)

/-- The operation o hands back a value that reads as r, in this world and in each that keeps its blocks. -/
def Gives (P : Program) (w : World) (A : Nat → Prop) (ρ : Operand → Value) (o : Oper) (r : PV) : Prop :=
  ∃ v, Rep w A r v ∧ ∀ w', Keeps w w' → (execOp ρ o).run P w' = .ok (.value v) w'

/-- Bytes as a string, and back. -/
def mk (l : List UInt8) : ByteArray := ⟨l.toArray⟩
def bl (s : ByteArray) : List UInt8 := s.data.toList
@[simp] theorem bl_mk (l : List UInt8) : bl (mk l) = l := by simp [bl, mk]
@[simp] theorem mk_bl (s : ByteArray) : mk (bl s) = s := by cases s; simp [bl, mk]
theorem size_bl (s : ByteArray) : s.size = (bl s).length := by cases s; simp [bl, ByteArray.size]
theorem toList_bl (s : ByteArray) : s.toList = bl s := ByteArray.toList_eq s

@[reducible] def pint (k : IntKind) (n : Int) : PV := .val (.int k n)
@[reducible] def pbool (b : Bool) : PV := .val (.bool b)
@[reducible] def pstr (l : List UInt8) : PV := .val (.string (mk l))

/-- Scalars' operators. -/
def pbin (op : BinOp) (x y : PV) (K : PV → Prop) : Prop :=
  match x, y with
  | .val (.int k a), .val (.int k' b) =>
    match op with
    | .add => k = k' ∧ K (pint k (k.wrap (a + b)))
    | .sub => k = k' ∧ K (pint k (k.wrap (a - b)))
    | .mul => k = k' ∧ K (pint k (k.wrap (a * b)))
    | .quo => k = k' ∧ b ≠ 0 ∧ K (pint k (k.wrap (a.tdiv b)))
    | .rem => k = k' ∧ b ≠ 0 ∧ K (pint k (a.tmod b))
    | .and => k = k' ∧ K (pint k (bits .and k a b))
    | .or => k = k' ∧ K (pint k (bits .or k a b))
    | .xor => k = k' ∧ K (pint k (bits .xor k a b))
    | .andNot => k = k' ∧ K (pint k (bits .andNot k a b))
    | .shl => 0 ≤ b ∧ K (pint k (k.wrap (a * 2 ^ (min b.toNat k.bits))))
    | .shr => 0 ≤ b ∧ K (pint k (a.fdiv (2 ^ (min b.toNat k.bits))))
    | .eql => k = k' ∧ K (pbool (a == b))
    | .neq => k = k' ∧ K (pbool (a != b))
    | .lss => k = k' ∧ K (pbool (decide (a < b)))
    | .leq => k = k' ∧ K (pbool (decide (a ≤ b)))
    | .gtr => k = k' ∧ K (pbool (decide (b < a)))
    | .geq => k = k' ∧ K (pbool (decide (b ≤ a)))
  | .val (.string s), .val (.string t) =>
    match op with
    | .add => ((bl s).length + (bl t).length : Int) ≤ 9223372036854775807 ∧ K (pstr (bl s ++ bl t))
    | .eql => K (pbool (bl s == bl t))
    | .neq => K (pbool (!(bl s == bl t)))
    | .lss => K (pbool (Op.bytesLess (bl s) (bl t)))
    | .leq => K (pbool (Op.bytesLess (bl s) (bl t) || bl s == bl t))
    | .gtr => K (pbool (!(Op.bytesLess (bl s) (bl t) || bl s == bl t)))
    | .geq => K (pbool (!(Op.bytesLess (bl s) (bl t))))
    | _ => False
  | _, _ => False

section
variable {P : Program} {w : World} {A : Nat → Prop} {ρ : Operand → Value} {o : Oper} {K : PV → Prop}

theorem gives_of {r : PV} {v : Value} (hr : Rep w A r v) (h : ∀ w', Keeps w w' → (execOp ρ o).run P w' = .ok (.value v) w') : Gives P w A ρ o r := ⟨v, hr, h⟩

theorem pbin_sound {op : BinOp} {t u : TypeId} {x y : Operand} {px py : PV} (ho : o.op = .binOp op t x y u) (hx : Rep w A px (ρ x)) (hy : Rep w A py (ρ y)) (h : pbin op px py K) :
    ∃ r, K r ∧ Gives P w A ρ o r := by
  unfold pbin at h
  split at h
  · rename_i k a k' b
    have ex := hx.val_eq
    have ey := hy.val_eq
    have fin : ∀ (v : Value), K (.val v) → (∀ w', Sem.run P (do eqGuard op t x y (.int k a) (.int k' b); binOp op t (.int k a) (.int k' b)) w' = .ok v w') → ∃ r, K r ∧ Gives P w A ρ o r := by
      intro v hk hv
      refine ⟨.val v, hk, gives_of (.val v) fun w' _ => ?_⟩
      have := hv w'
      unfold execOp
      simp only [ho, ex, ey, Sem.run_bind] at this ⊢
      rw [this]
      rfl
    have g0 : ∀ (op : BinOp) (w' : World), Sem.run P (eqGuard op t x y (.int k a) (.int k' b)) w' = .ok () w' := by
      intro op w'
      cases op <;> rfl
    cases op <;> simp only at h
    case add => obtain ⟨rfl, hk⟩ := h; exact fin _ hk fun w' => by simp [g0, Sem.run_bind, binOp, Op.intArith]
    case sub => obtain ⟨rfl, hk⟩ := h; exact fin _ hk fun w' => by simp [g0, Sem.run_bind, binOp, Op.intArith]
    case mul => obtain ⟨rfl, hk⟩ := h; exact fin _ hk fun w' => by simp [g0, Sem.run_bind, binOp, Op.intArith]
    case quo => obtain ⟨rfl, hb, hk⟩ := h; exact fin _ hk fun w' => by simp [g0, Sem.run_bind, binOp, Op.intDiv, hb]
    case rem => obtain ⟨rfl, hb, hk⟩ := h; exact fin _ hk fun w' => by simp [g0, Sem.run_bind, binOp, Op.intDiv, hb]
    case and => obtain ⟨rfl, hk⟩ := h; exact fin _ hk fun w' => by simp [g0, Sem.run_bind, binOp, Op.intBits, bits]
    case or => obtain ⟨rfl, hk⟩ := h; exact fin _ hk fun w' => by simp [g0, Sem.run_bind, binOp, Op.intBits, bits]
    case xor => obtain ⟨rfl, hk⟩ := h; exact fin _ hk fun w' => by simp [g0, Sem.run_bind, binOp, Op.intBits, bits]
    case andNot => obtain ⟨rfl, hk⟩ := h; exact fin _ hk fun w' => by simp [g0, Sem.run_bind, binOp, Op.intBits, bits]
    case shl => obtain ⟨hb, hk⟩ := h; exact fin _ hk fun w' => by simp [g0, Sem.run_bind, binOp, Op.shift, Int.not_lt.2 hb]
    case shr => obtain ⟨hb, hk⟩ := h; exact fin _ hk fun w' => by simp [g0, Sem.run_bind, binOp, Op.shift, Int.not_lt.2 hb]
    case eql => obtain ⟨rfl, hk⟩ := h; exact fin _ hk fun w' => by simp [g0, Sem.run_bind, binOp, Op.intCmp]
    case neq => obtain ⟨rfl, hk⟩ := h; exact fin _ hk fun w' => by simp [g0, Sem.run_bind, binOp, Op.intCmp]
    case lss => obtain ⟨rfl, hk⟩ := h; exact fin _ hk fun w' => by simp [g0, Sem.run_bind, binOp, Op.intCmp]
    case leq => obtain ⟨rfl, hk⟩ := h; exact fin _ hk fun w' => by simp [g0, Sem.run_bind, binOp, Op.intCmp]
    case gtr => obtain ⟨rfl, hk⟩ := h; exact fin _ hk fun w' => by simp [g0, Sem.run_bind, binOp, Op.intCmp]
    case geq => obtain ⟨rfl, hk⟩ := h; exact fin _ hk fun w' => by simp [g0, Sem.run_bind, binOp, Op.intCmp]
  · rename_i s s'
    have ex := hx.val_eq
    have ey := hy.val_eq
    have fin : ∀ (v : Value), K (.val v) → (∀ w', Sem.run P (do eqGuard op t x y (.string s) (.string s'); binOp op t (.string s) (.string s')) w' = .ok v w') → ∃ r, K r ∧ Gives P w A ρ o r := by
      intro v hk hv
      refine ⟨.val v, hk, gives_of (.val v) fun w' _ => ?_⟩
      have := hv w'
      unfold execOp
      simp only [ho, ex, ey, Sem.run_bind] at this ⊢
      rw [this]
      rfl
    have g0 : ∀ (op : BinOp) (w' : World), Sem.run P (eqGuard op t x y (.string s) (.string s')) w' = .ok () w' := by
      intro op w'
      cases op <;> rfl
    have ecat : s ++ s' = mk (bl s ++ bl s') := by
      apply ByteArray.ext
      simp [mk, bl]
    cases op <;> simp only at h <;> try exact h.elim
    case add =>
      obtain ⟨hle, hk⟩ := h
      refine fin _ hk fun w' => ?_
      have hle' : ¬ (IntKind.i64.max < ((s.size + s'.size : Nat) : Int)) := by rw [size_bl, size_bl]; simp [IntKind.max, IntKind.signed, IntKind.bits]; omega
      simp [g0, Sem.run_bind, binOp, Op.stringOp, ← ecat, hle']
      rw [size_bl, size_bl]
      exact hle
    case eql => exact fin _ h fun w' => by simp [g0, Sem.run_bind, binOp, Op.stringOp, toList_bl]
    case neq => exact fin _ h fun w' => by simp [g0, Sem.run_bind, binOp, Op.stringOp, toList_bl]
    case lss => exact fin _ h fun w' => by simp [g0, Sem.run_bind, binOp, Op.stringOp, toList_bl]
    case leq => exact fin _ h fun w' => by simp [g0, Sem.run_bind, binOp, Op.stringOp, toList_bl]
    case gtr => exact fin _ h fun w' => by simp [g0, Sem.run_bind, binOp, Op.stringOp, toList_bl]
    case geq => exact fin _ h fun w' => by simp [g0, Sem.run_bind, binOp, Op.stringOp, toList_bl]
  · exact h.elim
end
end Go.PM
