/- The pure machine, part f: indexes, fields, slices, conversions, built values. Conditions: none. -/
import Derived.Test.YtaiflmbhciophaaPme
import Derived.Lib.Strings
set_option linter.unusedSimpArgs false
set_option linter.unusedVariables false
namespace Go.PM
open Go.RowKit

section
variable {P : Program} {G : Globs} {H : Heap} {fr : List PV} {w : World} {A : Nat → Prop} {ρ : Operand → Value} {o : Oper} {K : PV → Prop}

/-- A part of an aggregate. -/
theorem part_gives {e : TypeId} {sz : Nat} {ag : Bool} {i : TypeInfo} {d : TypeDesc} (hi : P.info? e = some i) (hs : i.size = sz) (hd : P.underlying e = some d) (ha : aggD d = ag) {cs : List PV} {f : Nat → Value} {off : Nat}
    (h2 : ∀ (j : Nat) (u : PV), cs[j]? = some u → Rep w A u (f j)) (h : pload ⟨.other, sz, 0, ag, none⟩ cs off K) :
    ∃ r, K r ∧ ∃ v, Rep w A r v ∧ ∀ w', Sem.run P (part e ((List.range cs.length).map f).toArray off) w' = .ok v w' := by
  have hagg : ∀ w', Sem.run P (isAgg e) w' = .ok ag w' := by
    intro w'
    subst ha
    unfold isAgg
    cases d <;> simp [run_underlying hd, aggD]
  unfold pload at h
  simp only at h
  split at h
  · rename_i hag
    obtain ⟨hle, hk⟩ := h
    refine ⟨_, hk, .agg ((List.range sz).map fun j => f (off + j)).toArray, ?_, fun w' => ?_⟩
    · have := Rep.agg (w := w) (A := A) ((cs.drop off).take sz) (fun j => f (off + j)) (fun j u hu => by
        rw [List.getElem?_take] at hu
        split at hu
        · rw [List.getElem?_drop] at hu; exact h2 _ _ hu
        · cases hu)
      rw [show ((cs.drop off).take sz).length = sz by simp; omega] at this
      exact this
    · have : (((List.range cs.length).map f).drop off).take sz = (List.range sz).map fun j => f (off + j) := by
        apply List.ext_getElem
        · simp; omega
        · intro j h1 h2
          simp
      simp [part, hagg, hag, sizeOf, typeInfo, hi, hs, this]
  · rename_i hag
    split at h
    · rename_i u hu
      refine ⟨u, h, f off, h2 _ _ hu, fun w' => ?_⟩
      have hlt : off < cs.length := (List.getElem?_eq_some_iff.1 hu).1
      simp [part, hagg, hag, hlt]
    · exact h.elim

def pfield (P : Program) (t : TypeId) (x : PV) (k : Nat) (K : PV → Prop) : Prop :=
  match tf P t, x with
  | some ⟨.struct fs, _, _, _, _⟩, .agg cs => match fs[k]? with
    | some (off, sz, ag) => pload ⟨.other, sz, 0, ag, none⟩ cs off K
    | none => False
  | _, _ => False

theorem pfield_sound {t : TypeId} {x : Operand} {k : Nat} {px : PV} (ho : o.op = .field t x k) (hx : Rep w A px (ρ x)) (h : pfield P t px k K) : ∃ r, K r ∧ Gives P w A ρ o r := by
  unfold pfield at h
  split at h
  · rename_i fs s1 s2 s3 s4 cs hF
    split at h
    · rename_i off sz ag hk
      obtain ⟨fa, hu, hfs⟩ := tf_struct hF rfl
      obtain ⟨f, i, d, hf, hoff, hi, hisz, hd, hag⟩ := fieldsOf_get _ _ hfs k off sz ag hk
      have hfa : fa[k]? = some f := by simpa using hf
      have hlt : k < fa.size := (Array.getElem?_eq_some_iff.1 hfa).1
      have hge : fa[k] = f := (Array.getElem?_eq_some_iff.1 hfa).2
      obtain ⟨g, hv, h2⟩ := hx.agg_inv
      obtain ⟨r, hr, v, hrep, hrun⟩ := part_gives hi hisz hd hag h2 h
      refine ⟨r, hr, v, hrep, fun w' _ => ?_⟩
      unfold execOp
      simp [ho, hv, Instr.field, run_underlying hu, hlt, hge, asAgg, hoff, hrun]
    · exact h.elim
  · exact h.elim

def pindex (P : Program) (t : TypeId) (x i : PV) (K : PV → Prop) : Prop :=
  match tf P t, i with
  | some ⟨.string, _, _, _, _⟩, .val (.int _ k) => match x with
    | .val (.string s) => 0 ≤ k ∧ k < (bl s).length ∧ K (pint .u8 ((bl s).getD k.toNat 0).toNat)
    | _ => False
  | some ⟨.array n _ es ea, _, _, _, _⟩, .val (.int _ k) => match x with
    | .agg cs => 0 ≤ k ∧ k < n ∧ pload ⟨.other, es, 0, ea, none⟩ cs (k.toNat * es) K
    | _ => False
  | _, _ => False

theorem pindex_sound {t : TypeId} {x i : Operand} {px pi : PV} (ho : o.op = .index t x i) (hx : Rep w A px (ρ x)) (hi : Rep w A pi (ρ i)) (h : pindex P t px pi K) : ∃ r, K r ∧ Gives P w A ρ o r := by
  unfold pindex at h
  split at h
  · rename_i s1 s2 s3 s4 kd k hF
    have ei := hi.val_eq
    split at h
    · rename_i s
      obtain ⟨h0, h1, hk⟩ := h
      have ex := hx.val_eq
      refine ⟨_, hk, _, .val _, fun w' _ => ?_⟩
      have hlt : k.toNat < s.size := by rw [size_bl]; omega
      have hget : s[k.toNat] = (bl s).getD k.toNat 0 := by
        have : k.toNat < (bl s).length := by omega
        simp [List.getD_eq_getElem?_getD, List.getElem?_eq_getElem this]
        rfl
      unfold execOp
      simp [ho, ex, ei, Instr.index, asIntOf, run_underlying (tf_string hF rfl), h0, getElem?_pos s k.toNat hlt, hget]
    · exact h.elim
  · rename_i n e es ea s1 s2 s3 s4 kd k hF
    obtain ⟨hu, ti, d, hti, hes, hd, hag⟩ := tf_array hF rfl
    have ei := hi.val_eq
    split at h
    · rename_i cs
      obtain ⟨h0, h1, hk⟩ := h
      obtain ⟨g, hv, h2⟩ := hx.agg_inv
      obtain ⟨r, hr, v, hrep, hrun⟩ := part_gives hti hes hd hag h2 hk
      refine ⟨r, hr, v, hrep, fun w' _ => ?_⟩
      unfold execOp
      simp [ho, hv, ei, Instr.index, asIntOf, run_underlying hu, h0, h1, sizeOf, typeInfo, hti, hes, hrun]
    · exact h.elim
  · exact h.elim

/-- The bounds of a cut: low and high (left out: 0 and the length). -/
def pbound (d : Nat) : Option PV → Option Int
  | none => some d
  | some (.val (.int _ k)) => some k
  | _ => none

theorem pbound_some (d d' : Nat) (p : PV) : pbound d (some p) = pbound d' (some p) := by
  cases p with
  | val v => cases v <;> rfl
  | _ => rfl

/-- a string's, a slice's or an array's part -/
def pslice (P : Program) (t : TypeId) (x : PV) (lo hi mx : Option PV) (K : PV → Prop) : Prop :=
  match tf P t with
  | some ⟨.string, _, _, _, _⟩ => match x with
    | .val (.string s) => mx = none ∧ ∃ l h : Int, pbound 0 lo = some l ∧ pbound (bl s).length hi = some h ∧ 0 ≤ l ∧ l ≤ h ∧ h ≤ (bl s).length ∧ K (pstr (((bl s).take h.toNat).drop l.toNat))
    | _ => False
  | some ⟨.slice _ es _, _, _, _, _⟩ => match x with
    | .list es' xs => es' = es ∧ match mx with
      | none => ∃ l h : Int, pbound 0 lo = some l ∧ pbound xs.length hi = some h ∧ 0 ≤ l ∧ l ≤ h ∧ h ≤ xs.length ∧ K (.list es ((xs.take h.toNat).drop l.toNat))
      | some m => ∃ l h : Int, pbound 0 lo = some l ∧ hi ≠ none ∧ pbound 0 hi = some h ∧ pbound 0 (some m) = some h ∧ 0 ≤ l ∧ l ≤ h ∧ h ≤ xs.length ∧ K (.full es ((xs.take h.toNat).drop l.toNat))
    | .row n es' len => es' = es ∧ mx = none ∧ ∃ l h : Int, pbound 0 lo = some l ∧ pbound len hi = some h ∧ 0 ≤ l ∧ l ≤ h ∧ h ≤ len ∧ K (.sub n es (l.toNat * es) (h - l).toNat)
    | .sub n es' off len => es' = es ∧ mx = none ∧ ∃ l h : Int, pbound 0 lo = some l ∧ pbound len hi = some h ∧ 0 ≤ l ∧ l ≤ h ∧ h ≤ len ∧ K (.sub n es (off + l.toNat * es) (h - l).toNat)
    | .val (.slice none 0 0) => mx = none ∧ ∃ l h : Int, pbound 0 lo = some l ∧ pbound 0 hi = some h ∧ 0 ≤ l ∧ l ≤ h ∧ h ≤ 0 ∧ K (.list es [])
    | _ => False
  | some ⟨.array n _ es _, _, _, _, _⟩ => match x with
    | .ptr m off => mx = none ∧ ∃ l h : Int, pbound 0 lo = some l ∧ pbound n hi = some h ∧ 0 ≤ l ∧ l ≤ h ∧ h ≤ n ∧ K (.sub m es (off + l.toNat * es) (h - l).toNat)
    | .iptr cs off => mx = none ∧ es = 1 ∧ off + n ≤ cs.length ∧ cs.all PV.one = true ∧ ∃ l h : Int, pbound 0 lo = some l ∧ pbound n hi = some h ∧ 0 ≤ l ∧ l ≤ h ∧ h ≤ n ∧ K (.list 1 (((cs.drop off).take h.toNat).drop l.toNat))
    | _ => False
  | _ => False

theorem bound_none {d : Nat} {k : Int} (h : pbound d none = some k) : k = d := by simp [pbound] at h; exact h.symm
theorem bound_some {d : Nat} {k : Int} {p : PV} {v : Value} (h : pbound d (some p) = some k) (hr : Rep w A p v) : ∃ kd, v = .int kd k := by
  unfold pbound at h
  split at h
  · rename_i e; cases e
  · rename_i kd k' e; cases e; cases h; exact ⟨kd, hr.val_eq⟩
  · cases h

theorem bounds_run {pv : Operand → PV} (hp : ∀ o, Rep w A (pv o) (ρ o)) {lo hi : Option Operand} {isS : Bool} {len cap : Nat} {l h : Int} (hl : pbound 0 (lo.map pv) = some l) (hh : pbound len (hi.map pv) = some h)
    (h0 : 0 ≤ l) (h1 : l ≤ h) (h2 : h ≤ cap) (w' : World) : Sem.run P (Instr.sliceBounds isS len cap (lo.map ρ) (hi.map ρ) none) w' = .ok (l.toNat, h.toNat, cap) w' := by
  have sb : ∀ (kd : IntKind) (i : Int) (y : Nat) (c : BoundsCode), 0 ≤ i → i ≤ y → Sem.run P (Instr.sliceBound (.int kd i) y c) w' = .ok i.toNat w' := by
    intro kd i y c a b
    simp [Instr.sliceBound, asIntOf, a, b]
  cases lo with
  | none =>
    have := bound_none hl
    subst this
    cases hi with
    | none => have := bound_none hh; subst this; simp [Instr.sliceBounds]
    | some hi =>
      obtain ⟨kd, e⟩ := bound_some hh (hp hi)
      simp [Instr.sliceBounds, e, sb kd h cap _ (by omega) h2]
  | some lo =>
    obtain ⟨kl, el⟩ := bound_some hl (hp lo)
    cases hi with
    | none =>
      have := bound_none hh
      subst this
      simp [Instr.sliceBounds, el, sb kl l len _ h0 h1]
    | some hi =>
      obtain ⟨kd, e⟩ := bound_some hh (hp hi)
      have : l ≤ (h.toNat : Int) := by omega
      simp [Instr.sliceBounds, e, el, sb kd h cap _ (by omega) h2, sb kl l h.toNat _ h0 this]

theorem bounds_run3 {pv : Operand → PV} (hp : ∀ o, Rep w A (pv o) (ρ o)) {lo : Option Operand} {hi mx : Operand} {len cap : Nat} {l h m : Int} (hl : pbound 0 (lo.map pv) = some l) (hh : pbound len (some (pv hi)) = some h)
    (hm : pbound 0 (some (pv mx)) = some m) (h0 : 0 ≤ l) (h1 : l ≤ h) (h2 : h ≤ m) (h3 : m ≤ cap) (w' : World) :
    Sem.run P (Instr.sliceBounds true len cap (lo.map ρ) (some (ρ hi)) (some (ρ mx))) w' = .ok (l.toNat, h.toNat, m.toNat) w' := by
  have sb : ∀ (kd : IntKind) (i : Int) (y : Nat) (c : BoundsCode), 0 ≤ i → i ≤ y → Sem.run P (Instr.sliceBound (.int kd i) y c) w' = .ok i.toNat w' := by
    intro kd i y c a b
    simp [Instr.sliceBound, asIntOf, a, b]
  obtain ⟨kd, e⟩ := bound_some hh (hp hi)
  obtain ⟨km, em⟩ := bound_some hm (hp mx)
  have h2' : h ≤ (m.toNat : Int) := by omega
  cases lo with
  | none =>
    have := bound_none hl
    subst this
    simp [Instr.sliceBounds, e, em, sb km m cap _ (by omega) h3, sb kd h m.toNat _ (by omega) h2']
  | some lo =>
    obtain ⟨kl, el⟩ := bound_some hl (hp lo)
    have h1' : l ≤ (h.toNat : Int) := by omega
    simp [Instr.sliceBounds, e, em, el, sb km m cap _ (by omega) h3, sb kd h m.toNat _ (by omega) h2', sb kl l h.toNat _ h0 h1']

theorem run_sliceAt_sl {t e : TypeId} {i : TypeInfo} (ht : P.underlying t = some (.slice e)) (hi : P.info? e = some i) (a : Option Addr) (len cap : Nat) (lo hi' mx : Option Value) (l h m : Nat) (w' : World)
    (hb : Sem.run P (Instr.sliceBounds true len cap lo hi' mx) w' = .ok (l, h, m) w') :
    Sem.run P (Instr.sliceAt t (.slice a len cap) lo hi' mx) w' = .ok (.slice (if m = l then a else a.map (·.add (l * i.size))) (h - l) (m - l)) w' := by
  simp [Instr.sliceAt, Instr.slice, run_underlying ht, hb, sizeOf, typeInfo, hi]

theorem run_sliceAt_ar {t e : TypeId} {n : Nat} {i : TypeInfo} (ht : P.underlying t = some (.array n e)) (hi : P.info? e = some i) (a : Addr) (lo hi' : Option Value) (l h m : Nat) (w' : World)
    (hb : Sem.run P (Instr.sliceBounds false n n lo hi' none) w' = .ok (l, h, m) w') :
    Sem.run P (Instr.sliceAt t (.pointer (some a)) lo hi' none) w' = .ok (.slice (some (if m = l then a else a.add (l * i.size))) (h - l) (m - l)) w' := by
  simp [Instr.sliceAt, Instr.sureAddr, run_underlying ht, hb, sizeOf, typeInfo, hi]

/-- The flat cells of a part of a list. -/
theorem flat_part (es : Nat) (xs : List PV) (hl : ∀ x ∈ xs, x.cells.length = es) (l h : Nat) (j : Nat) (u : PV) (hu : (flat ((xs.take h).drop l))[j]? = some u) : (flat xs)[l * es + j]? = some u := by
  have hflat : ∀ (ys : List PV), (∀ x ∈ ys, x.cells.length = es) → (flat ys).length = ys.length * es := by
    intro ys
    induction ys with
    | nil => simp [flat]
    | cons y ys ih =>
      intro hy
      simp only [flat, List.flatMap_cons, List.length_append, List.length_cons] at ih ⊢
      rw [ih (fun x hx => hy x (.tail _ hx)), hy y (.head _), Nat.succ_mul]; omega
  have e1 : flat xs = flat (xs.take l) ++ flat (xs.drop l) := by
    simp only [flat]; rw [← List.flatMap_append, List.take_append_drop]
  by_cases hlx : l ≤ xs.length
  · rw [e1, List.getElem?_append_right (by rw [hflat _ (fun x hx => hl x (List.mem_of_mem_take hx))]; simp; rw [Nat.min_eq_left hlx]; omega)]
    rw [hflat _ (fun x hx => hl x (List.mem_of_mem_take hx)), List.length_take, Nat.min_eq_left hlx]
    rw [show l * es + j - l * es = j by omega]
    rw [List.drop_take] at hu
    have e2 : flat (xs.drop l) = flat ((xs.drop l).take (h - l)) ++ flat ((xs.drop l).drop (h - l)) := by
      simp only [flat]; rw [← List.flatMap_append, List.take_append_drop]
    rw [e2, List.getElem?_append_left (List.getElem?_eq_some_iff.1 hu).1]
    exact hu
  · have : (xs.take h).drop l = [] := by apply List.drop_eq_nil_of_le; simp; omega
    rw [this] at hu
    simp [flat] at hu

/-- the address of a part -/
def cutA (a : Option Addr) (c l es : Nat) : Option Addr := if c = l then a else a.map (·.add (l * es))

theorem list_part {es : Nat} {xs : List PV} {b off c : Nat} {f : Nat → Value} (hA : A b) (hc : xs.length ≤ c) (hle : ∀ x ∈ xs, x.cells.length = es)
    (hc1 : ∀ (j : Nat) (u : PV), (flat xs)[j]? = some u → w.cell? (at_ b (off + j)) = some (f j) ∧ u.one = true) (hc2 : ∀ (j : Nat) (u : PV), (flat xs)[j]? = some u → Rep w A u (f j))
    {l h : Nat} (h1 : l ≤ h) (h2 : h ≤ xs.length) : Rep w A (.list es ((xs.take h).drop l)) (.slice (cutA (some (at_ b off)) c l es) (h - l) (c - l)) := by
  have hlen : ((xs.take h).drop l).length = h - l := by simp; omega
  by_cases e : h = l
  · subst e
    have : (xs.take h).drop h = [] := List.eq_nil_of_length_eq_zero (by rw [hlen]; omega)
    rw [this, Nat.sub_self]
    exact Rep.nil _ _ _
  · unfold cutA
    rw [if_neg (by omega)]
    simp only [Option.map_some, at_add]
    have := Rep.list (w := w) (A := A) es ((xs.take h).drop l) b (off + l * es) (c - l) (fun j => f (l * es + j)) hA (by rw [hlen]; omega)
      (fun x hx => hle x (List.mem_of_mem_take (List.mem_of_mem_drop hx)))
      (fun j u hu => by rw [Nat.add_assoc]; exact hc1 _ _ (flat_part es xs hle l h j u hu)) (fun j u hu => hc2 _ _ (flat_part es xs hle l h j u hu))
    rw [hlen] at this
    exact this

theorem full_part {es : Nat} {xs : List PV} {b off c : Nat} {f : Nat → Value} (hA : A b) (hle : ∀ x ∈ xs, x.cells.length = es)
    (hc1 : ∀ (j : Nat) (u : PV), (flat xs)[j]? = some u → w.cell? (at_ b (off + j)) = some (f j) ∧ u.one = true) (hc2 : ∀ (j : Nat) (u : PV), (flat xs)[j]? = some u → Rep w A u (f j))
    {l h : Nat} (h1 : l ≤ h) (h2 : h ≤ xs.length) (hc : c = h) : Rep w A (.full es ((xs.take h).drop l)) (.slice (cutA (some (at_ b off)) c l es) (h - l) (c - l)) := by
  subst hc
  have hlen : ((xs.take c).drop l).length = c - l := by simp; omega
  by_cases e : c = l
  · subst e
    have : (xs.take c).drop c = [] := List.eq_nil_of_length_eq_zero (by rw [hlen]; omega)
    rw [this, Nat.sub_self]
    exact Rep.full0 _ _
  · unfold cutA
    rw [if_neg (by omega)]
    simp only [Option.map_some, at_add]
    have := Rep.full (w := w) (A := A) es ((xs.take c).drop l) b (off + l * es) (fun j => f (l * es + j)) hA
      (fun x hx => hle x (List.mem_of_mem_take (List.mem_of_mem_drop hx)))
      (fun j u hu => by rw [Nat.add_assoc]; exact hc1 _ _ (flat_part es xs hle l c j u hu)) (fun j u hu => hc2 _ _ (flat_part es xs hle l c j u hu))
    rw [hlen] at this
    exact this

theorem sub_part {n : Int} {es off len c : Nat} {b : Nat} (hn : n = b) (hc : len ≤ c) {l h : Nat} (h1 : l ≤ h) (h2 : h ≤ len) :
    Rep w A (.sub n es (off + l * es) (h - l)) (.slice (cutA (some (at_ b off)) c l es) (h - l) (c - l)) := by
  by_cases e : h = l
  · subst e; rw [Nat.sub_self]; exact Rep.subnil _ _ _ _ _
  · unfold cutA
    rw [if_neg (by omega)]
    simp only [Option.map_some, at_add]
    subst hn
    exact Rep.sub b es (off + l * es) (h - l) (c - l) (by omega)

theorem pslice_sound {t : TypeId} {x : Operand} {lo hi mx : Option Operand} {pv : Operand → PV} (ho : o.op = .slice t x lo hi mx) (hp : ∀ o, Rep w A (pv o) (ρ o)) (h : pslice P t (pv x) (lo.map pv) (hi.map pv) (mx.map pv) K) :
    ∃ r, K r ∧ Gives P w A ρ o r := by
  have hx := hp x
  unfold pslice at h
  split at h
  · rename_i s1 s2 s3 s4 hF
    split at h
    · rename_i s hxe
      obtain ⟨hm, l, h', hl, hh, h0, h1, h2, hk⟩ := h
      have hmx : mx = none := by cases mx with | none => rfl | some _ => simp at hm
      subst hmx
      rw [hxe] at hx
      refine ⟨_, hk, _, .val _, fun w' _ => ?_⟩
      have hb := bounds_run (P := P) hp (isS := false) (len := s.size) (cap := s.size) hl (by rw [size_bl]; exact hh) h0 h1 (by rw [size_bl]; exact h2) w'
      have hex : s.extract l.toNat h'.toNat = mk (((bl s).take h'.toNat).drop l.toNat) := by
        rw [Lib.extract_eq, List.drop_take]; rfl
      unfold execOp
      simp only [ho, hx.val_eq, Option.map_none, Instr.sliceAt, Instr.slice, run_underlying (tf_string hF rfl), Sem.run_bind, Result.andThen_ok, Option.isSome_none, Bool.false_eq_true, if_false, Sem.run_pure, hb, hex]
    · exact h.elim
  · rename_i e es eb s1 s2 s3 s4 hF
    obtain ⟨hu, ti, hti, hes, _⟩ := tf_slice hF rfl
    subst hes
    -- the run, once the bounds are known
    have run2 : ∀ (a : Option Addr) (len cap : Nat) (l h' : Int), ρ x = .slice a len cap → mx = none → pbound 0 (lo.map pv) = some l → pbound len (hi.map pv) = some h' → 0 ≤ l → l ≤ h' → h' ≤ cap → ∀ w',
        Sem.run P (execOp ρ o) w' = .ok (.value (.slice (cutA a cap l.toNat ti.size) (h'.toNat - l.toNat) (cap - l.toNat))) w' := by
      intro a len cap l h' hv hm hl hh h0 h1 h2 w'
      subst hm
      have hb := bounds_run (P := P) hp (isS := true) (len := len) (cap := cap) hl hh h0 h1 h2 w'
      unfold execOp
      simp only [ho, hv, Option.map_none, Sem.run_bind, run_sliceAt_sl hu hti a len cap _ _ _ _ _ _ w' hb, Result.andThen_ok, Sem.run_pure, cutA]
    have nomx : mx.map pv = none → mx = none := by cases mx <;> simp
    split at h
    · rename_i es' xs hxe
      rw [hxe] at hx
      obtain ⟨rfl, h⟩ := h
      split at h
      · rename_i hm
        obtain ⟨l, h', hl, hh, h0, h1, h2, hk⟩ := h
        rcases hx.list_inv with ⟨rfl, a, c, hv⟩ | ⟨b, off, c, f, hA, hc, hv, hle, hc1, hc2⟩
        · refine ⟨_, hk, _, ?_, fun w' _ => run2 a 0 c l h' hv (nomx hm) hl (by simpa using hh) h0 h1 (by simp at h2; omega) w'⟩
          have : h'.toNat - l.toNat = 0 := by simp at h2; omega
          rw [this]
          simpa using Rep.nil _ _ _
        · exact ⟨_, hk, _, list_part hA hc hle hc1 hc2 (by omega) (by omega), fun w' _ => run2 _ _ c l h' hv (nomx hm) hl hh h0 h1 (by omega) w'⟩
      · rename_i m hm
        obtain ⟨l, h', hl, hn, hh, hmm, h0, h1, h2, hk⟩ := h
        cases mx with
        | none => simp at hm
        | some mx =>
          cases hi with
          | none => simp at hn
          | some hi =>
            simp only [Option.map_some, Option.some.injEq] at hm hh
            subst hm
            have run3 : ∀ (a : Option Addr) (len cap : Nat), ρ x = .slice a len cap → h' ≤ cap → ∀ w',
                Sem.run P (execOp ρ o) w' = .ok (.value (.slice (cutA a h'.toNat l.toNat ti.size) (h'.toNat - l.toNat) (h'.toNat - l.toNat))) w' := by
              intro a len cap hv h3 w'
              have hb := bounds_run3 (P := P) hp (hi := hi) (len := len) (cap := cap) hl ((pbound_some _ _ _).trans hh) hmm h0 h1 (Int.le_refl _) h3 w'
              unfold execOp
              simp only [ho, hv, Option.map_some, Sem.run_bind, run_sliceAt_sl hu hti a len cap _ _ _ _ _ _ w' hb, Result.andThen_ok, Sem.run_pure, cutA]
            rcases hx.list_inv with ⟨rfl, a, c, hv⟩ | ⟨b, off, c, f, hA, hc, hv, hle, hc1, hc2⟩
            · refine ⟨_, hk, _, ?_, fun w' _ => run3 a 0 c hv (by simp at h2; omega) w'⟩
              have : h'.toNat - l.toNat = 0 := by simp at h2; omega
              rw [this]
              simpa using Rep.full0 _ _
            · exact ⟨_, hk, _, full_part hA hle hc1 hc2 (by omega) (by omega) rfl, fun w' _ => run3 _ _ c hv (by omega) w'⟩
    · rename_i n es' len hxe
      rw [hxe] at hx
      obtain ⟨rfl, hm, l, h', hl, hh, h0, h1, h2, hk⟩ := h
      rcases hx.row_inv with ⟨_, rfl, hv⟩ | ⟨b, c, N, t', hn, hv, hs, hN, hle, hmx⟩
      · refine ⟨_, hk, _, ?_, fun w' _ => run2 none 0 0 l h' hv (nomx hm) hl hh h0 h1 (by omega) w'⟩
        have e1 : (h' - l).toNat = 0 := by omega
        have e2 : h'.toNat - l.toNat = 0 := by omega
        rw [e1, e2]
        exact Rep.subnil _ _ _ _ _
      · refine ⟨_, hk, _, ?_, fun w' _ => run2 _ len c l h' hv (nomx hm) hl hh h0 h1 (by omega) w'⟩
        have := sub_part (w := w) (A := A) (es := ti.size) (off := 0) hn hle (l := l.toNat) (h := h'.toNat) (by omega) (by omega)
        rw [Nat.zero_add] at this
        rw [show (h' - l).toNat = h'.toNat - l.toNat by omega]
        exact this
    · rename_i n es' off len hxe
      rw [hxe] at hx
      obtain ⟨rfl, hm, l, h', hl, hh, h0, h1, h2, hk⟩ := h
      rcases hx.sub_inv with ⟨rfl, a, c, hv⟩ | ⟨b, c, hn, hv, hle⟩
      · refine ⟨_, hk, _, ?_, fun w' _ => run2 a 0 c l h' hv (nomx hm) hl hh h0 h1 (by omega) w'⟩
        have e1 : (h' - l).toNat = 0 := by omega
        have e2 : h'.toNat - l.toNat = 0 := by omega
        rw [e1, e2]
        exact Rep.subnil _ _ _ _ _
      · refine ⟨_, hk, _, ?_, fun w' _ => run2 _ len c l h' hv (nomx hm) hl hh h0 h1 (by omega) w'⟩
        have := sub_part (w := w) (A := A) (es := ti.size) (off := off) hn hle (l := l.toNat) (h := h'.toNat) (by omega) (by omega)
        rw [show (h' - l).toNat = h'.toNat - l.toNat by omega]
        exact this
    · rename_i hxe
      rw [hxe] at hx
      obtain ⟨hm, l, h', hl, hh, h0, h1, h2, hk⟩ := h
      refine ⟨_, hk, _, ?_, fun w' _ => run2 none 0 0 l h' hx.val_eq (nomx hm) hl hh h0 h1 (by omega) w'⟩
      have e2 : h'.toNat - l.toNat = 0 := by omega
      rw [e2]
      exact Rep.nil _ _ _
    · exact h.elim
  · rename_i n e es ea s1 s2 s3 s4 hF
    obtain ⟨hu, ti, d, hti, hes, _, _⟩ := tf_array hF rfl
    subst hes
    have run2 : ∀ (a : Addr) (l h' : Int), ρ x = .pointer (some a) → mx = none → pbound 0 (lo.map pv) = some l → pbound n (hi.map pv) = some h' → 0 ≤ l → l ≤ h' → h' ≤ n → ∀ w',
        Sem.run P (execOp ρ o) w' = .ok (.value (.slice (cutA (some a) n l.toNat ti.size) (h'.toNat - l.toNat) (n - l.toNat))) w' := by
      intro a l h' hv hm hl hh h0 h1 h2 w'
      subst hm
      have hb := bounds_run (P := P) hp (isS := false) (len := n) (cap := n) hl hh h0 h1 h2 w'
      unfold execOp
      simp only [ho, hv, Option.map_none, Sem.run_bind, run_sliceAt_ar hu hti a _ _ _ _ _ w' hb, Result.andThen_ok, Sem.run_pure, cutA]
      split <;> rfl
    have nomx : mx.map pv = none → mx = none := by cases mx <;> simp
    split at h
    · rename_i m off hxe
      rw [hxe] at hx
      obtain ⟨hm, l, h', hl, hh, h0, h1, h2, hk⟩ := h
      obtain ⟨b, hn, hv⟩ := hx.ptr_inv
      refine ⟨_, hk, _, ?_, fun w' _ => run2 _ l h' hv (nomx hm) hl hh h0 h1 h2 w'⟩
      have := sub_part (w := w) (A := A) (es := ti.size) (off := off) hn (Nat.le_refl n) (l := l.toNat) (h := h'.toNat) (by omega) (by omega)
      rw [show (h' - l).toNat = h'.toNat - l.toNat by omega]
      exact this
    · rename_i cs off hxe
      rw [hxe] at hx
      obtain ⟨hm, hes1, hoff, hone, l, h', hl, hh, h0, h1, h2, hk⟩ := h
      obtain ⟨b, off0, f, hA, hv, hc1, hc2⟩ := hx.iptr_inv
      refine ⟨_, hk, _, ?_, fun w' _ => run2 _ l h' hv (nomx hm) hl hh h0 h1 h2 w'⟩
      have hcell1 : ∀ x ∈ cs, x.cells = [x] := by
        intro x hx
        have := List.all_eq_true.1 hone x hx
        cases x <;> first | rfl | (simp [PV.one] at this)
      have hflat : ∀ ys : List PV, (∀ y ∈ ys, y ∈ cs) → flat ys = ys := by
        intro ys
        induction ys with
        | nil => intro _; rfl
        | cons y ys ih => intro hy; simp only [flat, List.flatMap_cons] at ih ⊢; rw [ih (fun z hz => hy z (.tail _ hz)), hcell1 y (hy y (.head _))]; rfl
      have hsub : ∀ y ∈ (cs.drop off).take n, y ∈ cs := fun y hy => List.mem_of_mem_drop (List.mem_of_mem_take hy)
      rw [hes1]
      have hget : ∀ (j : Nat) (u : PV), ((cs.drop off).take n)[j]? = some u → cs[off + j]? = some u := by
        intro j u hu
        rw [List.getElem?_take] at hu
        split at hu
        · rwa [List.getElem?_drop] at hu
        · cases hu
      have := list_part (w := w) (A := A) (es := 1) (xs := (cs.drop off).take n) (b := b) (off := off0 + off) (c := n) (f := fun j => f (off + j)) hA (by simp; omega)
        (fun x hx => by rw [hcell1 x (hsub x hx)]; rfl)
        (fun j u hu => by
          rw [hflat _ hsub] at hu
          have hu' := hget j u hu
          rw [Nat.add_assoc]
          exact ⟨hc1 _ _ hu', List.all_eq_true.1 hone u (List.mem_of_getElem? hu')⟩)
        (fun j u hu => by rw [hflat _ hsub] at hu; exact hc2 _ _ (hget j u hu)) (l := l.toNat) (h := h'.toNat) (by omega) (by simp; omega)
      rw [List.take_take, Nat.min_eq_left (by omega)] at this
      exact this
    · exact h.elim
  · exact h.elim
end
end Go.PM
