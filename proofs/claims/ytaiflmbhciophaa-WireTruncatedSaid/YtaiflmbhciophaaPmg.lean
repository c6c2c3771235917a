/- The pure machine, part g: conversions, tuples, picks, least and greatest, built values, closures, arrays out of slices. Conditions: none. -/
import Derived.Test.YtaiflmbhciophaaPmf
import Derived.Laws.BytesArg
set_option linter.unusedSimpArgs false
set_option linter.unusedVariables false
namespace Go.PM
open Go.RowKit

/-- Bytes as pure values. -/
@[reducible] def pbyte (b : UInt8) : PV := pint .u8 b.toNat
def bytes (l : List UInt8) : List PV := l.map pbyte
def isByte : PV → Bool
  | .val (.int .u8 n) => decide (0 ≤ n) && decide (n < 256)
  | _ => false
def unb : PV → UInt8
  | .val (.int .u8 n) => UInt8.ofNat n.toNat
  | _ => 0
theorem isByte_pbyte (b : UInt8) : isByte (pbyte b) = true := by
  have := b.toNat_lt
  simp [isByte]; omega
theorem unb_pbyte (b : UInt8) : unb (pbyte b) = b := by simp [unb]
theorem bytes_isByte (l : List UInt8) : (bytes l).all isByte = true := by
  rw [List.all_eq_true]
  intro p hp
  obtain ⟨b, _, rfl⟩ := List.mem_map.1 hp
  exact isByte_pbyte b
theorem bytes_unb (l : List UInt8) : (bytes l).map unb = l := by
  unfold bytes
  rw [List.map_map]
  conv => rhs; rw [← List.map_id l]
  exact List.map_congr_left fun b _ => unb_pbyte b
theorem isByte_eq {p : PV} (h : isByte p = true) : ∃ b : UInt8, p = pbyte b ∧ unb p = b := by
  unfold isByte at h
  split at h
  · rename_i n
    simp at h
    refine ⟨UInt8.ofNat n.toNat, ?_, by simp [unb]⟩
    simp only [pbyte, pint]
    congr 2
    have : (UInt8.ofNat n.toNat).toNat = n.toNat := by simp; omega
    rw [this]; omega
  · cases h
theorem bytes_length (l : List UInt8) : (bytes l).length = l.length := by simp [bytes]

section
variable {P : Program} {G : Globs} {H : Heap} {fr : List PV} {w : World} {A : Nat → Prop} {ρ : Operand → Value} {o : Oper} {K : PV → Prop}

/-- The elements of a slice: its own cells, where an element is one cell. -/
def pelems (H : Heap) : PV → Option (List PV)
  | .list _ xs => some xs
  | .full _ xs => some xs
  | .row n es len => if es = 1 then
      if n < 0 then some [] else match look H n with
      | some o => if len ≤ o.cells.length then some (o.cells.take len) else none
      | none => none
    else none
  | .sub n es off len => if es = 1 then match look H n with
      | some o => if off + len ≤ o.cells.length then some ((o.cells.drop off).take len) else none
      | none => none
    else none
  | .val (.slice none 0 0) => some []
  | _ => none

/-- a slice's elements of one cell each lie one behind the other -/
theorem pelems_cells {x : PV} {v : Value} {xs : List PV} (hx : Rep w A x v) (hob : ∀ n o, look H n = some o → ObjRep w A n o) (h : pelems H x = some xs) (h1 : ∀ p ∈ xs, p.cells = [p]) :
    (xs = [] ∧ ∃ a c, v = .slice a 0 c) ∨ ∃ (b off c : Nat) (f : Nat → Value), v = .slice (some (at_ b off)) xs.length c ∧
      (∀ (j : Nat) (u : PV), xs[j]? = some u → w.cell? (at_ b (off + j)) = some (f j) ∧ u.one = true ∧ Rep w A u (f j)) := by
  have hflat : flat xs = xs := by
    clear h
    induction xs with
    | nil => rfl
    | cons y ys ih => simp only [flat, List.flatMap_cons] at ih ⊢; rw [ih (fun z hz => h1 z (.tail _ hz)), h1 y (.head _)]; rfl
  unfold pelems at h
  split at h
  · cases h
    rcases hx.list_inv with ⟨rfl, a, c, hv⟩ | ⟨b, off, c, f, hA, hc, hv, hle, hc1, hc2⟩
    · exact .inl ⟨rfl, a, c, hv⟩
    · rw [hflat] at hc1 hc2
      exact .inr ⟨b, off, c, f, hv, fun j u hu => ⟨(hc1 j u hu).1, (hc1 j u hu).2, hc2 j u hu⟩⟩
  · cases h
    cases hx with
    | full0 es a => exact .inl ⟨rfl, a, 0, rfl⟩
    | full es xs b off f hA hle hc1 hc2 =>
      rw [hflat] at hc1 hc2
      exact .inr ⟨b, off, _, f, rfl, fun j u hu => ⟨(hc1 j u hu).1, (hc1 j u hu).2, hc2 j u hu⟩⟩
  · rename_i n es len
    split at h
    · rename_i hes
      rcases hx.row_inv with ⟨hn, rfl, hv⟩ | ⟨b, c, N, t', hn, hv, _⟩
      · rw [if_pos hn] at h
        cases h
        exact .inl ⟨rfl, none, 0, hv⟩
      · rw [if_neg (by omega)] at h
        split at h
        · rename_i ob hl
          split at h
          · rename_i hle
            cases h
            obtain ⟨cur, fz, f, hh, _, _, hc⟩ := (hob _ _ hl).block hn
            refine .inr ⟨b, 0, c, f, by rw [hv]; simp [List.length_take, Nat.min_eq_left hle], fun j u hu => ?_⟩
            have hu' : ob.cells[j]? = some u := by
              rw [List.getElem?_take] at hu
              split at hu
              · exact hu
              · cases hu
            obtain ⟨a1, a2, a3⟩ := hc j u hu'
            exact ⟨by rw [cell_of_block hh, Nat.zero_add]; exact a1, a2, a3⟩
          · cases h
        · cases h
    · cases h
  · rename_i n es off len
    split at h
    · rename_i hes
      split at h
      · rename_i ob hl
        split at h
        · rename_i hle
          cases h
          rcases hx.sub_inv with ⟨rfl, a, c, hv⟩ | ⟨b, c, hn, hv, _⟩
          · exact .inl ⟨by simp, a, c, hv⟩
          · obtain ⟨cur, fz, f, hh, _, _, hc⟩ := (hob _ _ hl).block hn
            refine .inr ⟨b, off, c, fun j => f (off + j), by rw [hv]; simp [List.length_take]; omega, fun j u hu => ?_⟩
            have hu' : ob.cells[off + j]? = some u := by
              rw [List.getElem?_take] at hu
              split at hu
              · rwa [List.getElem?_drop] at hu
              · cases hu
            obtain ⟨a1, a2, a3⟩ := hc _ u hu'
            exact ⟨by rw [cell_of_block hh]; exact a1, a2, a3⟩
        · cases h
      · cases h
    · cases h
  · cases h
    exact .inl ⟨rfl, none, 0, hx.val_eq⟩
  · cases h

def pconv (P : Program) (H : Heap) (src dst : TypeId) (x : PV) (K : PV → Prop) : Prop :=
  match tf P src, tf P dst with
  | some Fs, some Fd => match Fs.ti, Fd.ti with
    | .int _, .int k => match x with
      | .val (.int _ n) => K (pint k (k.wrap n))
      | _ => False
    | .string, .string => match x with
      | .val (.string s) => K (.val (.string s))
      | _ => False
    | .slice e _ _, .string => P.underlying e = some (.int .u8) ∧ ∃ xs, pelems H x = some xs ∧ xs.all isByte = true ∧ K (pstr (xs.map unb))
    | _, _ => False
  | _, _ => False

theorem isByte_one {xs : List PV} (h : xs.all isByte = true) : ∀ p ∈ xs, p.cells = [p] := by
  intro p hp
  obtain ⟨b, rfl, _⟩ := isByte_eq (List.all_eq_true.1 h p hp)
  rfl

theorem pconv_sound {src dst : TypeId} {x : Operand} {px : PV} (ho : o.op = .convert src dst x) (hx : Rep w A px (ρ x)) (hob : ∀ n o, look H n = some o → ObjRep w A n o) (h : pconv P H src dst px K) :
    ∃ r, K r ∧ Gives P w A ρ o r := by
  unfold pconv at h
  split at h
  · rename_i Fs Fd hs hd
    split at h
    · rename_i k' k h1 h2
      split at h
      · refine ⟨_, h, _, .val _, fun w' _ => ?_⟩
        unfold execOp
        simp [ho, hx.val_eq, convert, run_underlying (tf_int hs h1), run_underlying (tf_int hd h2), Conv.intToInt]
      · exact h.elim
    · rename_i h1 h2
      split at h
      · refine ⟨_, h, _, .val _, fun w' _ => ?_⟩
        unfold execOp
        simp [ho, hx.val_eq, convert, run_underlying (tf_string hs h1), run_underlying (tf_string hd h2)]
      · exact h.elim
    · rename_i e es eb h1 h2
      obtain ⟨he, xs, hxs, hb, hk⟩ := h
      have hu := (tf_slice hs h1).1
      have hdu := tf_string hd h2
      refine ⟨_, hk, _, .val _, fun w' hw => ?_⟩
      have := pelems_cells hx hob hxs (isByte_one hb)
      rcases this with ⟨rfl, a, c, hv⟩ | ⟨b, off, c, f, hv, hc⟩
      · unfold execOp
        simp only [ho, hv, Sem.run_bind]
        cases a with
        | none => rw [run_convert_bytes_nil w' src e hu he 0 c dst hdu]; rfl
        | some ad =>
          have e0 : (loadCells ad 0).run P w' = .ok (([] : List Int).map (Value.int .u8)).toArray w' := by simp [loadCells, loadCellsFrom]
          rw [run_convert_bytes_string w' src dst e _ 0 c hu he hdu, run_bytesToString w' _ 0 c [] e0]
          rfl
      · have hn : ∀ i, i < xs.length → w'.cell? ⟨b, off + i, none⟩ = some (.int .u8 ((xs.map fun p => ((unb p).toNat : Int)).getD i 0)) := by
          intro i hi
          obtain ⟨h3, _, h4⟩ := hc i _ (List.getElem?_eq_getElem hi)
          obtain ⟨bb, hbb, hub⟩ := isByte_eq (List.all_eq_true.1 hb _ (List.getElem_mem hi))
          rw [hbb] at h4
          have := hw.cell h3
          rw [h4.val_eq] at this
          simp only [List.getD_eq_getElem?_getD, List.getElem?_map, List.getElem?_eq_getElem hi, Option.map_some, Option.getD_some, hub]
          exact this
        have hr := run_convert_bytes_arg (P := P) w' src e hu he b off xs.length c (xs.map fun p => ((unb p).toNat : Int)) (by simp) hn dst hdu
        unfold execOp
        simp only [ho, hv, Sem.run_bind, hr, Result.andThen_ok, Sem.run_pure]
        have : strOfNums (xs.map fun p => ((unb p).toNat : Int)) = mk (xs.map unb) := by
          simp [strOfNums, mk, Function.comp_def]
        rw [this]
    · exact h.elim
  · exact h.elim

def pextract (x : PV) (k : Nat) (K : PV → Prop) : Prop :=
  match x with
  | .tuple xs => match xs[k]? with
    | some u => K u
    | none => False
  | _ => False

theorem pextract_sound {x : Operand} {k : Nat} {px : PV} (ho : o.op = .extract x k) (hx : Rep w A px (ρ x)) (h : pextract px k K) : ∃ r, K r ∧ Gives P w A ρ o r := by
  unfold pextract at h
  split at h
  · rename_i xs
    split at h
    · rename_i u hu
      obtain ⟨f, hv, h2⟩ := hx.tuple_inv
      refine ⟨u, h, f k, h2 k u hu, fun w' _ => ?_⟩
      have hlt : k < xs.length := (List.getElem?_eq_some_iff.1 hu).1
      unfold execOp
      simp [ho, hv, Instr.extract, hlt]
    · exact h.elim
  · exact h.elim

def ppick (c a b : PV) (K : PV → Prop) : Prop :=
  match c with
  | .val (.bool t) => @pguard t true ⟨K a, K b⟩
  | _ => False

theorem ppick_sound {c x y : Operand} {pc px py : PV} (ho : o.op = .pick c x y) (hc : Rep w A pc (ρ c)) (hx : Rep w A px (ρ x)) (hy : Rep w A py (ρ y)) (h : ppick pc px py K) : ∃ r, K r ∧ Gives P w A ρ o r := by
  unfold ppick at h
  split at h
  · rename_i t
    cases t
    · refine ⟨py, h.2 rfl, ρ y, hy, fun w' _ => ?_⟩
      unfold execOp
      simp [ho, hc.val_eq, asBool]
    · refine ⟨px, h.1 rfl, ρ x, hx, fun w' _ => ?_⟩
      unfold execOp
      simp [ho, hc.val_eq, asBool]
  · exact h.elim

/-- the least, the greatest of two or three integers -/
def pmm (mn : Bool) (xs : List PV) (K : PV → Prop) : Prop :=
  match xs with
  | [.val (.int k a), .val (.int _ b)] => K (pint k (if mn then min a b else max a b))
  | [.val (.int k a), .val (.int _ b), .val (.int _ c)] => K (pint k (if mn then min (min a b) c else max (max a b) c))
  | _ => False

theorem max_ite (a b : Int) : (if a < b then b else a) = max a b := by omega
theorem min_ite (a b : Int) : (if b < a then b else a) = min a b := by omega

theorem pmm_sound {mn : Bool} {xs : List Operand} {ts : Array TypeId} {pv : Operand → PV} (ho : o.op = .call { callee := .builtin (if mn then .min else .max), args := xs.toArray, argTypes := ts }) (hp : ∀ o, Rep w A (pv o) (ρ o))
    (h : pmm mn (xs.map pv) K) : ∃ r, K r ∧ Gives P w A ρ o r := by
  match xs, h with
  | [x, y], h =>
    have h1 := hp x
    have h2 := hp y
    simp only [List.map_cons, List.map_nil] at h
    revert h h1 h2
    generalize pv x = p
    generalize pv y = q
    intro h1 h2 h
    unfold pmm at h
    split at h
    · rename_i k a k' b e
      simp only [List.cons.injEq, and_true] at e
      obtain ⟨rfl, rfl⟩ := e
      refine ⟨_, h, _, .val _, fun w' _ => ?_⟩
      unfold execOp
      cases mn <;> simp [ho, resolve, invoke, builtin, Builtin.min_, Builtin.max_, h1.val_eq, h2.val_eq, Builtin.min2, Builtin.max2, max_ite, min_ite]
    · rename_i e; simp at e
    · exact h.elim
  | [x, y, z], h =>
    have h1 := hp x
    have h2 := hp y
    have h3 := hp z
    simp only [List.map_cons, List.map_nil] at h
    revert h h1 h2 h3
    generalize pv x = p
    generalize pv y = q
    generalize pv z = r
    intro h1 h2 h3 h
    unfold pmm at h
    split at h
    · rename_i e; simp at e
    · rename_i k a k' b k'' c e
      simp only [List.cons.injEq, and_true] at e
      obtain ⟨rfl, rfl, rfl⟩ := e
      refine ⟨_, h, _, .val _, fun w' _ => ?_⟩
      unfold execOp
      cases mn <;> simp [ho, resolve, invoke, builtin, Builtin.min_, Builtin.max_, h1.val_eq, h2.val_eq, h3.val_eq, Builtin.min2, Builtin.max2, max_ite, min_ite]
    · exact h.elim
  | [], h => exact absurd h (by simp [pmm])
  | [_], h => exact absurd h (by simp [pmm])
  | _ :: _ :: _ :: _ :: _, h => exact absurd h (by simp [pmm])

/-- a closure -/
theorem pfunc_sound {f : FuncId} {cs : List Operand} {pv : Operand → PV} (ho : o.op = .makeFunc (.func f) #[] cs.toArray) (hp : ∀ o, Rep w A (pv o) (ρ o)) (h : K (.func f (cs.map pv))) : ∃ r, K r ∧ Gives P w A ρ o r := by
  refine ⟨_, h, _, Rep.func f (cs.map pv) (fun j => ρ (cs.getD j (.const undef))) ?_, fun w' _ => ?_⟩
  · intro j u hu
    rw [List.getElem?_map] at hu
    cases hj : cs[j]? with
    | none => simp [hj] at hu
    | some c =>
      simp [hj] at hu
      subst hu
      simpa [List.getD_eq_getElem?_getD, hj] using hp c
  · unfold execOp
    have : (cs.toArray.map ρ) = ((List.range (cs.map pv).length).map fun j => ρ (cs.getD j (.const undef))).toArray := by
      apply Array.ext
      · simp
      · intro j h1 h2
        have hj : j < cs.length := by simpa using h1
        simp [List.getD_eq_getElem?_getD, List.getElem?_eq_getElem hj]
    simp [ho, Instr.makeFunc, this]

/-- the address of the array in a slice -/
def parr (P : Program) (t : TypeId) (x : PV) (K : PV → Prop) : Prop :=
  match tf P t with
  | some ⟨.array n _ _ _, _, _, _, _⟩ => 0 < n ∧ match x with
    | .list _ xs => n ≤ xs.length ∧ K (.iptr (flat xs) 0)
    | .row m _ len => n ≤ len ∧ K (.ptr m 0)
    | .sub m _ off len => n ≤ len ∧ K (.ptr m off)
    | _ => False
  | _ => False

theorem parr_sound {t : TypeId} {x : Operand} {px : PV} (ho : o.op = .sliceToArrayPointer t x) (hx : Rep w A px (ρ x)) (h : parr P t px K) : ∃ r, K r ∧ Gives P w A ρ o r := by
  unfold parr at h
  split at h
  · rename_i n e es ea s1 s2 s3 s4 hF
    have hu := (tf_array hF rfl).1
    obtain ⟨h0, h⟩ := h
    have run : ∀ (a : Option Addr) (len c : Nat), ρ x = .slice a len c → n ≤ len → ∀ w', Sem.run P (execOp ρ o) w' = .ok (.value (.pointer a)) w' := by
      intro a len c hv hl w'
      unfold execOp
      simp [ho, hv, Instr.arrayAt, run_underlying hu, Nat.not_lt.2 hl]
    split at h
    · rename_i es' xs
      obtain ⟨hl, hk⟩ := h
      rcases hx.list_inv with ⟨rfl, a, c, hv⟩ | ⟨b, off, c, f, hA, hc, hv, hle, hc1, hc2⟩
      · simp at hl; omega
      · refine ⟨_, hk, _, ?_, fun w' _ => run _ _ _ hv hl w'⟩
        have := Rep.iptr (w := w) (A := A) (flat xs) b off 0 f hA (fun j u hu => (hc1 j u hu).1) hc2
        exact this
    · rename_i m es' len
      obtain ⟨hl, hk⟩ := h
      rcases hx.row_inv with ⟨hn, rfl, hv⟩ | ⟨b, c, N, t', hn, hv, _⟩
      · omega
      · subst hn
        exact ⟨_, hk, _, .ptr b 0, fun w' _ => run _ _ _ hv hl w'⟩
    · rename_i m es' off len
      obtain ⟨hl, hk⟩ := h
      rcases hx.sub_inv with ⟨rfl, a, c, hv⟩ | ⟨b, c, hn, hv, _⟩
      · omega
      · subst hn
        exact ⟨_, hk, _, .ptr b off, fun w' _ => run _ _ _ hv hl w'⟩
    · exact h.elim
  · exact h.elim
end
end Go.PM
