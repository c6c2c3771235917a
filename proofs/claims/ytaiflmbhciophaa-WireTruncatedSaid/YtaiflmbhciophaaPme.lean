/- The pure machine, part e: addresses, indexes, slices, lengths, conversions. Conditions: none. -/
import Derived.Test.YtaiflmbhciophaaPmd
set_option linter.unusedSimpArgs false
set_option linter.unusedVariables false
namespace Go.PM
open Go.RowKit

@[reducible] def pnil : PV := .val (.slice none 0 0)

section
variable {P : Program} {G : Globs} {H : Heap} {fr : List PV} {w : World} {A : Nat → Prop} {ρ : Operand → Value} {o : Oper} {K : PV → Prop}

def pldop (P : Program) (H : Heap) (t : TypeId) (x : PV) (K : PV → Prop) : Prop :=
  match tf P t with
  | none => False
  | some F => match x with
    | .ptr n off => match look H n with
      | some o => pload F o.cells off K
      | none => False
    | .iptr cs off => pload F cs off K
    | _ => False

theorem ObjRep.block {n : Int} {b : Nat} {o : PObj} (h : ObjRep w A n o) (hn : n = b) :
    ∃ (cur : Array Value) (fz : Nat × Nat) (f : Nat → Value), w.heap[b]? = some (.cells cur o.ty fz) ∧ unmarked fz cur.size ∧ (o.grow = true → fz = (0, 0)) ∧
      ∀ (j : Nat) (u : PV), o.cells[j]? = some u → cur[j]? = some (f j) ∧ u.one = true ∧ Rep w A u (f j) := by
  rcases h with ⟨_, h, _⟩ | ⟨b', cur, fz, f, hb, h1, h2, h3, h4⟩
  · omega
  · have : b' = b := by omega
    subst this
    exact ⟨cur, fz, f, h1, h2, h3, h4⟩

theorem cell_of_block {b off : Nat} {cur : Array Value} {t : TypeId} {fz : Nat × Nat} (h : w.heap[b]? = some (.cells cur t fz)) : w.cell? (at_ b off) = cur[off]? := by
  simp [World.cell?, h]

theorem pldop_sound {t : TypeId} {x : Operand} {px : PV} (ho : o.op = .load t x) (hx : Rep w A px (ρ x)) (hob : ∀ n o, look H n = some o → ObjRep w A n o) (h : pldop P H t px K) :
    ∃ r, K r ∧ Gives P w A ρ o r := by
  unfold pldop at h
  split at h
  · exact h.elim
  · rename_i F hF
    split at h
    · rename_i n off
      split at h
      · rename_i ob hl
        obtain ⟨b, rfl, hv⟩ := hx.ptr_inv
        obtain ⟨cur, fz, f, hh, _, _, hc⟩ := (hob _ _ hl).block rfl
        refine load_gives (off0 := 0) ho hF (by simpa using hv) (cs := ob.cells) (f := f) ?_ (fun j u hu => (hc j u hu).2.2) h
        intro j u hu
        rw [cell_of_block hh, Nat.zero_add]
        exact (hc j u hu).1
      · exact h.elim
    · rename_i cs off
      obtain ⟨b, off0, f, hA, hv, h1, h2⟩ := hx.iptr_inv
      exact load_gives ho hF hv h1 h2 h
    · exact h.elim

def pfaddr (P : Program) (t : TypeId) (x : PV) (k : Nat) (K : PV → Prop) : Prop :=
  match tf P t with
  | some ⟨.struct fs, _, _, _, _⟩ => match fs[k]? with
    | some (off, sz, _) => sz ≠ 0 ∧ match x with
      | .ptr n o => K (.ptr n (o + off))
      | .iptr cs o => K (.iptr cs (o + off))
      | _ => False
    | none => False
  | _ => False

theorem pfaddr_sound {t : TypeId} {x : Operand} {k : Nat} {px : PV} (ho : o.op = .fieldAddr t x k) (hx : Rep w A px (ρ x)) (h : pfaddr P t px k K) : ∃ r, K r ∧ Gives P w A ρ o r := by
  unfold pfaddr at h
  split at h
  · rename_i fs sz by_ ag z hF
    split at h
    · rename_i off s _ hk
      obtain ⟨hs0, h⟩ := h
      obtain ⟨fa, hu, hfs⟩ := tf_struct hF rfl
      obtain ⟨f, i, d, hf, hoff, hi, hisz, _, _⟩ := fieldsOf_get _ _ hfs k off s _ hk
      have hfa : fa[k]? = some f := by simpa using hf
      have run : ∀ (b o' : Nat) (w' : World), Sem.run P (Instr.fieldAt t (.pointer (some (at_ b o'))) k) w' = .ok (.pointer (some (at_ b (o' + off)))) w' := by
        intro b o' w'
        have hlt : k < fa.size := (Array.getElem?_eq_some_iff.1 hfa).1
        have hge : fa[k] = f := (Array.getElem?_eq_some_iff.1 hfa).2
        simp [Instr.fieldAt, run_underlying hu, hlt, hge, Instr.sureAddr, fieldPlace, sizeOf, typeInfo, hi, hisz, hs0, at_add, hoff]
      split at h
      · rename_i n o'
        obtain ⟨b, rfl, hv⟩ := hx.ptr_inv
        refine ⟨_, h, _, .ptr b (o' + off), fun w' _ => ?_⟩
        unfold execOp
        simp [ho, hv, run]
      · rename_i cs o'
        obtain ⟨b, off0, f', hA, hv, h1, h2⟩ := hx.iptr_inv
        refine ⟨_, h, _, .iptr cs b off0 (o' + off) f' hA h1 h2, fun w' _ => ?_⟩
        unfold execOp
        simp [ho, hv, run, Nat.add_assoc]
      · exact h.elim
    · exact h.elim
  · exact h.elim

def piaddr (P : Program) (t : TypeId) (x i : PV) (K : PV → Prop) : Prop :=
  match tf P t, i with
  | some ⟨.slice _ es _, _, _, _, _⟩, .val (.int _ k) => match x with
    | .list es' xs => es' = es ∧ 0 ≤ k ∧ k < xs.length ∧ K (.iptr (xs.getD k.toNat .junk).cells 0)
    | .full es' xs => es' = es ∧ 0 ≤ k ∧ k < xs.length ∧ K (.iptr (xs.getD k.toNat .junk).cells 0)
    | .row n es' len => es' = es ∧ 0 ≤ k ∧ k < len ∧ K (.ptr n (k.toNat * es))
    | .sub n es' off len => es' = es ∧ 0 ≤ k ∧ k < len ∧ K (.ptr n (off + k.toNat * es))
    | _ => False
  | some ⟨.array n _ es _, _, _, _, _⟩, .val (.int _ k) => match x with
    | .ptr m off => 0 ≤ k ∧ k < n ∧ K (.ptr m (off + k.toNat * es))
    | .iptr cs off => 0 ≤ k ∧ k < n ∧ K (.iptr cs (off + k.toNat * es))
    | _ => False
  | _, _ => False

theorem run_indexAt_sl {t e : TypeId} {i : TypeInfo} (ht : P.underlying t = some (.slice e)) (hi : P.info? e = some i) (b off len cap : Nat) (kd : IntKind) (k : Int) (h0 : 0 ≤ k) (h1 : k < len) (w' : World) :
    Sem.run P (Instr.indexAt t (.slice (some (at_ b off)) len cap) (.int kd k)) w' = .ok (.pointer (some (at_ b (off + k.toNat * i.size)))) w' := by
  simp [Instr.indexAt, asIntOf, run_underlying ht, h0, h1, sizeOf, typeInfo, hi, at_add]

theorem run_indexAt_ar {t e : TypeId} {n : Nat} {i : TypeInfo} (ht : P.underlying t = some (.array n e)) (hi : P.info? e = some i) (b off : Nat) (kd : IntKind) (k : Int) (h0 : 0 ≤ k) (h1 : k < n) (w' : World) :
    Sem.run P (Instr.indexAt t (.pointer (some (at_ b off))) (.int kd k)) w' = .ok (.pointer (some (at_ b (off + k.toNat * i.size)))) w' := by
  simp [Instr.indexAt, asIntOf, run_underlying ht, Instr.sureAddr, h0, h1, sizeOf, typeInfo, hi, at_add]

theorem getD_of_lt {xs : List PV} {k : Int} (h0 : 0 ≤ k) (h1 : k < xs.length) : xs[k.toNat]? = some (xs.getD k.toNat .junk) := by
  have : k.toNat < xs.length := by omega
  simp [List.getD_eq_getElem?_getD, List.getElem?_eq_getElem this]

theorem piaddr_sound {t : TypeId} {x i : Operand} {px pi : PV} (ho : o.op = .indexAddr t x i) (hx : Rep w A px (ρ x)) (hi : Rep w A pi (ρ i)) (h : piaddr P t px pi K) : ∃ r, K r ∧ Gives P w A ρ o r := by
  unfold piaddr at h
  split at h
  · rename_i e es eb s1 s2 s3 s4 kd k hF
    obtain ⟨hu, ti, hti, hes, _⟩ := tf_slice hF rfl
    have ei := hi.val_eq
    split at h
    · rename_i es' xs
      obtain ⟨rfl, h0, h1, hk⟩ := h
      rcases hx.list_inv with ⟨rfl, _⟩ | ⟨b, off, c, f, hA, hc, hv, hl, hc1, hc2⟩
      · simp at h1; omega
      · refine ⟨_, hk, _, .iptr _ b (off + k.toNat * es') 0 (fun j => f (k.toNat * es' + j)) hA ?_ ?_, fun w' _ => ?_⟩
        · intro j u hu
          rw [Nat.add_assoc]
          exact (hc1 _ _ (flat_get es' xs hl _ _ _ _ (getD_of_lt h0 h1) hu)).1
        · intro j u hu
          exact hc2 _ _ (flat_get es' xs hl _ _ _ _ (getD_of_lt h0 h1) hu)
        · unfold execOp
          simp [ho, hv, ei, run_indexAt_sl hu hti b off _ c kd k h0 h1, hes]
    · rename_i es' xs
      obtain ⟨rfl, h0, h1, hk⟩ := h
      cases hx' : ρ x with
      | slice a n c =>
        rw [hx'] at hx
        cases hx with
        | full0 => simp at h1; omega
        | full es xs b off f hA hl hc1 hc2 =>
          refine ⟨_, hk, _, .iptr _ b (off + k.toNat * es') 0 (fun j => f (k.toNat * es' + j)) hA ?_ ?_, fun w' _ => ?_⟩
          · intro j u hu
            rw [Nat.add_assoc]
            exact (hc1 _ _ (flat_get es' xs hl _ _ _ _ (getD_of_lt h0 h1) hu)).1
          · intro j u hu
            exact hc2 _ _ (flat_get es' xs hl _ _ _ _ (getD_of_lt h0 h1) hu)
          · unfold execOp
            simp [ho, hx', ei, run_indexAt_sl hu hti b off _ _ kd k h0 h1, hes]
      | _ => rw [hx'] at hx; cases hx
    · rename_i n es' len
      obtain ⟨rfl, h0, h1, hk⟩ := h
      rcases hx.row_inv with ⟨_, rfl, _⟩ | ⟨b, c, N, t', rfl, hv, hs, hN, hl, hm⟩
      · omega
      · refine ⟨_, hk, _, .ptr b _, fun w' _ => ?_⟩
        unfold execOp
        simp [ho, hv, ei, run_indexAt_sl hu hti b 0 len c kd k h0 h1, hes]
    · rename_i n es' off len
      obtain ⟨rfl, h0, h1, hk⟩ := h
      rcases hx.sub_inv with ⟨rfl, _⟩ | ⟨b, c, rfl, hv, hl⟩
      · omega
      · refine ⟨_, hk, _, .ptr b _, fun w' _ => ?_⟩
        unfold execOp
        simp [ho, hv, ei, run_indexAt_sl hu hti b off len c kd k h0 h1, hes]
    · exact h.elim
  · rename_i n e es ea s1 s2 s3 s4 kd k hF
    obtain ⟨hu, ti, d, hti, hes, _, _⟩ := tf_array hF rfl
    have ei := hi.val_eq
    split at h
    · rename_i m off
      obtain ⟨h0, h1, hk⟩ := h
      obtain ⟨b, rfl, hv⟩ := hx.ptr_inv
      refine ⟨_, hk, _, .ptr b _, fun w' _ => ?_⟩
      unfold execOp
      simp [ho, hv, ei, run_indexAt_ar hu hti b off kd k h0 h1, hes]
    · rename_i cs off
      obtain ⟨h0, h1, hk⟩ := h
      obtain ⟨b, off0, f', hA, hv, hc1, hc2⟩ := hx.iptr_inv
      refine ⟨_, hk, _, .iptr cs b off0 _ f' hA hc1 hc2, fun w' _ => ?_⟩
      unfold execOp
      simp [ho, hv, ei, run_indexAt_ar hu hti b (off0 + off) kd k h0 h1, hes, Nat.add_assoc]
    · exact h.elim
  · exact h.elim

/-- A length. -/
def plen (P : Program) (t : TypeId) (x : PV) (K : PV → Prop) : Prop :=
  match tf P t with
  | some ⟨.string, _, _, _, _⟩ => match x with
    | .val (.string s) => K (pint .i64 (bl s).length)
    | _ => False
  | some ⟨.slice _ _ _, _, _, _, _⟩ => match x with
    | .list _ xs => K (pint .i64 xs.length)
    | .full _ xs => K (pint .i64 xs.length)
    | .row _ _ n => K (pint .i64 n)
    | .sub _ _ _ n => K (pint .i64 n)
    | .val (.slice none 0 0) => K (pint .i64 0)
    | _ => False
  | some ⟨.array n _ _ _, _, _, _, _⟩ => K (pint .i64 n)
  | _ => False

theorem plen_sound {t ty : TypeId} {x : Operand} {px : PV} (ho : o.op = .call { callee := .builtin .len, args := #[x], argTypes := #[t] }) (hx : Rep w A px (ρ x)) (h : plen P t px K) :
    ∃ r, K r ∧ Gives P w A ρ o r := by
  have fin : ∀ (n : Int), K (pint .i64 n) → (∀ w', Sem.run P (Builtin.len_ #[t] o.type #[ρ x]) w' = .ok (.int .i64 n) w') → ∃ r, K r ∧ Gives P w A ρ o r := by
    intro n hk hv
    refine ⟨_, hk, _, .val _, fun w' _ => ?_⟩
    unfold execOp
    simp [ho, resolve, invoke, builtin, hv]
  unfold plen at h
  split at h
  · rename_i hF
    split at h
    · rename_i s
      refine fin _ h fun w' => ?_
      simp [Builtin.len_, run_underlying (tf_string hF rfl), hx.val_eq, goInt, size_bl]
    · exact h.elim
  · rename_i e es eb s1 s2 s3 s4 hF
    have hu := (tf_slice hF rfl).1
    split at h
    · rename_i es' xs
      rcases hx.list_inv with ⟨rfl, a, c, hv⟩ | ⟨b, off, c, f, hA, hc, hv, _⟩
      · exact fin _ h fun w' => by simp [Builtin.len_, run_underlying hu, hv, goInt]
      · exact fin _ h fun w' => by simp [Builtin.len_, run_underlying hu, hv, goInt]
    · rename_i es' xs
      cases hx' : ρ x with
      | slice a n c =>
        rw [hx'] at hx
        cases hx with
        | full0 => exact fin _ h fun w' => by simp [Builtin.len_, run_underlying hu, hx', goInt]
        | full => exact fin _ h fun w' => by simp [Builtin.len_, run_underlying hu, hx', goInt]
      | _ => rw [hx'] at hx; cases hx
    · rename_i n es' len
      rcases hx.row_inv with ⟨_, rfl, hv⟩ | ⟨b, c, N, t', rfl, hv, _⟩
      · exact fin _ h fun w' => by simp [Builtin.len_, run_underlying hu, hv, goInt]
      · exact fin _ h fun w' => by simp [Builtin.len_, run_underlying hu, hv, goInt]
    · rename_i n es' off len
      rcases hx.sub_inv with ⟨rfl, a, c, hv⟩ | ⟨b, c, rfl, hv, _⟩
      · exact fin _ h fun w' => by simp [Builtin.len_, run_underlying hu, hv, goInt]
      · exact fin _ h fun w' => by simp [Builtin.len_, run_underlying hu, hv, goInt]
    · exact fin _ h fun w' => by simp [Builtin.len_, run_underlying hu, hx.val_eq, goInt]
    · exact h.elim
  · rename_i n e es ea s1 s2 s3 s4 hF
    have hu := (tf_array hF rfl).1
    exact fin _ h fun w' => by simp [Builtin.len_, run_underlying hu, goInt]
  · exact h.elim
end
end Go.PM
