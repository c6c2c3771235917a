/- What is decoded of a list; how a list that was built is handed back. Conditions: none but those that each names. -/
import Derived.Test.YtaiflmbhciophaaWk
import Derived.Test.YtaiflmbhciophaaPna
set_option linter.unusedSimpArgs false
set_option linter.unusedVariables false
namespace Go.PM
open Go.Proofs
attribute [local irreducible] W PCalls pcall pcallI WL

section
variable {α : Type}
/-- What is decoded of so many elements, one after the other. -/
def gL (g : List UInt8 → α × Nat × Int) : Nat → List UInt8 → List α × Nat × Int
  | 0, _ => ([], 0, 0)
  | k + 1, b => if (g b).2.2 ≠ 0 then ([], 0, (g b).2.2)
    else if (gL g k (b.drop (g b).2.1)).2.2 ≠ 0 then ([], 0, (gL g k (b.drop (g b).2.1)).2.2)
    else ((g b).1 :: (gL g k (b.drop (g b).2.1)).1, (g b).2.1 + (gL g k (b.drop (g b).2.1)).2.1, 0)
def comb (pre : List α) (a : Nat) (r : List α × Nat × Int) : List α × Nat × Int := if r.2.2 ≠ 0 then ([], 0, r.2.2) else (pre ++ r.1, a + r.2.1, 0)
/-- What is decoded of a list. -/
def gLs (g : List UInt8 → α × Nat × Int) (size : Nat) (b : List UInt8) : List α × Nat × Int :=
  if (gC size b).2.2 ≠ 0 then ([], 0, (gC size b).2.2) else comb [] (gC size b).2.1 (gL g (gC size b).1.toNat (b.drop (gC size b).2.1))

theorem comb_nil (g : List UInt8 → α × Nat × Int) (pre : List α) (a : Nat) (b : List UInt8) : comb pre a (gL g 0 b) = (pre, a, 0) := by simp [comb, gL]
theorem comb_err (g : List UInt8 → α × Nat × Int) (pre : List α) (a m : Nat) (b : List UInt8) (h : (g b).2.2 ≠ 0) : comb pre a (gL g (m + 1) b) = ([], 0, (g b).2.2) := by
  rw [gL, if_pos h, comb, if_pos h]
theorem comb_ok (g : List UInt8 → α × Nat × Int) (pre : List α) (a m : Nat) (b : List UInt8) (h : (g b).2.2 = 0) : comb pre a (gL g (m + 1) b) = comb (pre ++ [(g b).1]) (a + (g b).2.1) (gL g m (b.drop (g b).2.1)) := by
  rw [gL, if_neg (by rw [h]; simp)]
  by_cases h2 : (gL g m (b.drop (g b).2.1)).2.2 = 0
  · rw [if_neg (by rw [h2]; simp)]
    unfold comb
    rw [if_neg (by simp), if_neg (by rw [h2]; simp)]
    simp [Nat.add_assoc]
  · rw [if_pos h2]
    unfold comb
    rw [if_pos h2, if_pos h2]
theorem comb_norm (pre : List α) (a : Nat) (r : List α × Nat × Int) (h : (comb pre a r).2.2 ≠ 0) : (comb pre a r).1 = [] ∧ (comb pre a r).2.1 = 0 := by
  unfold comb at h ⊢
  split at h
  · rename_i h1
    rw [if_pos h1]
    exact ⟨rfl, rfl⟩
  · simp at h
theorem gLs_norm (g : List UInt8 → α × Nat × Int) (size : Nat) (b : List UInt8) (h : (gLs g size b).2.2 ≠ 0) : (gLs g size b).1 = [] ∧ (gLs g size b).2.1 = 0 := by
  unfold gLs at h ⊢
  split at h
  · rename_i h1
    rw [if_pos h1]
    exact ⟨rfl, rfl⟩
  · rename_i h1
    rw [if_neg h1]
    exact comb_norm _ _ _ h

/-- A list that was built, or none. -/
def LR (cf : List α → List PV) (ty : TypeId) (es : Nat) (x : List α × Nat × Int) (res : PV) (H : Heap) : Prop :=
  (x.2.2 ≠ 0 ∧ res = .tuple [pnil, pint .i64 (0 : Nat), pint .i64 x.2.2] ∧ H = []) ∨
  (x.2.2 = 0 ∧ ∃ N, res = .tuple [.row N es x.1.length, pint .i64 x.2.1, pint .i64 0] ∧ H = [(N, ⟨ty, true, es, cf x.1⟩)])

theorem Px.nil3 {G : Globs} (es : Nat) (q r : PV) (H : Heap) : Px G (.tuple [pnil, q, r]) H (.tuple [.list es [], q, r]) H := fun _ _ A _ w v hs hr => by
  refine ⟨A, hs, ?_⟩
  cases hr with
  | tuple cs f h2 =>
    refine .tuple [.list es [], q, r] f fun j u hu => ?_
    cases j with
    | zero =>
      cases hu
      exact nil_list es (h2 0 pnil rfl)
    | succ j => exact h2 (j + 1) u hu

theorem LR.frz {G : Globs} {f : FuncId} {args : List PV} {cf : List α → List PV} {pv : α → PV} {ty : TypeId} {es : Nat} {x : List α × Nat × Int}
    (h : PCalls Try.prog G f args [] (LR cf ty es x)) (hes : 0 < es) (hn : x.2.2 ≠ 0 → x.1 = [] ∧ x.2.1 = 0) (hlen : x.1.length * es ≤ (cf x.1).length) (hel : elemsOf es (cf x.1) x.1.length = x.1.map pv) :
    PCalls Try.prog G f args [] (fun res H => res = .tuple [.list es (x.1.map pv), pint .i64 x.2.1, pint .i64 x.2.2] ∧ H = []) := by
  refine h.px fun res H hR => ?_
  rcases hR with ⟨he, rfl, rfl⟩ | ⟨he, N, rfl, rfl⟩
  · obtain ⟨h1, h2⟩ := hn he
    refine ⟨_, _, Px.nil3 es _ _ _, ?_, rfl⟩
    rw [h1, h2]
    rfl
  · have h2 := Px.freeze (G := G) (.tuple [.row N es x.1.length, pint .i64 x.2.1, pint .i64 0]) [(N, ⟨ty, true, es, cf x.1⟩)] N (o := ⟨ty, true, es, cf x.1⟩) (by simp only [look, if_true]) (by simp [frzOk, del])
    refine ⟨_, _, h2, ?_, by simp [frzH, del]⟩
    simp only [PM.frz, frz1, if_true, List.map_cons, List.map_nil]
    rw [if_pos ⟨hlen, hes⟩, hel, he]
end

theorem elems_one {α : Type} (f : α → PV) (l : List α) : elemsOf 1 (l.map f) l.length = l.map f := by
  rw [elemsOf, if_pos rfl, List.take_of_length_le (by simp)]
def catD (l : List (List UInt8)) : List PV := l.flatten.map pbyte
theorem catD_len : ∀ (l : List (List UInt8)), (∀ d ∈ l, d.length = 16) → (catD l).length = l.length * 16
  | [], _ => by simp [catD]
  | d :: l, h => by
    have ih := catD_len l fun x hx => h x (.tail _ hx)
    have hd := h d (.head _)
    simp only [catD, List.length_map, List.flatten_cons, List.length_append, List.length_cons] at ih ⊢
    omega
theorem elems_dig : ∀ (l : List (List UInt8)), (∀ d ∈ l, d.length = 16) → elemsOf 16 (catD l) l.length = l.map pdg
  | [], _ => by simp [elemsOf]
  | d :: l, h => by
    have ih := elems_dig l fun x hx => h x (.tail _ hx)
    have hd := h d (.head _)
    rw [elemsOf, if_neg (by omega)] at ih ⊢
    have e : catD (d :: l) = d.map pbyte ++ catD l := by simp [catD]
    rw [List.length_cons, List.range_succ_eq_map, List.map_cons, List.map_map, List.map_cons]
    congr 1
    · rw [e, Nat.zero_mul, List.drop_zero, List.take_append_of_le_length (by simp [hd]), List.take_of_length_le (by simp [hd])]
    · rw [← ih]
      refine List.map_congr_left fun i _ => ?_
      simp only [Function.comp_apply]
      rw [e, show (i + 1) * 16 = 16 + i * 16 by omega, ← List.drop_drop, List.drop_left' (by simp [hd])]
end Go.PM
