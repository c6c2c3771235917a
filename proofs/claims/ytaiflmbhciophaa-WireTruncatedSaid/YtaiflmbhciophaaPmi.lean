/- The pure machine, part i: equality of structs and arrays of scalars. Conditions: none. -/
import Derived.Test.YtaiflmbhciophaaPmh
import Derived.Laws.StructEq
import Derived.ChangeKeysEq
set_option linter.unusedSimpArgs false
set_option linter.unusedVariables false
namespace Go.PM
open Go.RowKit

/-- the kinds of a type whose values are compared cell by cell -/
def scalarD (P : Program) (t : TypeId) : Option TypeDesc :=
  match P.underlying t, P.info? t with
  | some (.int k), some i => if i.size = 1 then some (.int k) else none
  | some .bool, some i => if i.size = 1 then some .bool else none
  | some .string, some i => if i.size = 1 then some .string else none
  | _, _ => none

def eqFieldKinds (P : Program) : List Field → Nat → Option (List TypeDesc)
  | [], _ => some []
  | f :: r, k => match scalarD P f.type, eqFieldKinds P r (k + 1) with
    | some d, some l => if f.name ≠ "_" ∧ f.offset = k then some (d :: l) else none
    | _, _ => none

def teq (P : Program) (t : TypeId) : Option (List TypeDesc) :=
  if P.eqGuardType P.depth t = false then match P.underlying t with
    | some (.struct fs) => if P.stoodInHeld t = false then eqFieldKinds P fs.toList 0 else none
    | some (.array n e) => match scalarD P e with
      | some d => some (List.replicate n d)
      | none => none
    | _ => none
  else none

def peq1 : TypeDesc → PV → PV → Option Bool
  | .int _, .val (.int k a), .val (.int k' b) => if k = k' then some (a == b) else none
  | .string, .val (.string s), .val (.string t) => some (bl s == bl t)
  | .bool, .val (.bool a), .val (.bool b) => some (a == b)
  | _, _, _ => none

def peqs : List TypeDesc → List PV → List PV → Option Bool
  | [], [], [] => some true
  | d :: ds, x :: xs, y :: ys => match peq1 d x y, peqs ds xs ys with
    | some a, some b => some (a && b)
    | _, _ => none
  | _, _, _ => none

section
variable {P : Program} {w : World} {A : Nat → Prop} {ρ : Operand → Value} {o : Oper} {K : PV → Prop}

theorem scalarD_some {t : TypeId} {d : TypeDesc} (h : scalarD P t = some d) : P.underlying t = some d ∧ (∃ i, P.info? t = some i ∧ i.size = 1) ∧ (match d with | .struct _ | .array _ _ => False | _ => True) := by
  unfold scalarD at h
  split at h <;> first | (cases h; done) | skip
  all_goals
    split at h
    · rename_i hs; cases h; exact ⟨by assumption, ⟨_, by assumption, hs⟩, trivial⟩
    · cases h

theorem run_part1 {t : TypeId} {d : TypeDesc} (h : scalarD P t = some d) {vs : Array Value} {k : Nat} {v : Value} (hv : vs[k]? = some v) (w' : World) : Sem.run P (part t vs k) w' = .ok v w' := by
  obtain ⟨hu, _, hd⟩ := scalarD_some h
  have : Sem.run P (isAgg t) w' = .ok false w' := by
    unfold isAgg
    cases d <;> simp [run_underlying hu] <;> exact hd.elim
  simp [part, this, hv]

theorem run_eq1 {t : TypeId} {d : TypeDesc} (h : scalarD P t = some d) {x y : PV} {a b : Value} {r : Bool} (hx : Rep w A x a) (hy : Rep w A y b) (hr : peq1 d x y = some r) (n : Nat) (w' : World) :
    Sem.run P (Op.equalIn (n + 1) t a b) w' = .ok r w' := by
  obtain ⟨hu, _, _⟩ := scalarD_some h
  unfold peq1 at hr
  split at hr
  · split at hr
    · rename_i hk
      cases hr
      subst hk
      rw [hx.val_eq, hy.val_eq]
      exact run_equalIn_int w' n t _ _ _ _ hu
    · cases hr
  · cases hr
    rw [hx.val_eq, hy.val_eq, run_equalIn_string w' n t _ _ hu, toList_bl, toList_bl]
  · cases hr
    rw [hx.val_eq, hy.val_eq]
    exact run_equalIn_bool' w' n t _ _ hu
  · cases hr

theorem run_eqFields : ∀ (fs : List Field) (k : Nat) (ds : List TypeDesc) (xs ys : List PV) (as bs : Array Value) (r : Bool), eqFieldKinds P fs k = some ds →
    (∀ (j : Nat) (u : PV), xs[j]? = some u → ∃ v, as[k + j]? = some v ∧ Rep w A u v) → (∀ (j : Nat) (u : PV), ys[j]? = some u → ∃ v, bs[k + j]? = some v ∧ Rep w A u v) →
    peqs ds xs ys = some r → ∀ (n : Nat) (w' : World), Sem.run P (Op.eqFields (n + 1) as bs fs) w' = .ok r w'
  | [], k, ds, xs, ys, as, bs, r, hf, _, _, hr, n, w' => by
    simp [eqFieldKinds] at hf
    subst hf
    cases xs <;> cases ys <;> simp [peqs] at hr
    subst hr
    rfl
  | f :: fs, k, ds, xs, ys, as, bs, r, hf, hx, hy, hr, n, w' => by
    simp only [eqFieldKinds] at hf
    split at hf
    · rename_i d l hd hl
      split at hf
      · rename_i hc
        cases hf
        cases xs with
        | nil => simp [peqs] at hr
        | cons x xs =>
          cases ys with
          | nil => simp [peqs] at hr
          | cons y ys =>
            simp only [peqs] at hr
            split at hr
            · rename_i a b ha hb
              cases hr
              obtain ⟨vx, hvx, hrx⟩ := hx 0 x rfl
              obtain ⟨vy, hvy, hry⟩ := hy 0 y rfl
              have ih := run_eqFields fs (k + 1) l xs ys as bs b hl (fun j u hu => by
                have := hx (j + 1) u (by simpa using hu)
                rwa [show k + (j + 1) = k + 1 + j by omega] at this) (fun j u hu => by
                have := hy (j + 1) u (by simpa using hu)
                rwa [show k + (j + 1) = k + 1 + j by omega] at this) hb n w'
              simp only [Op.eqFields]
              rw [if_pos hc.1]
              simp only [Sem.run_bind, hc.2, run_part1 hd (by simpa using hvx) w', run_part1 hd (by simpa using hvy) w', Result.andThen_ok, run_eq1 hd hrx hry ha n w']
              cases a
              · simp
              · simpa using ih
            · cases hr
      · cases hf
    · cases hf

theorem run_eqArray {e : TypeId} {d : TypeDesc} (he : scalarD P e = some d) (n : Nat) (w' : World) (as bs : Array Value) : ∀ (m k : Nat) (xs ys : List PV) (r : Bool),
    (∀ (j : Nat) (u : PV), xs[j]? = some u → ∃ v, as[k + j]? = some v ∧ Rep w A u v) → (∀ (j : Nat) (u : PV), ys[j]? = some u → ∃ v, bs[k + j]? = some v ∧ Rep w A u v) →
    peqs (List.replicate m d) xs ys = some r → Sem.run P (Op.eqItems (n + 1) e 1 as bs (List.range' k m)) w' = .ok r w'
  | 0, k, xs, ys, r, _, _, hr => by
    cases xs <;> cases ys <;> simp [peqs] at hr
    subst hr
    rfl
  | m + 1, k, xs, ys, r, hx, hy, hr => by
    cases xs with
    | nil => simp [peqs, List.replicate_succ] at hr
    | cons x xs =>
      cases ys with
      | nil => simp [peqs, List.replicate_succ] at hr
      | cons y ys =>
        simp only [peqs, List.replicate_succ] at hr
        split at hr
        · rename_i a b ha hb
          cases hr
          obtain ⟨vx, hvx, hrx⟩ := hx 0 x rfl
          obtain ⟨vy, hvy, hry⟩ := hy 0 y rfl
          have ih := run_eqArray he n w' as bs m (k + 1) xs ys b (fun j u hu => by
            have := hx (j + 1) u (by simpa using hu)
            rwa [show k + (j + 1) = k + 1 + j by omega] at this) (fun j u hu => by
            have := hy (j + 1) u (by simpa using hu)
            rwa [show k + (j + 1) = k + 1 + j by omega] at this) hb
          rw [List.range'_succ]
          simp only [Op.eqItems, Sem.run_bind, Nat.mul_one, run_part1 he (by simpa using hvx) w', run_part1 he (by simpa using hvy) w', Result.andThen_ok, run_eq1 he hrx hry ha n w']
          cases a
          · simp
          · simpa using ih
        · cases hr

/-- '==' and '!=' of structs and arrays -/
def pageq (P : Program) (neg : Bool) (t : TypeId) (x y : PV) (K : PV → Prop) : Prop :=
  match x, y with
  | .agg cs, .agg ds => match teq P t with
    | some kinds => match peqs kinds cs ds with
      | some b => K (pbool (if neg then !b else b))
      | none => False
    | none => False
  | .val (.bool p), .val (.bool q) => match tf P t with
    | some ⟨.bool, _, _, _, _⟩ => K (pbool (if neg then !(p == q) else (p == q)))
    | _ => False
  | _, _ => False

theorem tf_bool {t : TypeId} {F : TF} (h : tf P t = some F) (hF : F.ti = .bool) : P.underlying t = some .bool := by
  obtain ⟨d, i, hd, hi, rfl⟩ := tf_some h
  simp only at hF
  cases d <;> simp only [tiOf] at hF <;> try (cases hF; done)
  · exact hd
  · split at hF <;> cases hF
  · split at hF <;> cases hF
  · split at hF <;> cases hF

theorem pageq_sound {neg : Bool} {t u : TypeId} {x y : Operand} {px py : PV} (ho : o.op = .binOp (if neg then .neq else .eql) t x y u) (hx : Rep w A px (ρ x)) (hy : Rep w A py (ρ y)) (h : pageq P neg t px py K) :
    ∃ r, K r ∧ Gives P w A ρ o r := by
  unfold pageq at h
  split at h
  · rename_i cs ds
    split at h
    · rename_i kinds hk
      split at h
      · rename_i b hb
        obtain ⟨f, ex, hf⟩ := hx.agg_inv
        obtain ⟨g, ey, hg⟩ := hy.agg_inv
        have hxs : ∀ (j : Nat) (u : PV), cs[j]? = some u → ∃ v, (((List.range cs.length).map f).toArray)[0 + j]? = some v ∧ Rep w A u v := fun j u hu => by
          have : j < cs.length := (List.getElem?_eq_some_iff.1 hu).1
          exact ⟨f j, by simp [this], hf j u hu⟩
        have hys : ∀ (j : Nat) (u : PV), ds[j]? = some u → ∃ v, (((List.range ds.length).map g).toArray)[0 + j]? = some v ∧ Rep w A u v := fun j u hu => by
          have : j < ds.length := (List.getElem?_eq_some_iff.1 hu).1
          exact ⟨g j, by simp [this], hg j u hu⟩
        unfold teq at hk
        split at hk
        · rename_i hguard
          have heq : ∀ w', Sem.run P (Op.equalIn 10000 t (.agg ((List.range cs.length).map f).toArray) (.agg ((List.range ds.length).map g).toArray)) w' = .ok b w' := by
            intro w'
            split at hk
            · rename_i fs hu
              split at hk
              · rename_i hsp
                rw [run_equalIn_agg w' 9999 t _ _ (by simp [Program.fieldsOf, hu]) hsp]
                have : P.fieldsOf t = fs := by simp [Program.fieldsOf, hu]
                rw [this]
                exact run_eqFields fs.toList 0 kinds cs ds _ _ b hk hxs hys hb 9998 w'
              · cases hk
            · rename_i n e hu
              split at hk
              · rename_i d he
                cases hk
                obtain ⟨_, ⟨i, hi, hsz⟩, _⟩ := scalarD_some he
                have hc : P.cellsOf e = 1 := by simp [Program.cellsOf, hi, hsz]
                rw [run_equalIn_array (w := w') 9999 _ _ hu hi, hc]
                have hrun := run_eqArray (P := P) he 9998 w' _ _ n 0 cs ds b hxs hys hb
                rw [← List.range_eq_range'] at hrun
                exact hrun
              · cases hk
            · cases hk
          refine ⟨_, h, _, .val _, fun w' _ => ?_⟩
          unfold execOp
          simp only [ho, ex, ey, Sem.run_bind, run_eqGuard_agg w' _ t x y _ _ hguard, Result.andThen_ok]
          cases neg
          · simp only [Bool.false_eq_true, if_false, run_eql_struct, heq w', Result.andThen_ok, Sem.run_pure]
          · simp only [if_true, run_neq_struct, heq w', Result.andThen_ok, Sem.run_pure]
        · cases hk
      · exact h.elim
    · exact h.elim
  · rename_i p q
    split at h
    · rename_i s1 s2 s3 s4 hF
      have hu := tf_bool hF rfl
      refine ⟨_, h, _, .val _, fun w' _ => ?_⟩
      have ex := hx.val_eq
      have ey := hy.val_eq
      have hq1 : Sem.run P (Op.equal t (.bool p) (.bool q)) w' = .ok (p == q) w' := run_equalIn_bool' w' 9999 t p q hu
      have hq2 : Sem.run P (binOp (if neg then .neq else .eql) t (.bool p) (.bool q)) w' = .ok (.bool (if neg then !(p == q) else (p == q))) w' := by
        cases neg
        · show Sem.run P (Op.equal t (.bool p) (.bool q) >>= fun b => pure (Value.bool b)) w' = _
          rw [Sem.run_bind, hq1]
          rfl
        · show Sem.run P (Op.equal t (.bool p) (.bool q) >>= fun b => pure (Value.bool (!b))) w' = _
          rw [Sem.run_bind, hq1]
          rfl
      have g0 : Sem.run P (eqGuard (if neg then .neq else .eql) t x y (.bool p) (.bool q)) w' = .ok () w' := by cases neg <;> rfl
      have hq3 : Sem.run P (do eqGuard (if neg then .neq else .eql) t x y (.bool p) (.bool q); binOp (if neg then .neq else .eql) t (.bool p) (.bool q)) w' = .ok (.bool (if neg then !(p == q) else (p == q))) w' := by
        rw [Sem.run_bind, g0]
        exact hq2
      unfold execOp
      simp only [ho, ex, ey, Sem.run_bind] at hq3 ⊢
      rw [hq3]
      rfl
    · exact h.elim
  · exact h.elim
end
end Go.PM
