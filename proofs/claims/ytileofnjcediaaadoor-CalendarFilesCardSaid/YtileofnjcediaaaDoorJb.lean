/- Joined texts (Pms Pmt Pmu Pmv Pmw Pmx Pmy Pmz Dr Pna Ca Fa Cb Cx La Lb): the machine, the contracts, the laws. Conditions: none but those that each names. -/
import Derived.Test.YtileofnjcediaaaDoorJa
import Derived.Below
import Derived.KernelRfl
import Derived.Lib.LaidTab
import Derived.MakeChecks
import Derived.OpenShut
import Derived.Orders
import Derived.Scope
import Derived.SliceStrings
import Derived.Test.YtileofnjcediaaaDoorProg
import Derived.Test.YtileofnjcediaaaDoorRows
set_option linter.unusedSimpArgs false
set_option linter.unusedVariables false
namespace Go.PM
open Go.RowKit
/-- An operation that hands back a value and leaves the world as it is. -/
def isD (P : Program) : Op → Bool
  | .move _ | .assign _ | .pick _ _ _ | .build _ _ | .load _ _ | .nilCheck _ | .binOp _ _ _ _ _ | .unOp _ _ _ | .sliceToArrayPointer _ _ | .makeFunc _ _ _ | .slice _ _ _ _ _
  | .fieldAddr _ _ _ | .field _ _ _ | .indexAddr _ _ _ | .index _ _ _ | .extract _ _ => true
  | .convert s d _ => match tf P s, tf P d with
    | some ⟨.string, _, _, _, _⟩, some ⟨.slice _ _ _, _, _, _, _⟩ => false
    | some ⟨.slice _ _ _, _, _, _, _⟩, some ⟨.slice _ _ _, _, _, _, _⟩ => false
    | _, _ => true
  | .call c => match c.callee with
    | .builtin .len | .builtin .min | .builtin .max => true
    | _ => false
  | _ => false
/-- An operation that does not look at the world. -/
def isM : Op → Bool
  | .move _ | .assign _ => true
  | _ => false
section
variable {P : Program} {G : Globs} {E : Amb} {A : Nat → Prop} {σ : PState} {a : Act} {w : World} {o : Oper} {K : PState → Prop} {q : Bool}
theorem pop_gives (hs : Sim G E A σ a w) (hd : isD P o.op = true) (h : pop q P G o σ K) : ∃ r, K (σ.put o.dst r) ∧ Gives P w A a.eval o r := by
  have hob : ∀ n o, look σ.heap n = some o → ObjRep w A n o := fun n o h => hs.objs n o (look_mem h)
  unfold pop at h
  split at h
  · rename_i x ho
    exact ⟨_, h, _, hs.opnd x, fun w' _ => by unfold execOp; simp [ho]⟩
  · rename_i x ho
    exact ⟨_, h, _, hs.opnd x, fun w' _ => by unfold execOp; simp [ho]⟩
  · rename_i c x y ho
    exact ppick_sound ho (hs.opnd c) (hs.opnd x) (hs.opnd y) h
  · rename_i t ho
    rw [ho] at hd; cases hd
  · rename_i t x ho
    rw [ho] at hd; cases hd
  · rename_i t ps ho
    exact pbuild_sound (parts := ps.toList) (by simpa using ho) hs.opnd h
  · rename_i t n ps ho
    rw [ho] at hd; cases hd
  · rename_i t x ho
    exact pldop_sound ho (hs.opnd x) hob h
  · rename_i t x y ho
    rw [ho] at hd; cases hd
  · rename_i x ho
    exact gives_nil ho hs h
  · rename_i op t x y u ho
    split at h
    · exact pageq_sound (neg := false) ho (hs.opnd x) (hs.opnd y) h
    · exact pageq_sound (neg := true) ho (hs.opnd x) (hs.opnd y) h
    · exact pageq_sound (neg := false) ho (hs.opnd x) (hs.opnd y) h
    · exact pageq_sound (neg := true) ho (hs.opnd x) (hs.opnd y) h
    · exact pbin_sound ho (hs.opnd x) (hs.opnd y) h
  · rename_i op t x ho
    exact pun_sound ho (hs.opnd x) h
  · rename_i s d x ho
    split at h
    · rename_i h1 h2
      rw [ho] at hd
      simp [isD, h1, h2] at hd
    · rename_i h1 h2
      rw [ho] at hd
      simp [isD, h1, h2] at hd
    · exact pconv_sound ho (hs.opnd x) hob h
  · rename_i t x ho
    exact parr_sound ho (hs.opnd x) h
  · rename_i fn first cs ho
    split at h
    · rename_i f hfirst
      have e1 : first = #[] := by simpa using hfirst
      subst e1
      exact pfunc_sound (cs := cs.toList) (by simpa using ho) hs.opnd h
    · exact h.elim
  · rename_i t l c ho
    rw [ho] at hd; cases hd
  · rename_i t x lo hi mx ho
    exact pslice_sound ho hs.opnd h
  · rename_i t x k ho
    exact pfaddr_sound ho (hs.opnd x) h
  · rename_i t x k ho
    exact pfield_sound ho (hs.opnd x) h
  · rename_i t x i ho
    exact piaddr_sound ho (hs.opnd x) (hs.opnd i) h
  · rename_i t x i ho
    exact pindex_sound ho (hs.opnd x) (hs.opnd i) h
  · rename_i x k ho
    exact pextract_sound ho (hs.opnd x) h
  · rename_i c ho
    obtain ⟨callee, ⟨xs⟩, ⟨ts⟩⟩ := c
    simp only at h ho
    rw [ho] at hd
    split at h
    · rename_i b
      unfold pbuiltin at h
      split at h
      · split at h
        · exact plen_sound (ty := 0) ho (hs.opnd _) h
        · exact h.elim
      · cases hd
      · cases hd
      · exact pmm_sound (mn := true) (xs := xs) ho hs.opnd h
      · exact pmm_sound (mn := false) (xs := xs) ho hs.opnd h
      · exact h.elim
    · cases hd
    · exact h.elim
  · exact h.elim
end
section
variable {P : Program} {ops : Array Oper} {Q : Exit → Act → World → Prop} {md : Region.Mode}
theorem Keeps.trans {a b c : World} (h : Keeps a b) (k : Keeps b c) : Keeps a c := by
  intro x hx
  have h1 := h x hx
  have hlt : x < b.heap.size := by
    rw [Array.getElem?_eq_getElem hx] at h1
    exact (Array.getElem?_eq_some_iff.1 h1).1
  rw [k x hlt, h1]
/-- Does j come ahead of i? (f: how many steps are looked at) -/
def before (md : Region.Mode) (ops : Array Oper) : Nat → Nat → Nat → Bool
  | 0, _, _ => false
  | f + 1, j, i => match ops[i]? with
    | none => false
    | some o => (o.after.any fun e => Region.binds md e && e.on == j) || o.after.any fun e => Region.binds md e && before md ops f j e.on
def tailOk (md : Region.Mode) (ops : Array Oper) (f : Nat) (listed : Array Bool) (i : Nat) : Bool :=
  (List.range ops.size).all fun j => !(listed.getD j false) || (match ops[j]? with | some o => isM o.op | none => true) || before md ops f j i
def Closed (md : Region.Mode) (ops : Array Oper) (listed : Array Bool) : Prop :=
  ∀ j o, listed.getD j false = true → ops[j]? = some o → ∀ e ∈ o.after, Region.binds md e = true → listed.getD e.on false = true
theorem before_listed {listed : Array Bool} (hc : Closed md ops listed) {i : Nat} : ∀ (f j : Nat) (o : Oper), ops[j]? = some o → (∀ e ∈ o.after, Region.binds md e = true → listed.getD e.on false = true) →
    before md ops f i j = true → listed.getD i false = true
  | 0, _, _, _, _, h => by simp [before] at h
  | f + 1, j, o, ho, hall, h => by
    simp only [before, ho, Bool.or_eq_true] at h
    rcases h with h | h
    · obtain ⟨e, he, hb⟩ := Array.any_eq_true'.1 h
      simp only [Bool.and_eq_true, beq_iff_eq] at hb
      exact hb.2 ▸ hall e he hb.1
    · obtain ⟨e, he, hb⟩ := Array.any_eq_true'.1 h
      simp only [Bool.and_eq_true] at hb
      have hl := hall e he hb.1
      cases hq : ops[e.on]? with
      | none =>
        have h2 := hb.2
        cases f with
        | zero => simp [before] at h2
        | succ f => simp [before, hq] at h2
      | some o' => exact before_listed hc f e.on o' hq (hc e.on o' hl hq) hb.2
/-- All orders, with what each step leaves as it was. -/
def wpAnyK (P : Program) (md : Region.Mode) (ops : Array Oper) (f : Nat) (Q : Exit → Act → World → Prop) : Nat → Array Bool → Array Bool → Act → World → Prop
  | 0, listed, _, a, w => Region.ready md ops listed = [] ∧ Q .normal a w
  | fuel + 1, listed, loose, a, w =>
    (Region.ready md ops listed = [] → Q .normal a w) ∧
    ∀ i ∈ Region.ready md ops listed, wpOp P ops Q i (fun a' w' => (tailOk md ops f loose i = false → Keeps w w') ∧ wpAnyK P md ops f Q fuel (listed.setIfInBounds i true) loose a' w') a w
theorem wpAnyK_any {f : Nat} : ∀ (fuel : Nat) (listed loose : Array Bool) (a : Act) (w : World), wpAnyK P md ops f Q fuel listed loose a w → wpAny P md ops Q fuel listed a w
  | 0, _, _, _, _, h => h
  | fuel + 1, listed, _, a, w, h => ⟨h.1, fun i hi => wpOp_mono (fun a' w' h' => wpAnyK_any fuel _ _ a' w' h'.2) (h.2 i hi)⟩
theorem tailOk_less {f i j : Nat} {loose : Array Bool} (ht : tailOk md ops f loose j = false) : tailOk md ops f (loose.setIfInBounds i true) j = false := by
  cases ht2 : tailOk md ops f (loose.setIfInBounds i true) j with
  | false => rfl
  | true =>
    exfalso
    rw [show tailOk md ops f loose j = true from ?_] at ht
    · cases ht
    · refine List.all_eq_true.2 fun k hk => ?_
      have := List.all_eq_true.1 ht2 k hk
      cases hlk : loose.getD k false with
      | false => simp
      | true =>
        rw [getD_set_true hlk] at this
        simpa using this
theorem wpAnyK_less {f i : Nat} : ∀ (fuel : Nat) (listed loose : Array Bool) (a : Act) (w : World), wpAnyK P md ops f Q fuel listed (loose.setIfInBounds i true) a w → wpAnyK P md ops f Q fuel listed loose a w
  | 0, _, _, _, _, h => h
  | fuel + 1, listed, loose, a, w, h => ⟨h.1, fun j hj => wpOp_mono (fun a' w' h' => ⟨fun ht => h'.1 (tailOk_less ht), wpAnyK_less fuel _ _ a' w' h'.2⟩) (h.2 j hj)⟩
def YieldsC (P : Program) (ops : Array Oper) (o : Oper) (v : Value) (a : Act) (w : World) : Prop :=
  (Region.wanted o (yielded ops a.tmps) = true ∧ ∀ w', (isM o.op = false → Keeps w w') → (execOp a.eval o).run P w' = .ok (.value v) w') ∨
  (Region.wanted o (yielded ops a.tmps) = false ∧ v = undef)
theorem YieldsC.wpOp {i : Nat} {o : Oper} {v : Value} {a : Act} {w : World} (hi : ops[i]? = some o) (hy : YieldsC P ops o v a w)
    {K : Act → World → Prop} (h : K (a.put o.dst v) w) : wpOp P ops Q i K a w := by
  unfold Go.wpOp
  simp only [hi]
  rcases hy with ⟨hw, hv⟩ | ⟨hw, rfl⟩
  · simp only [hw, if_true, Oper.wp, hv w (fun _ => Keeps.refl w), Oper.upon]; exact .inl h
  · simp only [hw, Bool.false_eq_true, if_false]; exact h
theorem YieldsC.of_same {o : Oper} {v : Value} {a a' : Act} {w w' : World} (hy : YieldsC P ops o v a w) (he : execOp a'.eval o = execOp a.eval o)
    (hw : Region.wanted o (yielded ops a'.tmps) = Region.wanted o (yielded ops a.tmps)) (hk : isM o.op = false → Keeps w w') : YieldsC P ops o v a' w' := by
  unfold YieldsC at *
  rw [he, hw]
  rcases hy with ⟨h1, h2⟩ | h
  · exact .inl ⟨h1, fun w'' hk'' => h2 w'' fun hm => (hk hm).trans (hk'' hm)⟩
  · exact .inr h
theorem wpOp_putC {j : Nat} {oi oj : Oper} {v : Value} (hj : ops[j]? = some oj) (hap : oi.apart ops oj = true)
    (hsi : ∀ cs b, oi.op ≠ .select cs b) (hsj : ∀ cs b, oj.op ≠ .select cs b)
    (hQ : ∀ c a w, Q (.panic c) (a.put oi.dst v) w → Q (.panic c) a w) {K : Act → World → Prop} {a : Act} {w : World}
    (hy : YieldsC P ops oi v a w) (h : wpOp P ops Q j (fun a' w' => (isM oi.op = false → Keeps w w') ∧ K a' w') (a.put oi.dst v) w) :
    wpOp P ops Q j (fun a' w' => YieldsC P ops oi v a' w' ∧ (isM oi.op = false → Keeps w w') ∧ K (a'.put oi.dst v) w') a w := by
  obtain ⟨h1, h2, h3⟩ := Oper.apart_spec hap
  have keep : ∀ (a : Act) (w w' : World), YieldsC P ops oi v a w → (isM oi.op = false → Keeps w w') → ∀ u, YieldsC P ops oi v (a.put oj.dst u) w' := fun a w w' hy hk u =>
    hy.of_same (execOp_put oi hsi a oj.dst u h3) (wanted_put oi a oj.dst u h3) hk
  have keepD : ∀ d, YieldsC P ops oi v { a with defers := d :: a.defers } w := fun d => hy.of_same rfl rfl (fun _ => Keeps.refl w)
  unfold wpOp at *
  simp only [hj] at *
  rw [wanted_put oj a oi.dst v h1] at h
  split
  · rename_i hw
    simp only [hw, if_true] at h
    rcases h with h | ⟨hasks, hlets⟩
    case inr => exact .inr ⟨by unfold Oper.asks at *; rw [execOp_put oj hsj a oi.dst v h1] at hasks; exact hasks, hlets⟩
    refine .inl ?_
    unfold Oper.wp at *
    rw [execOp_put oj hsj a oi.dst v h1] at h
    generalize (execOp a.eval oj).run P w = r at *
    cases r with
    | ok n w' =>
      cases n <;> simp only [Oper.upon] at h ⊢
      case value u => exact ⟨keep a w w' hy h.1 u, h.1, by rw [← Act.put_comm a v u h2]; exact h.2⟩
      case skip => exact ⟨keep a w w' hy h.1 _, h.1, by rw [← Act.put_comm a v undef h2]; exact h.2⟩
      case defer d =>
        refine ⟨keep _ w w' (keepD d) h.1 _, h.1, ?_⟩
        rw [← Act.put_comm _ v undef h2, ← Act.put_defers]
        exact h.2
      case enter f args =>
        refine Calls.mono h fun e w'' he => ?_
        cases e with
        | returned u => exact ⟨keep a w w'' hy he.1 u, he.1, by rw [← Act.put_comm a v u h2]; exact he.2⟩
        | panicked c => exact hQ _ _ _ he
        | outgrown => exact he
      case row row args => exact Rows.mono h fun u w'' he => ⟨keep a w w'' hy he.1 u, he.1, by rw [← Act.put_comm a v u h2]; exact he.2⟩
    | halt x w' =>
      cases x <;> simp only [Oper.upon] at h ⊢
      case panic u => exact hQ _ _ _ h
  · rename_i hw
    simp only [hw] at h
    exact ⟨keep a w w hy h.1 _, h.1, by rw [← Act.put_comm a v undef h2]; exact h.2⟩
theorem Closed.set {listed : Array Bool} (hc : Closed md ops listed) {i : Nat} (hr : i ∈ Region.ready md ops listed) : Closed md ops (listed.setIfInBounds i true) := by
  obtain ⟨_, oi, hoi, hall⟩ := mem_ready.1 hr
  intro j o hj ho e he hb
  by_cases hij : i = j
  · subst hij
    rw [hoi] at ho
    cases ho
    exact getD_set_true (hall e he hb)
  · rw [getD_set_ne false hij] at hj
    exact getD_set_true (hc j o hj ho e he hb)
theorem wpAnyK_first {f i : Nat} {oi : Oper} {v : Value} (hi : ops[i]? = some oi) (hsel : ∀ (j : Nat) (o : Oper) cs b, ops[j]? = some o → o.op ≠ .select cs b)
    (hQ : ∀ c a w, Q (.panic c) (a.put oi.dst v) w → Q (.panic c) a w) :
    ∀ (fuel : Nat) (listed loose : Array Bool) (a : Act) (w : World), Closed md ops listed → loose.size = listed.size →
      (∀ j oj, ops[j]? = some oj → j ≠ i → listed.getD j true = false → (∀ e ∈ oj.after, Region.binds md e = true → e.on ≠ i) → oi.apart ops oj = true) →
      i ∈ Region.ready md ops listed → YieldsC P ops oi v a w →
      wpAnyK P md ops f Q fuel (listed.setIfInBounds i true) (loose.setIfInBounds i true) (a.put oi.dst v) w → wpAnyK P md ops f Q (fuel + 1) listed loose a w := by
  intro fuel
  induction fuel with
  | zero =>
    intro listed loose a w _ hsz _ hr hy H
    refine ⟨fun h => (by rw [h] at hr; cases hr), fun j hj => ?_⟩
    by_cases hji : j = i
    · subst hji; exact hy.wpOp hi ⟨fun _ => Keeps.refl w, wpAnyK_less _ _ _ _ _ H⟩
    · have := ready_mono hj hji
      rw [H.1] at this
      cases this
  | succ fuel ih =>
    intro listed loose a w hcl hsz hfree hr hy H
    refine ⟨fun h => (by rw [h] at hr; cases hr), fun j hj => ?_⟩
    by_cases hji : j = i
    · subst hji; exact hy.wpOp hi ⟨fun _ => Keeps.refl w, wpAnyK_less _ _ _ _ _ H⟩
    · have h1 := H.2 j (ready_mono hj hji)
      obtain ⟨hjun, oj, hoj, hall⟩ := mem_ready.1 hj
      have hiun : listed.getD i false = false := by
        have h0 := (mem_ready.1 hr).1
        rcases Nat.lt_or_ge i listed.size with h' | h'
        · simp [h'] at h0 ⊢; exact h0
        · simp [Array.getElem?_eq_none h'] at h0
      have hnot : ∀ e ∈ oj.after, Region.binds md e = true → e.on ≠ i := fun e he hb heq => by
        have h1 := hall e he hb
        rw [heq, hiun] at h1
        cases h1
      have hntail : isM oi.op = false → tailOk md ops f (loose.setIfInBounds i true) j = false := by
        intro hm
        cases ht : tailOk md ops f (loose.setIfInBounds i true) j with
        | false => rfl
        | true =>
          exfalso
          have hlt : i < ops.size := (Array.getElem?_eq_some_iff.1 hi).1
          have hb := List.all_eq_true.1 ht i (List.mem_range.2 hlt)
          have hset : (loose.setIfInBounds i true).getD i false = true := by
            have h0 := (mem_ready.1 hr).1
            rcases Nat.lt_or_ge i listed.size with h' | h'
            · simp [hsz, h']
            · simp [Array.getElem?_eq_none h'] at h0
          simp only [hset, hi, hm, Bool.not_true, Bool.false_or] at hb
          have := before_listed hcl f j oj hoj hall hb
          rw [hiun] at this
          cases this
      have h2 := wpOp_putC hoj (hfree j oj hoj hji hjun hnot) (fun cs b => hsel i oi cs b hi) (fun cs b => hsel j oj cs b hoj) hQ hy
        (K := fun a' w' => (tailOk md ops f (loose.setIfInBounds i true) j = false → Keeps w w') ∧ wpAnyK P md ops f Q fuel ((listed.setIfInBounds i true).setIfInBounds j true) (loose.setIfInBounds i true) a' w')
        (wpOp_mono (fun a' w' h => ⟨fun hm => h.1 (hntail hm), h⟩) h1)
      have hfree' : ∀ k ok, ops[k]? = some ok → k ≠ i → (listed.setIfInBounds j true).getD k true = false →
          (∀ e ∈ ok.after, Region.binds md e = true → e.on ≠ i) → oi.apart ops ok = true := fun k ok hk hki hun hno => by
        refine hfree k ok hk hki ?_ hno
        by_cases hjk : j = k
        · subst hjk; exact hjun
        · rw [getD_set_ne true hjk] at hun; exact hun
      have htl : tailOk md ops f loose j = false → tailOk md ops f (loose.setIfInBounds i true) j = false := by
        intro ht
        cases ht2 : tailOk md ops f (loose.setIfInBounds i true) j with
        | false => rfl
        | true =>
          exfalso
          rw [show tailOk md ops f loose j = true from ?_] at ht
          · cases ht
          · refine List.all_eq_true.2 fun k hk => ?_
            have := List.all_eq_true.1 ht2 k hk
            cases hlk : loose.getD k false with
            | false => simp
            | true =>
              rw [getD_set_true hlk] at this
              simpa using this
      refine wpOp_mono (fun a' w' h3 => ⟨fun ht => h3.2.2.1 (htl ht), ih (listed.setIfInBounds j true) loose a' w' (hcl.set hj) (by simpa using hsz) hfree' (ready_mono hr (Ne.symm hji)) h3.1 ?_⟩) h2
      rw [Array.setIfInBounds_comm _ _ hji]
      exact h3.2.2.2
/-- An order that stands for all: 'op' names the next operation (and whether it is to be quiet); 'alt' several of which any may be next. -/
inductive Plan where
  | done
  | stop
  | op (i : Nat) (q : Bool) (r : Plan)
  | alt (i : Nat) (q : Bool) (p more : Plan)
def planOk (P : Program) (md : Region.Mode) (ops : Array Oper) (f : Nat) : Plan → Nat → Array Bool → Array Bool → List Nat → Bool
  | .done, _, listed, _, cov => (Region.ready md ops listed).isEmpty && cov.isEmpty
  | .stop, n, listed, _, cov => n != 0 && !(Region.ready md ops listed).isEmpty && (Region.ready md ops listed).all fun i => cov.contains i
  | .op _ _ _, 0, _, _, _ => false
  | .op i q r, n + 1, listed, loose, cov => cov.isEmpty && (match ops[i]? with
    | none => false
    | some o => if isD P o.op then q && Region.free md ops listed i && (Region.ready md ops listed).contains i && planOk P md ops f r n (listed.setIfInBounds i true) (loose.setIfInBounds i true) []
      else (match Region.ready md ops listed with | [k] => k == i | _ => false) && (q || tailOk md ops f loose i) && planOk P md ops f r n (listed.setIfInBounds i true) loose [])
  | .alt _ _ _ _, 0, _, _, _ => false
  | .alt i q p more, n + 1, listed, loose, cov => (q || tailOk md ops f loose i) && (Region.ready md ops listed).contains i && planOk P md ops f p n (listed.setIfInBounds i true) loose [] && planOk P md ops f more (n + 1) listed loose (i :: cov)
def planAll (P : Program) (l : List Oper) (f : Nat) (L : Plan) : Bool :=
  Region.noSelect l.toArray && P.follows .mixedOrders && planOk P .any l.toArray f L l.length (Array.replicate l.length false) (Array.replicate l.length false) []
end
section
variable {P : Program} {G : Globs} {E : Amb} {K : PState → Prop}
/-- one operation, with its guard -/
def popG (P : Program) (G : Globs) (ds : List (Option Tmp)) (o : Oper) (q : Bool) (σ : PState) [c : Cont] : Prop :=
  match o.guard with
  | none => pop q P G o σ c.k
  | some (g, want) => match (ds[g]?).join with
    | some s => match σ.frame.getD s .junk with
      | .val (.bool b) => @pguard b want ⟨pop q P G o (σ.put (some s) (pbool want)) c.k, c.k ((σ.put (some s) (pbool (!want))).put o.dst (.val (.tuple #[])))⟩
      | .val (.tuple _) => c.k (σ.put o.dst (.val (.tuple #[])))
      | _ => False
    | none => False
/-- operations in the order L -/
def popsD (P : Program) (G : Globs) (ds : List (Option Tmp)) (l : List Oper) : Plan → PState → (PState → Prop) → Prop
  | .done, σ, K => K σ
  | .stop, _, _ => True
  | .op i q r, σ, K => match l[i]? with
    | none => False
    | some o => @popG P G ds o q σ ⟨fun σ' => popsD P G ds l r σ' K⟩
  | .alt i q p more, σ, K => (match l[i]? with
    | none => False
    | some o => @popG P G ds o q σ ⟨fun σ' => popsD P G ds l p σ' K⟩) ∧ popsD P G ds l more σ K
theorem popG_case {ops : Array Oper} {o : Oper} {q : Bool} {σ : PState} {A : Nat → Prop} {a : Act} {w : World} {K : PState → Prop} (hs : Sim G E A σ a w) (h : @popG P G (ops.toList.map (·.dst)) o q σ ⟨K⟩) :
    (Region.wanted o (yielded ops a.tmps) = true ∧ ∃ σ1, Sim G E A σ1 a w ∧ pop q P G o σ1 K) ∨ (Region.wanted o (yielded ops a.tmps) = false ∧ ∃ σ1, Sim G E A σ1 (a.put o.dst undef) w ∧ K σ1) := by
  unfold popG at h
  split at h
  · rename_i hg
    exact .inl ⟨by simp [Region.wanted, hg], σ, hs, h⟩
  · rename_i g want hg
    split at h
    · rename_i s hd
      split at h
      · rename_i b hf
        obtain ⟨hy, x, hx, rfl⟩ := yielded_of hs hd hf
        by_cases hb : b = want
        · subst hb
          exact .inl ⟨by simp [Region.wanted, hg, hy], _, put_same hs hx (.val _), h.1 rfl⟩
        · have hb' : b = !want := by
            revert hb
            cases b <;> cases want <;> decide
          subst hb'
          exact .inr ⟨by simp [Region.wanted, hg, hy], _, (put_same hs hx (.val _)).put o.dst (.val _), h.2 rfl⟩
      · rename_i vs hf
        have hy := yielded_none hs hd hf
        exact .inr ⟨by simp [Region.wanted, hg, hy], _, hs.put o.dst (.val _), h⟩
      · exact h.elim
    · exact h.elim
theorem popG_step {ops : Array Oper} {f i : Nat} {md : Region.Mode} {Q : Exit → Act → World → Prop} {o : Oper} {q : Bool} {σ : PState} {A : Nat → Prop} {a : Act} {w : World} {K : PState → Prop} {loose : Array Bool} {R : Act → World → Prop}
    (ho : ops[i]? = some o) (hs : Sim G E A σ a w) (h : @popG P G (ops.toList.map (·.dst)) o q σ ⟨K⟩) (hqt : q = true ∨ tailOk md ops f loose i = true) (rest : ∀ σ' A' a' w', Sim G E A' σ' a' w' → K σ' → R a' w') :
    wpOp P ops Q i (fun a' w' => (tailOk md ops f loose i = false → Keeps w w') ∧ R a' w') a w := by
  unfold wpOp
  simp only [ho]
  rcases popG_case hs h with ⟨hw, σ1, hs1, h1⟩ | ⟨hw, σ1, hs1, h1⟩
  · rw [if_pos hw]
    refine .inl (pop_sound hs1 h1 fun σ' A' a' w' hk hs' hkeep => ⟨fun ht => ?_, rest σ' A' a' w' hs' hk⟩)
    rcases hqt with hq | hq
    · exact hkeep hq
    · rw [hq] at ht; cases ht
  · rw [if_neg (by simp [hw])]
    exact ⟨fun _ => Keeps.refl w, rest _ _ _ _ hs1 h1⟩
/-- What is known of a plan that was gone through. -/
def Gone (P : Program) (md : Region.Mode) (ops : Array Oper) (f : Nat) (Q : Exit → Act → World → Prop) (p : Plan) (n : Nat) (listed loose : Array Bool) (cov : List Nat) (a : Act) (w : World) : Prop :=
  match p with
  | .done | .op _ _ _ => wpAnyK P md ops f Q n listed loose a w
  | .stop | .alt _ _ _ _ => ∃ m, n = m + 1 ∧ Region.ready md ops listed ≠ [] ∧ ∀ j ∈ Region.ready md ops listed, j ∈ cov ∨
      wpOp P ops Q j (fun a' w' => (tailOk md ops f loose j = false → Keeps w w') ∧ wpAnyK P md ops f Q m (listed.setIfInBounds j true) loose a' w') a w
theorem Gone.any {md : Region.Mode} {ops : Array Oper} {f n : Nat} {Q : Exit → Act → World → Prop} {p : Plan} {listed loose : Array Bool} {a : Act} {w : World} (h : Gone P md ops f Q p n listed loose [] a w) : wpAnyK P md ops f Q n listed loose a w := by
  unfold Gone at h
  split at h
  · exact h
  · exact h
  · obtain ⟨m, rfl, hne, hall⟩ := h
    exact ⟨fun e => absurd e hne, fun j hj => (hall j hj).resolve_left (by simp)⟩
  · obtain ⟨m, rfl, hne, hall⟩ := h
    exact ⟨fun e => absurd e hne, fun j hj => (hall j hj).resolve_left (by simp)⟩
theorem popsD_sound {ops : Array Oper} {f : Nat} {md : Region.Mode} {Q : Exit → Act → World → Prop} (hsel : Region.noSelect ops = true) (hQ : ∀ c a w, ¬ Q (.panic c) a w)
    (hq : ∀ σ' A' a' w', K σ' → Sim G E A' σ' a' w' → Q .normal a' w') :
    ∀ (L : Plan) (n : Nat) (listed loose : Array Bool) (cov : List Nat) (σ : PState) (A : Nat → Prop) (a : Act) (w : World), Sim G E A σ a w → Closed md ops listed → loose.size = listed.size → planOk P md ops f L n listed loose cov = true →
      popsD P G (ops.toList.map (·.dst)) ops.toList L σ K → Gone P md ops f Q L n listed loose cov a w
  | .done, n, listed, loose, cov, σ, A, a, w, hs, _, _, hp, h => by
    simp only [planOk, List.isEmpty_iff, Bool.and_eq_true] at hp
    show wpAnyK P md ops f Q n listed loose a w
    cases n with
    | zero => exact ⟨hp.1, hq σ A a w h hs⟩
    | succ n => exact ⟨fun _ => hq σ A a w h hs, fun i hi => by rw [hp.1] at hi; cases hi⟩
  | .stop, n, listed, loose, cov, σ, A, a, w, hs, _, _, hp, h => by
    simp only [planOk, Bool.and_eq_true, bne_iff_ne, ne_eq, Bool.not_eq_true', List.isEmpty_eq_false_iff, List.all_eq_true, List.contains_iff_mem] at hp
    obtain ⟨⟨h1, h2⟩, h3⟩ := hp
    refine ⟨n - 1, by omega, h2, fun j hj => .inl (h3 j hj)⟩
  | .op i q r, 0, listed, loose, cov, σ, A, a, w, hs, _, _, hp, h => by simp [planOk] at hp
  | .alt i q p more, 0, listed, loose, cov, σ, A, a, w, hs, _, _, hp, h => by simp [planOk] at hp
  | .alt i q p more, n + 1, listed, loose, cov, σ, A, a, w, hs, hcl, hsz, hp, h => by
    simp only [planOk, Bool.and_eq_true, Bool.or_eq_true, List.contains_iff_mem] at hp
    obtain ⟨⟨⟨hqt, hr⟩, hp1⟩, hp2⟩ := hp
    obtain ⟨h1, h2⟩ := h
    obtain ⟨m, hm, hne, hall⟩ := popsD_sound hsel hQ hq more (n + 1) listed loose (i :: cov) σ A a w hs hcl hsz hp2 h2 |> fun g => (show ∃ m, n + 1 = m + 1 ∧ Region.ready md ops listed ≠ [] ∧ ∀ j ∈ Region.ready md ops listed, j ∈ i :: cov ∨
      wpOp P ops Q j (fun a' w' => (tailOk md ops f loose j = false → Keeps w w') ∧ wpAnyK P md ops f Q m (listed.setIfInBounds j true) loose a' w') a w from by
        cases more with
        | stop => exact g
        | alt _ _ _ _ => exact g
        | done => simp [planOk] at hp2
        | op _ _ _ => simp [planOk] at hp2)
    cases hm
    refine ⟨n, rfl, hne, fun j hj => ?_⟩
    rcases hall j hj with hmem | hst
    · rcases List.mem_cons.1 hmem with rfl | hmem
      · refine .inr ?_
        split at h1
        · exact h1.elim
        · rename_i o ho
          exact popG_step (by simpa using ho) hs h1 hqt fun σ' A' a' w' hs' hk => (popsD_sound hsel hQ hq p n _ _ [] σ' A' a' w' hs' (hcl.set hr) (by simpa using hsz) hp1 hk).any
      · exact .inl hmem
    · exact .inr hst
  | .op i q r, n + 1, listed, loose, cov, σ, A, a, w, hs, hcl, hsz, hp, h => by
    show wpAnyK P md ops f Q (n + 1) listed loose a w
    simp only [popsD] at h
    split at h
    · exact h.elim
    · rename_i o ho
      have ho' : ops[i]? = some o := by simpa using ho
      simp only [planOk, ho', Bool.and_eq_true] at hp
      obtain ⟨_, hp⟩ := hp
      by_cases hD : isD P o.op = true
      · rw [if_pos hD] at hp
        simp only [Bool.and_eq_true] at hp
        obtain ⟨⟨⟨_, hfree⟩, hready⟩, hp2⟩ := hp
        have hr : i ∈ Region.ready md ops listed := List.contains_iff_mem.1 hready
        have hsp := Region.noSelect_spec hsel
        have rest := fun {σ' : PState} {A' : Nat → Prop} {a' : Act} {w' : World} (hs' : Sim G E A' σ' a' w') (h' : popsD P G (ops.toList.map (·.dst)) ops.toList r σ' K) =>
          (popsD_sound hsel hQ hq r n _ _ [] σ' A' a' w' hs' (hcl.set hr) (by simpa using hsz) hp2 h').any
        rcases popG_case hs h with ⟨hw, σ1, hs1, h1⟩ | ⟨hw, σ1, hs1, h1⟩
        · obtain ⟨p, hk, v, hrep, hrun⟩ := pop_gives hs1 hD h1
          refine wpAnyK_first (v := v) ho' hsp (fun c a w h => absurd h (hQ _ _ _)) n listed loose a w hcl hsz (Region.free_spec ho' hfree) hr (.inl ⟨hw, fun w' hk' => ?_⟩) (rest (hs1.put o.dst hrep) hk)
          cases hm : isM o.op with
          | false => exact hrun w' (hk' hm)
          | true =>
            have h0 := hrun w (Keeps.refl w)
            obtain ⟨x, hx⟩ : ∃ x, o.op = .move x ∨ o.op = .assign x := by
              cases hop : o.op <;> rw [hop] at hm <;> first | (cases hm; done) | exact ⟨_, .inl rfl⟩ | exact ⟨_, .inr rfl⟩
            have key : ∀ w', (execOp a.eval o).run P w' = .ok (.value (a.eval x)) w' := by
              intro w'
              unfold execOp
              rcases hx with hx | hx <;> rw [hx] <;> rfl
            rw [key] at h0
            injection h0 with h1 _
            injection h1 with h1
            rw [← h1]
            exact key w'
        · exact wpAnyK_first (v := undef) ho' hsp (fun c a w h => absurd h (hQ _ _ _)) n listed loose a w hcl hsz (Region.free_spec ho' hfree) hr (.inr ⟨hw, rfl⟩) (rest hs1 h1)
      · rw [if_neg hD] at hp
        simp only [Bool.and_eq_true, Bool.or_eq_true] at hp
        obtain ⟨⟨hr1, hqt⟩, hp2⟩ := hp
        have hr : Region.ready md ops listed = [i] := by
          split at hr1
          · rename_i k hk
            rw [hk, beq_iff_eq.1 hr1]
          · cases hr1
        have hmem : i ∈ Region.ready md ops listed := by rw [hr]; exact List.mem_singleton.2 rfl
        refine ⟨fun h0 => (by rw [hr] at h0; cases h0), fun j hj => ?_⟩
        rw [hr] at hj
        rw [List.mem_singleton.1 hj]
        exact popG_step ho' hs h hqt fun σ' A' a' w' hs' hk => (popsD_sound hsel hQ hq r n _ _ [] σ' A' a' w' hs' (hcl.set hmem) (by simpa using hsz) hp2 hk).any
theorem Sim.drew {A : Nat → Prop} {σ : PState} {a : Act} {w : World} (hs : Sim G E A σ a w) : Sim G E A σ a { w with drawn := w.drawn + 1 } := by
  have he : Ext (fun _ => False) w { w with drawn := w.drawn + 1 } := ⟨rfl, rfl, rfl, Nat.le_refl _, fun _ _ _ => rfl, fun _ _ h => h⟩
  refine ⟨hs.ext.trans he (fun _ _ h => h.elim), hs.lt, hs.a0, hs.a1, fun g => (hs.globs g).ext he (fun _ h => h) (fun _ _ h => h), hs.nodup, fun n o h => (hs.objs n o h).ext he (fun _ h => h) (fun _ _ h => h) (fun _ _ h => h), hs.own, hs.neg, hs.defers, hs.size, fun i p hp => ?_⟩
  obtain ⟨v, hv, hr⟩ := hs.frame i p hp
  exact ⟨v, hv, hr.ext he (fun _ h => h) (fun _ _ h => h)⟩
theorem W_region_draw {I : List Int} {id : Nat} {l : List Oper} {K : Exit → PState → Prop} {σ : PState} (f : Nat) (L : Plan) (hp : planAll P l f L = true)
    (h : popsD P G (l.map (·.dst)) l L σ (K .normal)) : W P G I (.region id l.toArray true) σ K := by
  intro E _ A a w hs Q hq
  simp only [planAll, Bool.and_eq_true] at hp
  obtain ⟨⟨h1, h3⟩, h4⟩ := hp
  refine wp_mono (Q := fun e a w => e = .normal ∧ ∃ σ' A', K .normal σ' ∧ Sim G E A' σ' a w) ?_ fun e a w ⟨he, σ', A', hk, hs'⟩ => he ▸ hq _ _ _ _ _ hk hs'
  refine wp_region_any h3 (wpAnyK_any (f := f) _ _ (Array.replicate l.length false) _ _ ?_)
  have := (popsD_sound (P := P) (G := G) (E := E) (K := K .normal) (ops := l.toArray) (f := f) (md := .any) (Q := fun e a w => e = .normal ∧ ∃ σ' A', K .normal σ' ∧ Sim G E A' σ' a w) h1
    (fun c a w h => by obtain ⟨h, _⟩ := h; cases h) (fun σ' A' a' w' hk hs' => ⟨rfl, σ', A', hk, hs'⟩) L l.length (Array.replicate l.length false) (Array.replicate l.length false) [] σ A a _ hs.drew
    (fun j o hj => by
      exfalso
      rcases Nat.lt_or_ge j l.length with h | h
      · simp [h] at hj
      · simp [h] at hj) rfl (by simpa using h4) (by simpa using h)).any
  simpa using this
end
end Go.PM

namespace Go.PM
open Go.RowKit
theorem Fin_ret1 {P : Program} {t : Tmp} {R : PV → Heap → Prop} {σ : PState} {res : PV} {H : Heap} (h1 : σ.frame.getD t .junk = res) (h2 : Sub H σ.heap) (h3 : R res H) : Fin P [.tmp t] R .ret σ :=
  Fin_ret (show PResult P σ [.tmp t] res from h1.symm) h2 h3
theorem Fin_ret2 {P : Program} {t u : Tmp} {R : PV → Heap → Prop} {σ : PState} {p q : PV} {H : Heap} (h1 : σ.frame.getD t .junk = p) (h1' : σ.frame.getD u .junk = q) (h2 : Sub H σ.heap) (h3 : R (.tuple [p, q]) H) : Fin P [.tmp t, .tmp u] R .ret σ :=
  Fin_ret (show PResult P σ [.tmp t, .tmp u] (.tuple [p, q]) from ⟨[p, q], ⟨h1.symm, h1'.symm, trivial⟩, rfl⟩) h2 h3
theorem Fin_ret3 {P : Program} {t u v : Tmp} {R : PV → Heap → Prop} {σ : PState} {p q r : PV} {H : Heap} (h1 : σ.frame.getD t .junk = p) (h1' : σ.frame.getD u .junk = q) (h1'' : σ.frame.getD v .junk = r) (h2 : Sub H σ.heap) (h3 : R (.tuple [p, q, r]) H) :
    Fin P [.tmp t, .tmp u, .tmp v] R .ret σ :=
  Fin_ret (show PResult P σ [.tmp t, .tmp u, .tmp v] (.tuple [p, q, r]) from ⟨[p, q, r], ⟨h1.symm, h1'.symm, h1''.symm, trivial⟩, rfl⟩) h2 h3
theorem map_getD {α : Type} (f : α → PV) (xs : List α) (i : Nat) (h : i < xs.length) : (xs.map f).getD i .junk = f xs[i] := by
  simp [List.getD_eq_getElem?_getD, h]
theorem W_loop_k {P : Program} {G : Globs} {σ : PState} {c : Code} {K : Exit → PState → Prop} {I : List Int} (R : Nat → PState → Prop) (n0 : Nat) (τ0 : PState) (hw : Wk σ τ0) (h0 : R n0 τ0)
    (round : ∀ n τ, R n τ → ∀ lp : PState → Prop, (∀ σ'' n' τ', n' < n → Wk σ'' τ' → R n' τ' → lp σ'') → W P G I c τ (seqK lp K)) : W P G I (.loop c) σ K :=
  W_loopW R n0 τ0 hw h0 fun n τ hR => round n τ hR _ fun _ n' τ' h1 h2 h3 => ⟨n', τ', h1, h2, h3⟩
/-- A call by contract. -/
theorem pcall_k {q : Bool} {P : Program} {G : Globs} {σ : PState} {fn : FuncId} {args : List PV} {R : PV → Heap → Prop} {d : Option Tmp} {K : PState → Prop} (hc : PCalls P G fn args [] R)
    (hk : ∀ res Hout, R res Hout → (∀ n ∈ names Hout, n ∉ names σ.heap) → K (PState.put ⟨σ.frame, Hout ++ σ.heap⟩ d res)) : @pcallI q P G σ d fn args ⟨K⟩ :=
  pcall_plain hc hk
end Go.PM

namespace Go.PM
theorem pfresh_k {l : List Int} {k : Int → Prop} {C : Prop} (hc : C) (h : ∀ n : Int, (C ∧ ∀ x ∈ l, n ≠ x ∧ x ≠ n) → k n) : @pfresh l ⟨k⟩ :=
  fun n hn => h n ⟨hc, fun _ hx => ⟨fun e => hn (e ▸ hx), fun e => hn (e ▸ hx)⟩⟩
theorem pguard_tt (x y : Prop) : @pguard true true ⟨x, y⟩ = x := by simp [pguard]
theorem pguard_tf (x y : Prop) : @pguard true false ⟨x, y⟩ = y := by simp [pguard]
theorem pguard_ft (x y : Prop) : @pguard false true ⟨x, y⟩ = y := by simp [pguard]
theorem pguard_ff (x y : Prop) : @pguard false false ⟨x, y⟩ = x := by simp [pguard]
theorem pguard_intro {b want : Bool} {x y : Prop} (hx : b = want → x) (hy : b = (!want) → y) : @pguard b want ⟨x, y⟩ := ⟨hx, hy⟩
end Go.PM

namespace Go.PM
open Go.RowKit
section
variable {P : Program} {G : Globs} {E : Amb} {A : Nat → Prop} {σ : PState} {a : Act} {w : World}
@[reducible] def frzH (n : Int) (cells : List PV) (H : Heap) : Heap := (del H n).map fun x => (x.1, { x.2 with cells := x.2.cells.map (frz1 n cells) })
def frzOk (n : Int) (cells : List PV) (H : Heap) : Prop := ∀ x ∈ del H n, ∀ u ∈ x.2.cells, (frz1 n cells u).one = true
theorem Sim.freeze (hs : Sim G E A σ a w) {n : Int} {o : PObj} (hI : n ∉ E.I) (hl : look σ.heap n = some o) (hone : frzOk n o.cells σ.heap) :
    Sim G E (fun b => A b ∨ (b : Int) = n) ⟨σ.frame.map (frz n o.cells), frzH n o.cells σ.heap⟩ a w := by
  have hob := hs.objs n o (look_mem hl)
  have hA : ∀ b, A b → (A b ∨ (b : Int) = n) := fun b h => .inl h
  have hn : ∀ b : Nat, n = b → (A b ∨ (b : Int) = n) := fun b h => .inr h.symm
  have hnn := names_del_not n σ.heap hs.nodup
  have hs2 := (hs.drop n).more (A' := fun b => A b ∨ (b : Int) = n) hA (fun b hb => by
    rcases hb with h | h
    · exact .inl h
    · obtain ⟨h1, h2, h3⟩ := hs.own n o (look_mem hl) b h.symm
      refine .inr ⟨h1, ?_, by rw [h]; exact hnn⟩
      rcases h3 with h3 | h3
      · exact h3
      · exact absurd (h ▸ h3 : n ∈ E.I) hI)
  have hnames : names (frzH n o.cells σ.heap) = names (del σ.heap n) := by
    simp [names, Function.comp_def]
  have hmem : ∀ m o', (m, o') ∈ frzH n o.cells σ.heap → ∃ o1, (m, o1) ∈ del σ.heap n ∧ o' = { o1 with cells := o1.cells.map (frz1 n o.cells) } := by
    intro m o' hm
    obtain ⟨⟨m1, o1⟩, h1, e⟩ := List.mem_map.1 hm
    cases e
    exact ⟨o1, h1, rfl⟩
  refine ⟨hs2.ext, hs2.lt, hs2.a0, hs2.a1, hs2.globs, ?_, fun m o' hm => ?_, fun m o' hm => ?_, fun m o' hm => ?_, hs2.defers, by simp [hs2.size], fun i p hp => ?_⟩
  · show (names _).Nodup
    rw [hnames]
    exact hs2.nodup
  · obtain ⟨o1, h1, rfl⟩ := hmem m o' hm
    rcases hs.objs m o1 (mem_del hs.nodup h1).2 with ⟨g1, g2, g3⟩ | ⟨b, cur, fz, f, rfl, q1, q2, q3, q4⟩
    · exact .inl ⟨g1, g2, by simp [g3]⟩
    · refine .inr ⟨b, cur, fz, f, rfl, q1, q2, q3, fun j u hu => ?_⟩
      simp only [List.getElem?_map] at hu
      cases hj : o1.cells[j]? with
      | none => rw [hj] at hu; cases hu
      | some q =>
        rw [hj] at hu
        cases hu
        exact ⟨(q4 j q hj).1, hone _ h1 q (List.mem_of_getElem? hj), frz1_rep hA hn hob (q4 j q hj).2.2⟩
  · obtain ⟨o1, h1, rfl⟩ := hmem m o' hm
    exact hs2.own m o1 h1
  · obtain ⟨o1, h1, rfl⟩ := hmem m o' hm
    exact hs2.neg m o1 h1
  · simp only [List.getElem?_map] at hp
    cases hj : σ.frame[i]? with
    | none => rw [hj] at hp; cases hp
    | some q =>
      rw [hj] at hp
      cases hp
      obtain ⟨v, hv, hr⟩ := hs.frame i q hj
      exact ⟨v, hv, frz_rep hA hn hob hr⟩
/-- One object after the other is turned no more; an object may be forgotten. -/
inductive Frz : PV → Heap → PV → Heap → Prop
  | refl (p : PV) (H : Heap) : Frz p H p H
  | step {p p' : PV} {H H' : Heap} (n : Int) (o : PObj) (hl : look H n = some o) (hone : frzOk n o.cells H) (h : Frz (frz n o.cells p) (frzH n o.cells H) p' H') : Frz p H p' H'
  | sub {p p' : PV} {H H1 H' : Heap} (hs : Sub H1 H) (h : Frz p H1 p' H') : Frz p H p' H'
theorem Sim.frz {A' : Nat → Prop} {p p' : PV} {H H' : Heap} (h : Frz p H p' H') : ∀ {A : Nat → Prop} {v : Value}, E.I = [] → Sim G E A ⟨[], H⟩ a w → Rep w A p v → ∃ A', Sim G E A' ⟨[], H'⟩ a w ∧ Rep w A' p' v := by
  induction h with
  | refl p H => intro A v _ hs hr; exact ⟨A, hs, hr⟩
  | step n o hl hone _ ih =>
    intro A v hI hs hr
    have h1 := hs.freeze (n := n) (o := o) (by rw [hI]; simp) hl hone
    exact ih hI h1 (frz_rep (fun b h => .inl h) (fun b h => .inr h.symm) (hs.objs n o (look_mem hl)) hr)
  | sub hsub _ ih =>
    intro A v hI hs hr
    exact ih hI (hs.sub hsub) hr
theorem PCalls.frz {f : FuncId} {args : List PV} {R R' : PV → Heap → Prop} (h : PCalls P G f args [] R) (hr : ∀ res H, R res H → ∃ res' H', Frz res H res' H' ∧ R' res' H') : PCalls P G f args [] R' := by
  intro w A F vals h1 h2 h3 h4 h5 h6 h7
  refine (h w A F vals h1 h2 h3 h4 h5 h6 h7).mono ?_
  rintro e w' ⟨v, A', res, Hout, he, hR, hrep, hs⟩
  obtain ⟨res', H', hf, hR'⟩ := hr _ _ hR
  obtain ⟨A2, hs2, hrep2⟩ := Sim.frz (A' := A') hf rfl hs hrep
  exact ⟨v, A2, res', H', he, hR', hrep2, hs2⟩
/-- one row handed back -/
theorem PCalls.frz_row {f : FuncId} {args : List PV} {R : PV → Heap → Prop} {xs : List PV} (h : PCalls P G f args [] R) (hr : ∀ res H, R res H → ∃ n ty, res = .row n 1 xs.length ∧ H = [(n, ⟨ty, true, 1, xs⟩)]) :
    PCalls P G f args [] (fun res H => res = .list 1 xs ∧ H = []) := by
  refine h.frz fun res H hR => ?_
  obtain ⟨n, ty, rfl, rfl⟩ := hr res H hR
  refine ⟨_, _, .step n ⟨ty, true, 1, xs⟩ (by simp [look]) (by simp [frzOk, del]) (.refl _ _), ?_, ?_⟩
  · simp [PM.frz, frz1, elemsOf]
  · simp [frzH, del]
/-- A function, its end out of sight. -/
theorem PCalls_k {f : FuncId} {fn : Func} {c : Code} {n : Nat} {rs : List ResultVar} {args : List PV} {Hin : Heap} {R : PV → Heap → Prop} (hf : P.funcs[f]? = some fn) (hb : fn.body = some c) (hn : fn.ntmps = n) (hrs : fn.results = rs.toArray)
    (h : ∀ fin : Exit → PState → Prop, (∀ e σ, Fin P rs R e σ → fin e σ) → W P G (Hin.map (·.1)) c ⟨args ++ List.replicate (n - args.length) .junk, Hin⟩ fin) : PCalls P G f args Hin R :=
  PCalls_of_W hf hb hn hrs (h _ fun _ _ h => h)
theorem bl_lit (l : List UInt8) : bl { data := l.toArray } = l := by simp [bl]
end
end Go.PM

namespace Go.PM
open Go.RowKit
/-- A frame of n slots: what was put last stands first. -/
def fr (n : Nat) (l : List (Nat × PV)) : List PV := l.foldr (fun x f => f.set x.1 x.2) (List.replicate n .junk)
theorem fr_length (n : Nat) : ∀ l : List (Nat × PV), (fr n l).length = n
  | [] => by simp [fr]
  | x :: l => by
    have := fr_length n l
    simp only [fr, List.foldr_cons, List.length_set] at this ⊢
    exact this
theorem fr_set (n : Nat) (l : List (Nat × PV)) (i : Nat) (v : PV) : (fr n l).set i v = fr n ((i, v) :: l) := rfl
theorem fr_getD_nil (n j : Nat) : (fr n []).getD j .junk = .junk := by
  simp only [fr, List.foldr_nil, List.getD_eq_getElem?_getD, List.getElem?_replicate]
  split <;> rfl
theorem fr_getD_cons (n i j : Nat) (v : PV) (l : List (Nat × PV)) : (fr n ((i, v) :: l)).getD j .junk = if i = j then (if i < n then v else .junk) else (fr n l).getD j .junk := by
  have hl := fr_length n l
  show ((fr n l).set i v).getD j .junk = _
  by_cases h : i = j
  · subst h
    rw [if_pos rfl]
    split
    · rename_i hi
      rw [List.getD_eq_getElem?_getD, List.getElem?_set_self (by omega)]
      rfl
    · rename_i hi
      rw [List.getD_eq_getElem?_getD, List.getElem?_eq_none (by simp; omega)]
      rfl
  · rw [if_neg h, List.getD_eq_getElem?_getD, List.getElem?_set_ne h, ← List.getD_eq_getElem?_getD]
theorem fr_same {n i : Nat} {v : PV} {l : List (Nat × PV)} (h : i < n) : (fr n ((i, v) :: l)).getD i .junk = v := by
  rw [fr_getD_cons, if_pos rfl, if_pos h]
theorem fr_other {n i j : Nat} {v : PV} {l : List (Nat × PV)} (h : i ≠ j) : (fr n ((i, v) :: l)).getD j .junk = (fr n l).getD j .junk := by
  rw [fr_getD_cons, if_neg h]
theorem wkF_of : ∀ (l l' : List PV), l.length = l'.length → (∀ i : Nat, l'.getD i .junk = .junk ∨ l.getD i .junk = l'.getD i .junk) → wkF l l'
  | [], [], _, _ => trivial
  | p :: r, p' :: r', hl, h => by
    refine ⟨?_, wkF_of r r' (by simpa using hl) fun i => by simpa using h (i + 1)⟩
    have := h 0
    simp only [List.getD_cons_zero] at this
    rcases this with e | e
    · exact .inl e
    · exact .inr e.symm
  | [], _ :: _, hl, _ => by simp at hl
  | _ :: _, [], hl, _ => by simp at hl
theorem fr_mem (n : Nat) : ∀ (l : List (Nat × PV)) (i : Nat), (fr n l).getD i .junk = .junk ∨ (i, (fr n l).getD i .junk) ∈ l
  | [], i => .inl (fr_getD_nil n i)
  | (j, v) :: l, i => by
    rw [fr_getD_cons]
    split
    · rename_i h
      subst h
      split
      · exact .inr (by simp)
      · exact .inl rfl
    · rcases fr_mem n l i with h | h
      · exact .inl h
      · exact .inr (List.mem_cons_of_mem _ h)
theorem wkF_fr {n : Nat} {l l' : List (Nat × PV)} (h : ∀ x ∈ l', (fr n l).getD x.1 .junk = x.2) : wkF (fr n l) (fr n l') := by
  refine wkF_of _ _ (by rw [fr_length, fr_length]) fun i => ?_
  rcases fr_mem n l' i with e | e
  · exact .inl e
  · exact .inr (h _ e)
def layFrom : Nat → List PV → List (Nat × PV)
  | _, [] => []
  | k, p :: r => (k, p) :: layFrom (k + 1) r
theorem fr_layFrom (n : Nat) : ∀ (args : List PV) (k i : Nat), k + args.length ≤ n → (fr n (layFrom k args)).getD i .junk = if k ≤ i ∧ i < k + args.length then args.getD (i - k) .junk else .junk
  | [], k, i, _ => by
    rw [layFrom, fr_getD_nil, if_neg (by simp only [List.length_nil]; omega)]
  | p :: r, k, i, h => by
    rw [layFrom, fr_getD_cons]
    simp only [List.length_cons] at h
    split
    · rename_i e
      subst e
      rw [if_pos (by omega), if_pos (by simp)]
      simp
    · rename_i e
      rw [fr_layFrom n r (k + 1) i (by omega)]
      by_cases hc : k + 1 ≤ i ∧ i < k + 1 + r.length
      · rw [if_pos hc, if_pos (by simp only [List.length_cons]; omega), show i - k = (i - (k + 1)) + 1 by omega, List.getD_cons_succ]
      · rw [if_neg hc, if_neg (by simp only [List.length_cons]; omega)]
theorem getD_ext : ∀ (l l' : List PV), l.length = l'.length → (∀ i : Nat, l.getD i .junk = l'.getD i .junk) → l = l'
  | [], [], _, _ => rfl
  | p :: r, p' :: r', hl, h => by
    have h0 := h 0
    simp only [List.getD_cons_zero] at h0
    rw [h0, getD_ext r r' (by simpa using hl) fun i => by simpa using h (i + 1)]
  | [], _ :: _, hl, _ => by simp at hl
  | _ :: _, [], hl, _ => by simp at hl
theorem fr_args {n : Nat} {args : List PV} (h : args.length ≤ n) : args ++ List.replicate (n - args.length) .junk = fr n (layFrom 0 args) := by
  refine getD_ext _ _ (by simp [fr_length]; omega) fun i => ?_
  rw [fr_layFrom n args 0 i (by omega)]
  by_cases hi : i < args.length
  · rw [if_pos (by omega), List.getD_eq_getElem?_getD, List.getElem?_append_left hi, ← List.getD_eq_getElem?_getD]
    simp
  · rw [if_neg (by omega), List.getD_eq_getElem?_getD, List.getElem?_append_right (by omega), List.getElem?_replicate]
    split <;> rfl
section
variable {P : Program} {G : Globs}
/-- A function, its end out of sight. -/
theorem PCalls_f {f : FuncId} {fn : Func} {c : Code} {n : Nat} {rs : List ResultVar} {args : List PV} {Hin : Heap} {R : PV → Heap → Prop} (hf : P.funcs[f]? = some fn) (hb : fn.body = some c) (hn : fn.ntmps = n) (hrs : fn.results = rs.toArray) (hl : args.length ≤ n)
    (h : ∀ fin : Exit → PState → Prop, (∀ e σ, Fin P rs R e σ → fin e σ) → W P G (Hin.map (·.1)) c ⟨fr n (layFrom 0 args), Hin⟩ fin) : PCalls P G f args Hin R :=
  PCalls_k hf hb hn hrs fun fin hfin => by rw [fr_args hl]; exact h fin hfin
end
theorem Wk_fr {n : Nat} {l l' : List (Nat × PV)} {H H' : Heap} (h : ∀ x ∈ l', (fr n l).getD x.1 .junk = x.2) (hs : Sub H' H) : Wk ⟨fr n l, H⟩ ⟨fr n l', H'⟩ := ⟨wkF_fr h, hs⟩
theorem fr_get (n : Nat) (l : List (Nat × PV)) (i : Nat) (p : PV) (h : (fr n l).getD i .junk = p) (hp : p ≠ .junk) : (fr n l)[i]? = some p := by
  rw [List.getD_eq_getElem?_getD] at h
  cases hq : (fr n l)[i]? with
  | none => rw [hq] at h; exact absurd h.symm hp
  | some q => rw [hq] at h; rw [← h]; rfl
section
variable {P : Program} {G : Globs}
theorem W_adopt_f {c : Code} {K : Exit → PState → Prop} {I : List Int} {n0 : Nat} {l : List (Nat × PV)} {H : Heap} (i : Nat) (e : TypeId) (es : Nat) (hi : (fr n0 l).getD i .junk = pnil)
    (h : ∀ n : Int, n ∉ names H → W P G I c ⟨fr n0 ((i, .row n es 0) :: l), (n, ⟨e, true, es, []⟩) :: H⟩ K) : W P G I c ⟨fr n0 l, H⟩ K :=
  W_adopt i e es (fr_get _ _ _ _ hi (by simp [pnil])) fun n hn => h n hn
end
attribute [irreducible] fr
end Go.PM

namespace Go.PM
open Go.RowKit
section
variable {P : Program} {G : Globs} {I : List Int} {σ τ υ : PState} {c : Code} {K : Exit → PState → Prop}
/-- What reads as σ also reads as τ. -/
def Wx (G : Globs) (I : List Int) (σ τ : PState) : Prop := ∀ E : Amb, E.I = I → ∀ A a w, Sim G E A σ a w → ∃ A', Sim G E A' τ a w
theorem Wx.refl (σ : PState) : Wx G I σ σ := fun _ _ A _ _ hs => ⟨A, hs⟩
theorem Wx.trans (h : Wx G I σ τ) (k : Wx G I τ υ) : Wx G I σ υ := fun E hE A a w hs => by
  obtain ⟨A', h'⟩ := h E hE A a w hs
  exact k E hE A' a w h'
theorem Wx.of_wk (h : Wk σ τ) : Wx G I σ τ := fun _ _ A _ _ hs => ⟨A, hs.wk h⟩
theorem W_x (h : Wx G I σ τ) (hw : W P G I c τ K) : W P G I c σ K := fun E hE A a w hs Q hq => by
  obtain ⟨A', h'⟩ := h E hE A a w hs
  exact hw E hE A' a w h' Q hq
theorem Wx.freeze {n : Int} {o : PObj} (hI : n ∉ I) (hl : look σ.heap n = some o) (hone : frzOk n o.cells σ.heap) : Wx G I σ ⟨σ.frame.map (frz n o.cells), frzH n o.cells σ.heap⟩ :=
  fun _ hE _ _ _ hs => ⟨_, hs.freeze (by rw [hE]; exact hI) hl hone⟩
theorem fr_map (n : Nat) (f : PV → PV) (hf : f .junk = .junk) : ∀ l : List (Nat × PV), (fr n l).map f = fr n (l.map fun x => (x.1, f x.2))
  | [] => by
    unfold fr
    simp [hf]
  | (i, v) :: l => by
    have := fr_map n f hf l
    rw [List.map_cons, ← fr_set, ← fr_set, ← this, List.map_set]
theorem Wx.freeze_f {N : Nat} {l : List (Nat × PV)} {H : Heap} (n : Int) {o : PObj} (hI : n ∉ I) (hl : look H n = some o) (hone : frzOk n o.cells H) :
    Wx G I ⟨fr N l, H⟩ ⟨fr N (l.map fun x => (x.1, frz n o.cells x.2)), frzH n o.cells H⟩ := by
  have := Wx.freeze (G := G) (σ := ⟨fr N l, H⟩) hI hl hone
  rwa [fr_map N _ (by simp [frz, frz1])] at this
/-- What reads as σ reads as one of T. -/
def Wxs (G : Globs) (I : List Int) (σ : PState) (T : PState → Prop) : Prop := ∀ E : Amb, E.I = I → ∀ A a w, Sim G E A σ a w → ∃ A' τ, T τ ∧ Sim G E A' τ a w
theorem Wxs.of {T : PState → Prop} (h : Wx G I σ τ) (ht : T τ) : Wxs G I σ T := fun E hE A a w hs => by
  obtain ⟨A', h'⟩ := h E hE A a w hs
  exact ⟨A', τ, ht, h'⟩
/-- What reads as the result p, with the heap H, also reads as p' with H'. -/
def Px (G : Globs) (p : PV) (H : Heap) (p' : PV) (H' : Heap) : Prop :=
  ∀ E : Amb, E.I = [] → ∀ A a w v, Sim G E A ⟨[], H⟩ a w → Rep w A p v → ∃ A', Sim G E A' ⟨[], H'⟩ a w ∧ Rep w A' p' v
theorem Px.refl (p : PV) (H : Heap) : Px G p H p H := fun _ _ A _ _ _ hs hr => ⟨A, hs, hr⟩
theorem Px.trans {p p' p'' : PV} {H H' H'' : Heap} (h : Px G p H p' H') (k : Px G p' H' p'' H'') : Px G p H p'' H'' := fun E hE A a w v hs hr => by
  obtain ⟨A', h1, h2⟩ := h E hE A a w v hs hr
  exact k E hE A' a w v h1 h2
theorem Px.freeze (p : PV) (H : Heap) (n : Int) {o : PObj} (hl : look H n = some o) (hone : frzOk n o.cells H) : Px G p H (frz n o.cells p) (frzH n o.cells H) :=
  fun E hE A a w v hs hr => Sim.frz (A' := A) (.step n o hl hone (.refl _ _)) hE hs hr
theorem Px.sub (p : PV) {H H1 : Heap} (h : Sub H1 H) : Px G p H p H1 := fun E hE A a w v hs hr => Sim.frz (A' := A) (.sub h (.refl _ _)) hE hs hr
theorem nil_list {w : World} {A : Nat → Prop} {v : Value} (es : Nat) (h : Rep w A pnil v) : Rep w A (.list es []) v := by
  rw [h.val_eq]
  exact .nil es _ _
theorem Px.nil (es : Nat) (H : Heap) : Px G pnil H (.list es []) H := fun _ _ A _ _ _ hs hr => ⟨A, hs, nil_list es hr⟩
theorem PCalls.px {f : FuncId} {args : List PV} {R R' : PV → Heap → Prop} (h : PCalls P G f args [] R) (hr : ∀ res H, R res H → ∃ res' H', Px G res H res' H' ∧ R' res' H') : PCalls P G f args [] R' := by
  intro w A F vals h1 h2 h3 h4 h5 h6 h7
  refine (h w A F vals h1 h2 h3 h4 h5 h6 h7).mono ?_
  rintro e w' ⟨v, A', res, Hout, he, hR, hrep, hs⟩
  obtain ⟨res', H', hf, hR'⟩ := hr _ _ hR
  obtain ⟨A2, hs2, hrep2⟩ := hf _ rfl _ _ _ _ hs hrep
  exact ⟨v, A2, res', H', he, hR', hrep2, hs2⟩
/-- A list by its places. -/
def tab (k : Nat) (f : Nat → PV) : List PV := (List.range k).map f
theorem tab_len (k : Nat) (f : Nat → PV) : (tab k f).length = k := by simp [tab]
theorem tab_get {k i : Nat} {f : Nat → PV} (h : i < k) : (tab k f)[i]? = some (f i) := by simp [tab, h]
theorem tab_congr {k : Nat} {f g : Nat → PV} (h : ∀ i, i < k → f i = g i) : tab k f = tab k g := by
  unfold tab
  exact List.map_congr_left fun i hi => h i (List.mem_range.1 hi)
theorem tab_set {k i : Nat} {f : Nat → PV} {v : PV} (h : i < k) : List.take i (tab k f) ++ [v] ++ List.drop (i + 1) (tab k f) = tab k (fun j => if j = i then v else f j) := by
  refine List.ext_getElem? fun j => ?_
  rcases Nat.lt_trichotomy j i with h1 | h1 | h1
  · have h2 : j < (tab k f).length := by rw [tab_len]; omega
    simp only [List.append_assoc]
    rw [List.getElem?_append_left (by rw [List.length_take, tab_len]; omega), List.getElem?_take_of_lt h1, tab_get (by omega), tab_get (by omega), if_neg (by omega)]
  · subst h1
    simp only [List.append_assoc]
    rw [List.getElem?_append_right (by rw [List.length_take, tab_len]; omega), tab_get h, if_pos rfl, List.length_take, tab_len, show j - min j k = 0 by omega]
    rfl
  · rw [List.getElem?_append_right (by rw [List.length_append, List.length_take, tab_len]; simp; omega), List.getElem?_drop, List.length_append, List.length_take, tab_len, List.length_singleton]
    rw [show i + 1 + (j - (min i k + 1)) = j by omega]
    by_cases hk : j < k
    · rw [tab_get hk, tab_get hk, if_neg (by omega)]
    · rw [List.getElem?_eq_none (by rw [tab_len]; omega), List.getElem?_eq_none (by rw [tab_len]; omega)]
/-- Rows, one for each number below k. -/
def rowsH (ty : TypeId) (nms : Nat → Int) (cont : Nat → List PV) : Nat → Heap
  | 0 => []
  | k + 1 => (nms k, ⟨ty, true, 1, cont k⟩) :: rowsH ty nms cont k
def Inj (nms : Nat → Int) (k : Nat) : Prop := ∀ i j, i < k → j < k → nms i = nms j → i = j
/-- Only the slots of the mask m are kept. -/
def prune (m : Nat) : List (Nat × PV) → List (Nat × PV)
  | [] => []
  | (i, v) :: l => bif m / 2 ^ i % 2 == 1 then (i, v) :: prune m l else prune m l
theorem prune_nil (m : Nat) : prune m [] = [] := rfl
theorem prune_cons (m i : Nat) (v : PV) (l : List (Nat × PV)) : prune m ((i, v) :: l) = bif m / 2 ^ i % 2 == 1 then (i, v) :: prune m l else prune m l := rfl
theorem prune_not {n m j : Nat} (h : (m / 2 ^ j % 2 == 1) = false) : ∀ l : List (Nat × PV), (fr n (prune m l)).getD j .junk = .junk
  | [] => fr_getD_nil _ _
  | (i, v) :: l => by
    rw [prune_cons]
    cases hb : (m / 2 ^ i % 2 == 1) with
    | true =>
      rw [cond_true, fr_getD_cons, if_neg (by rintro rfl; rw [hb] at h; cases h)]
      exact prune_not h l
    | false =>
      rw [cond_false]
      exact prune_not h l
theorem prune_get (n m j : Nat) : ∀ l : List (Nat × PV), (fr n (prune m l)).getD j .junk = .junk ∨ (fr n (prune m l)).getD j .junk = (fr n l).getD j .junk
  | [] => .inr rfl
  | (i, v) :: l => by
    rw [prune_cons]
    cases hb : (m / 2 ^ i % 2 == 1) with
    | true =>
      rw [cond_true, fr_getD_cons, fr_getD_cons]
      by_cases h : i = j
      · rw [if_pos h, if_pos h]
        exact .inr rfl
      · rw [if_neg h, if_neg h]
        exact prune_get n m j l
    | false =>
      rw [cond_false, fr_getD_cons]
      by_cases h : i = j
      · subst h
        exact .inl (prune_not hb l)
      · rw [if_neg h]
        exact prune_get n m j l
theorem W_prune {N id : Nat} {ops : Array Oper} {d : Bool} {l : List (Nat × PV)} {H : Heap} (m : Nat) (h : W P G I (.region id ops d) ⟨fr N (prune m l), H⟩ K) : W P G I (.region id ops d) ⟨fr N l, H⟩ K := by
  intro E hE A a w hs Q hq
  exact h E hE A a w (hs.wk ⟨wkF_of _ _ (by rw [fr_length, fr_length]) fun i => by
    rcases prune_get N m i l with e | e
    · exact .inl e
    · exact .inr e.symm, fun x hx => hx, hs.nodup⟩) Q hq
variable {ty : TypeId} {nms : Nat → Int} {cont : Nat → List PV}
/-- one more name -/
theorem Inj.more {k : Nat} {n : Int} (h : Inj nms k) (hn : ∀ j, j < k → nms j ≠ n) : Inj (fun j => if j = k then n else nms j) (k + 1) := by
  intro p q hp hq e
  simp only at e
  split at e
  · split at e
    · omega
    · exact absurd e.symm (hn q (by omega))
  · split at e
    · exact absurd e (hn p (by omega))
    · exact h p q (by omega) (by omega) e
/-- Values in which no object of one's own is named. -/
def stab : PV → Bool
  | .val _ | .list _ _ | .full _ _ | .iptr _ _ | .junk => true
  | _ => false
theorem stab_frz {p : PV} (h : stab p = true) (n : Int) (cs : List PV) : frz n cs p = p ∧ frz1 n cs p = p := by
  cases p <;> first | exact ⟨rfl, rfl⟩ | (simp [stab] at h)
end
attribute [irreducible] tab rowsH
end Go.PM

namespace Go.PM
open Go.RowKit
section
variable {P : Program} {G : Globs} {q : Bool} {ds : List (Option Tmp)} {l : List Oper} {σ τ : PState} {K : PState → Prop} {I : List Int}
/-- The operations l, the rest of a region of the operations l0. -/
def WL (P : Program) (G : Globs) (I : List Int) (l0 l : List Oper) (σ : PState) (K : PState → Prop) : Prop :=
  ∀ E : Amb, E.I = I → ∀ A a w, Sim G E A σ a w → ∀ Q : Exit → Act → World → Prop, (∀ σ' A' a' w', K σ' → Sim G E A' σ' a' w' → Q .normal a' w') → wpList P l0.toArray Q l a w
theorem WL_nil {l0 : List Oper} (h : K σ) : WL P G I l0 [] σ K := fun _ _ _ _ _ hs _ hq => hq _ _ _ _ h hs
theorem WL_op {l0 : List Oper} {o : Oper} {r : List Oper} (h : ∀ nx : PState → Prop, (∀ σ', WL P G I l0 r σ' K → nx σ') → @popG P G (l0.map (·.dst)) o false σ ⟨nx⟩) : WL P G I l0 (o :: r) σ K := by
  intro E hE A a w hs Q hq
  have h1 := h (fun σ' => WL P G I l0 r σ' K) fun _ h => h
  rw [show l0.map (·.dst) = l0.toArray.toList.map (·.dst) by simp] at h1
  unfold wpList
  rcases popG_case hs h1 with ⟨hw, σ1, hs1, h2⟩ | ⟨hw, σ1, hs1, h2⟩
  · rw [if_pos hw]
    exact .inl (pop_sound hs1 h2 fun σ' A' a' w' hk hs' _ => hk E hE A' a' w' hs' Q hq)
  · rw [if_neg (by simp [hw])]
    exact h2 E hE A _ w hs1 Q hq
theorem WL_x {l0 : List Oper} (h : Wx G I σ τ) (hw : WL P G I l0 l τ K) : WL P G I l0 l σ K := fun E hE A a w hs Q hq => by
  obtain ⟨A', h'⟩ := h E hE A a w hs
  exact hw E hE A' a w h' Q hq
theorem W_region_l {id : Nat} {K : Exit → PState → Prop} (h : WL P G I l l σ (K .normal)) : W P G I (.region id l.toArray false) σ K := by
  intro E hE A a w hs Q hq
  refine wp_region_lit ?_
  exact h E hE A a w hs Q fun σ' A' a' w' hk hs' => hq _ _ _ _ _ hk hs'
/-- A scope through which no jump goes. -/
def scopeK (K : Exit → PState → Prop) : Exit → PState → Prop
  | .goto _, _ => False
  | e, σ => K e σ
theorem W_scope {c : Code} {K : Exit → PState → Prop} (h : W P G I c σ (scopeK K)) : W P G I (.scope c) σ K := by
  intro E hE A a w hs Q hq
  refine wp_scope_straight (h E hE A a w hs _ fun e σ' a' w' A' hk hs' => ?_)
  cases e with
  | goto l => exact hk.elim
  | _ => exact hq _ _ _ _ _ hk hs'
theorem popsD_done (h : K σ) : popsD P G ds l .done σ K := h
theorem popsD_stop : popsD P G ds l .stop σ K := trivial
theorem popsD_op {i : Nat} {r : Plan} (h : ∀ nx : PState → Prop, (∀ σ', popsD P G ds l r σ' K → nx σ') → match l[i]? with | none => False | some o => @popG P G ds o q σ ⟨nx⟩) : popsD P G ds l (.op i q r) σ K := h _ fun _ h => h
theorem popsD_alt {i : Nat} {r more : Plan} (h : ∀ nx : PState → Prop, (∀ σ', popsD P G ds l r σ' K → nx σ') → match l[i]? with | none => False | some o => @popG P G ds o q σ ⟨nx⟩) (h2 : popsD P G ds l more σ K) : popsD P G ds l (.alt i q r more) σ K :=
  ⟨h _ fun _ h => h, h2⟩
theorem popG_eq {o : Oper} {c : Cont} : @popG P G ds o q σ c = match o.guard with
  | none => pop q P G o σ c.k
  | some (g, want) => match (ds[g]?).join with
    | some s => match σ.frame.getD s .junk with
      | .val (.bool b) => @pguard b want ⟨pop q P G o (σ.put (some s) (pbool want)) c.k, c.k ((σ.put (some s) (pbool (!want))).put o.dst (.val (.tuple #[])))⟩
      | .val (.tuple _) => c.k (σ.put o.dst (.val (.tuple #[])))
      | _ => False
    | none => False := rfl
/-- A nil slice as an empty list. -/
def nl : PV → PV
  | .val (.slice none 0 0) => .list 1 []
  | p => p
theorem nl_rep {w : World} {A : Nat → Prop} {p : PV} {v : Value} (h : Rep w A p v) : Rep w A (nl p) v := by
  unfold nl
  split
  · exact nil_list 1 h
  · exact h
theorem nl_one {p : PV} (h : p.one = true) : (nl p).one = true := by
  unfold nl
  split
  · rfl
  · exact h
theorem Wx.nl_obj {n : Int} {e : TypeId} {es : Nat} {g : Bool} {cells : List PV} {f : List PV} : Wx G I ⟨f, [(n, ⟨e, g, es, cells⟩)]⟩ ⟨f, [(n, ⟨e, g, es, cells.map nl⟩)]⟩ := by
  intro E hE A a w hs
  refine ⟨A, hs.ext, hs.lt, hs.a0, hs.a1, hs.globs, hs.nodup, fun m o h => ?_, fun m o h => ?_, fun m o h => ?_, hs.defers, hs.size, hs.frame⟩
  · simp only [List.mem_singleton] at h
    cases h
    rcases hs.objs n _ List.mem_cons_self with ⟨g1, g2, g3⟩ | ⟨b, cur, fz, fv, rfl, q1, q2, q3, q4⟩
    · simp only at g1 g3
      exact .inl ⟨g1, g2, by simp [g3]⟩
    · refine .inr ⟨b, cur, fz, fv, rfl, q1, q2, q3, fun j u hu => ?_⟩
      simp only [List.getElem?_map] at hu
      cases hj : cells[j]? with
      | none => rw [hj] at hu; cases hu
      | some p =>
        rw [hj] at hu
        cases hu
        obtain ⟨h1, h2, h3⟩ := q4 j p hj
        exact ⟨h1, nl_one h2, nl_rep h3⟩
  · simp only [List.mem_singleton] at h
    cases h
    exact hs.own n _ List.mem_cons_self
  · simp only [List.mem_singleton] at h
    cases h
    exact hs.neg n _ List.mem_cons_self
end
end Go.PM

namespace Go.PM
open Go.RowKit
/-- Values, and structures of values, in which no object of one's own is named. -/
def stabF : PV → Bool
  | .agg cs | .tuple cs => cs.all stab
  | p => stab p
theorem map_frz1_stab {n : Int} {cs : List PV} : ∀ {l : List PV}, l.all stab = true → l.map (frz1 n cs) = l
  | [], _ => rfl
  | p :: l, h => by
    simp only [List.all_cons, Bool.and_eq_true] at h
    rw [List.map_cons, (stab_frz h.1 n cs).2, map_frz1_stab h.2]
theorem stabF_frz {p : PV} (h : stabF p = true) (n : Int) (cs : List PV) : frz n cs p = p := by
  cases p <;> first
    | (simp only [stabF] at h
       simp only [frz]
       rw [map_frz1_stab h])
    | (simp only [stabF] at h
       exact (stab_frz h n cs).1)
section
variable {P : Program} {G : Globs} {l : List Oper} {K : PState → Prop} {I : List Int}
theorem WL_born {l0 : List Oper} {N d : Nat} {L : List (Nat × PV)} {n : Int} {e : TypeId} {es len : Nat} {cells : List PV} (hI : n ∉ I) (hL : L.all (fun x => stabF x.2) = true) (hc : len * es ≤ cells.length ∧ 0 < es) 
    (h : WL P G I l0 l ⟨fr N ((d, .list es (elemsOf es (cells.map nl) len)) :: L), []⟩ K) : WL P G I l0 l ⟨fr N ((d, .row n es len) :: L), [(n, ⟨e, true, es, cells⟩)]⟩ K := by
  refine WL_x (Wx.nl_obj.trans ?_) h
  have h1 := Wx.freeze_f (G := G) (I := I) (N := N) (l := (d, .row n es len) :: L) (H := [(n, ⟨e, true, es, cells.map nl⟩)]) n (o := ⟨e, true, es, cells.map nl⟩) hI (by simp only [look, if_true]) (by simp [frzOk, del])
  have e1 : L.map (fun x => (x.1, frz n (cells.map nl) x.2)) = L := by
    conv => rhs; rw [← List.map_id L]
    exact List.map_congr_left fun x hx => by rw [stabF_frz (List.all_eq_true.1 hL x hx)]; rfl
  have e2 : frz n (cells.map nl) (.row n es len) = .list es (elemsOf es (cells.map nl) len) := by
    simp only [frz, frz1, if_true, List.length_map]
    rw [if_pos hc]
  rw [List.map_cons, e1] at h1
  simp only [e2] at h1
  simpa [frzH, del] using h1
end
/-- What is still to be evaluated. -/
def Ev (p : Prop) : Prop := p
theorem Ev_in {p : Prop} (h : Ev p) : p := h
theorem Ev_out {p : Prop} (h : p) : Ev p := h
end Go.PM

namespace Go.PM
open Go.RowKit
/-- A slice of integers that came in: the first 'len' of the numbers are its elements. -/
def IsRow (k : IntKind) (w : World) (a : Option Addr) (len cap : Nat) (zs : List Int) : Prop :=
  (a = none ∧ len = 0 ∧ cap = 0 ∧ zs = []) ∨
  ∃ x, a = some x ∧ len ≤ cap ∧ cap ≤ maxLen ∧ zs.length = cap ∧ (∀ i, i < zs.length → w.cell? (x.add i) = some (.int k (zs.getD i 0))) ∧ ∀ n ∈ zs, (Lit.int k n).wf = true
/-- A slice of strings that came in. -/
def IsTexts (w : World) (a : Option Addr) (len cap : Nat) (zs : List ByteArray) : Prop :=
  (a = none ∧ len = 0 ∧ cap = 0 ∧ zs = []) ∨
  ∃ x, a = some x ∧ len ≤ cap ∧ cap ≤ maxLen ∧ zs.length = cap ∧ (∀ i, i < zs.length → w.cell? (x.add i) = some (.string (zs.getD i ByteArray.empty))) ∧ ∀ s ∈ zs, s.size ≤ maxLen
theorem cells_at {w : World} {a : Addr} {n : Nat} {f : Nat → Value} (h : ∀ i, i < n → w.cell? (a.add i) = some (f i)) (hp : 0 < n) :
    ∃ b off, a = at_ b off ∧ b < w.heap.size ∧ ∀ j, j < n → w.cell? (at_ b (off + j)) = some (f j) := by
  obtain ⟨b, off, spot⟩ := a
  have hspot : spot = none := by simpa [Addr.add] using World.cell?_spot (h 0 hp)
  subst hspot
  have h0 := h 0 hp
  rw [Go.WideShapes.add_plain] at h0
  exact ⟨b, off, rfl, cell_lt h0, fun j hj => by
    have := h j hj
    rw [Go.WideShapes.add_plain] at this
    exact this⟩
theorem flat_vals {α : Type} (f : α → Value) (hf : ∀ x, (f x).oneCell' = true) : ∀ l : List α, flat (l.map fun x => PV.val (f x)) = l.map fun x => PV.val (f x)
  | [] => rfl
  | x :: l => by
    have := flat_vals f hf l
    simp only [flat, List.map_cons, List.flatMap_cons] at this ⊢
    rw [this]
    rfl
theorem rep_vals {α : Type} (f : α → Value) (hf : ∀ x, (f x).oneCell' = true) {w : World} {a : Addr} {len cap : Nat} (l : List α) (hl : l.length = len) (hc : len ≤ cap)
    (h : ∀ i (hi : i < l.length), w.cell? (a.add i) = some (f l[i])) : Rep w (fun b => b < w.heap.size) (.list 1 (l.map fun x => .val (f x))) (.slice (some a) len cap) := by
  subst hl
  cases l with
  | nil => exact .nil _ _ _
  | cons x l =>
    obtain ⟨b, off, rfl, hb, hcell⟩ := cells_at (f := fun i => if h : i < (x :: l).length then f (x :: l)[i] else undef) (n := (x :: l).length) (fun i hi => by rw [dif_pos hi]; exact h i hi) (by simp)
    have key := Rep.list (w := w) (A := fun b => b < w.heap.size) 1 ((x :: l).map fun x => PV.val (f x)) b off cap (fun i => if h : i < (x :: l).length then f (x :: l)[i] else undef) hb (by simpa using hc)
      (fun y hy => by
        obtain ⟨z, _, rfl⟩ := List.mem_map.1 hy
        rfl)
      (fun j u hu => by
        rw [flat_vals f hf] at hu
        rw [List.getElem?_map] at hu
        cases hj : (x :: l)[j]? with
        | none => rw [hj] at hu; cases hu
        | some z =>
          rw [hj] at hu
          cases hu
          have hlt := (List.getElem?_eq_some_iff.1 hj).1
          exact ⟨hcell j hlt, hf z⟩)
      (fun j u hu => by
        rw [flat_vals f hf] at hu
        rw [List.getElem?_map] at hu
        cases hj : (x :: l)[j]? with
        | none => rw [hj] at hu; cases hu
        | some z =>
          rw [hj] at hu
          cases hu
          obtain ⟨hlt, hz⟩ := List.getElem?_eq_some_iff.1 hj
          simp only [dif_pos hlt, hz]
          exact .val _)
    simpa using key
theorem IsRow.rep {w : World} {a : Option Addr} {len cap : Nat} {zs : List Int} (h : IsRow .i64 w a len cap zs) :
    Rep w (fun b => b < w.heap.size) (.list 1 ((zs.take len).map (pint .i64))) (.slice a len cap) ∧ ((zs.take len).length : Int) ≤ 9223372036854775807 ∧ ∀ x ∈ zs.take len, -9223372036854775808 ≤ x ∧ x ≤ 9223372036854775807 := by
  rcases h with ⟨rfl, rfl, rfl, rfl⟩ | ⟨x, rfl, hl, hm, hz, hcell, hwf⟩
  · exact ⟨.nil _ _ _, by simp, by simp⟩
  · have hlen : (zs.take len).length = len := by rw [List.length_take]; omega
    refine ⟨rep_vals (.int .i64) (fun _ => rfl) _ hlen hl fun i hi => ?_, ?_, fun n hn => ?_⟩
    · rw [hcell i (by omega), List.getElem_take, List.getD_eq_getElem?_getD, List.getElem?_eq_getElem (by omega)]
      rfl
    · rw [hlen]
      have : maxLen = 9223372036854775807 := by decide
      omega
    · have := hwf n (List.mem_of_mem_take hn)
      exact bounds_i64 this
theorem IsTexts.rep {w : World} {a : Option Addr} {len cap : Nat} {zs : List ByteArray} (h : IsTexts w a len cap zs) :
    Rep w (fun b => b < w.heap.size) (.list 1 (((zs.take len).map bl).map pstr)) (.slice a len cap) ∧ (((zs.take len).map bl).length : Int) ≤ 9223372036854775807 ∧ ∀ s ∈ (zs.take len).map bl, (s.length : Int) ≤ 9223372036854775807 := by
  have hml : maxLen = 9223372036854775807 := by decide
  rcases h with ⟨rfl, rfl, rfl, rfl⟩ | ⟨x, rfl, hl, hm, hz, hcell, hwf⟩
  · exact ⟨.nil _ _ _, by simp, by simp⟩
  · have hlen : (zs.take len).length = len := by rw [List.length_take]; omega
    refine ⟨?_, ?_, fun n hn => ?_⟩
    · have := rep_vals (w := w) (a := x) (cap := cap) Value.string (fun _ => rfl) (zs.take len) hlen hl fun i hi => by
        rw [hcell i (by omega), List.getElem_take, List.getD_eq_getElem?_getD, List.getElem?_eq_getElem (by omega)]
        rfl
      rw [List.map_map, show (zs.take len).map (pstr ∘ bl) = (zs.take len).map fun x => PV.val (.string x) from List.map_congr_left fun s _ => by simp only [Function.comp_apply, pstr, mk_bl]]
      exact this
    · rw [List.length_map, hlen]
      omega
    · obtain ⟨s, hs, rfl⟩ := List.mem_map.1 hn
      have := hwf s (List.mem_of_mem_take hs)
      rw [← size_bl]
      omega
theorem Ext.below {w w' : World} {B : Nat} (hB : B ≤ w.heap.size) (h : Ext (fun b => (b : Int) ∈ ([] : List Int)) w w') : Below B w w' :=
  ⟨h.os, h.tape, h.output, h.size, fun k hk => h.block k (by omega) (by simp)⟩
end Go.PM

namespace Go.PM
open Go.RowKit
section
variable {P : Program} {G : Globs} {E : Amb} {A : Nat → Prop} {σ : PState} {a : Act} {w : World}
/-- what comes back from a call with objects of the caller's -/
theorem Sim.calledI {w' : World} {A' : Nat → Prop} {Hin Hout rest : Heap} {F : List Int} (hs : Sim G E A σ a w) (hF : ∀ n, n ∈ names σ.heap ∨ n ∈ E.F → n ∈ F)
    (hin : ∀ x ∈ Hin, x ∈ σ.heap) (hrest : ∀ x ∈ rest, x ∈ σ.heap ∧ x.1 ∉ names Hin) (hrn : (names rest).Nodup)
    (hs' : Sim G ⟨w, A, Hin.map (·.1), F⟩ A' ⟨[], Hout⟩ ⟨#[], []⟩ w') : (∀ n ∈ names Hout, n ∉ names rest) ∧ Sim G E A' ⟨σ.frame, Hout ++ rest⟩ a w' := by
  have hmem : ∀ b : Nat, (b : Int) ∈ Hin.map (·.1) → ∃ o, ((b : Int), o) ∈ σ.heap := by
    intro b hb
    obtain ⟨⟨n, o⟩, h1, h2⟩ := List.mem_map.1 hb
    simp only at h2
    subst h2
    exact ⟨o, hin _ h1⟩
  have he := hs'.ext
  have hM : ∀ b, A b → ¬ (b : Int) ∈ Hin.map (·.1) := by
    intro b hb hm
    obtain ⟨o, ho⟩ := hmem b hm
    exact (hs.own _ o ho b rfl).2.1 hb
  have hdis : ∀ n ∈ names Hout, n ∉ names rest := by
    intro n hn hn'
    obtain ⟨⟨n1, o1⟩, h1, rfl⟩ := List.mem_map.1 hn
    obtain ⟨⟨n2, o2⟩, h2, e2⟩ := List.mem_map.1 hn'
    simp only at e2
    subst e2
    obtain ⟨h2a, h2b⟩ := hrest _ h2
    by_cases hneg : n2 < 0
    · rcases hs'.neg n2 o1 h1 hneg with h | h
      · exact h (hF _ (.inl (List.mem_map.2 ⟨_, h2a, rfl⟩)))
      · exact h2b h
    · obtain ⟨b, hb⟩ : ∃ b : Nat, n2 = b := ⟨n2.toNat, by omega⟩
      obtain ⟨q1, q2, q3⟩ := hs'.own n2 o1 h1 b hb
      have := (hs.own n2 o2 h2a b hb).1
      rcases q3 with h | h
      · simp only at h; omega
      · exact h2b (hb ▸ h)
  refine ⟨hdis, hs.ext.trans he ?_, hs'.lt, fun b hb => hs'.a0 b (hs.a0 b hb), fun b hb => ?_, hs'.globs, ?_, fun n o h => ?_, fun n o h b hb => ?_, fun n o h hn => ?_, hs.defers, hs.size, fun i p hp => ?_⟩
  · intro x hx hm
    obtain ⟨o, ho⟩ := hmem x hm
    rcases (hs.own _ o ho x rfl).2.2 with h | h
    · omega
    · exact h
  · rcases hs'.a1 b hb with h | h
    · exact hs.a1 b h
    · exact .inr (Nat.le_trans hs.ext.size h)
  · rw [List.map_append]
    exact List.nodup_append.2 ⟨hs'.nodup, hrn, fun x hx y hy e => hdis x hx (e ▸ hy)⟩
  · rcases List.mem_append.1 h with h | h
    · exact hs'.objs n o h
    · refine (hs.objs n o (hrest _ h).1).ext he hs'.a0 hM ?_
      intro b hb hm
      exact (hrest _ h).2 (hb ▸ hm)
  · rcases List.mem_append.1 h with h | h
    · obtain ⟨q1, q2, q3⟩ := hs'.own n o h b hb
      refine ⟨q1, q2, ?_⟩
      rcases q3 with h3 | h3
      · exact .inl (Nat.le_trans hs.ext.size h3)
      · obtain ⟨o', ho'⟩ := hmem b h3
        exact (hs.own _ o' ho' b rfl).2.2
    · obtain ⟨q1, q2, q3⟩ := hs.own n o (hrest _ h).1 b hb
      refine ⟨Nat.lt_of_lt_of_le q1 he.size, fun hb' => ?_, q3⟩
      rcases hs'.a1 b hb' with h | h
      · exact q2 h
      · simp only at h
        omega
  · rcases List.mem_append.1 h with h | h
    · rcases hs'.neg n o h hn with h | h
      · exact .inl fun h' => h (hF _ (.inr h'))
      · obtain ⟨⟨n2, o2⟩, h2, e2⟩ := List.mem_map.1 h
        simp only at e2
        subst e2
        exact hs.neg n2 o2 (hin _ h2) hn
    · exact hs.neg n o (hrest _ h).1 hn
  · obtain ⟨v, hv, hr⟩ := hs.frame i p hp
    exact ⟨v, hv, hr.ext he hs'.a0 hM⟩
/-- A call by contract to which the objects Hin are handed; those of 'rest' stay with the caller. -/
theorem pcall_own {fn : FuncId} {args : List PV} {R : PV → Heap → Prop} {d : Option Tmp} {K : PState → Prop} (Hin rest : Heap) (hc : PCalls P G fn args Hin R)
    (hin : ∀ x ∈ Hin, x ∈ σ.heap) (hnd : (names Hin).Nodup) (hrest : ∀ x ∈ rest, x ∈ σ.heap ∧ x.1 ∉ names Hin) (hrn : (names rest).Nodup)
    (hk : ∀ res Hout, R res Hout → (∀ n ∈ names Hout, n ∉ names rest) → K (PState.put ⟨σ.frame, Hout ++ rest⟩ d res)) : @pcallI false P G σ d fn args ⟨K⟩ := by
  intro E A a w vals hs hsz hvals
  refine (hc w A (names σ.heap ++ E.F) vals hs.lt hs.globs hnd (fun n o h => hs.objs n o (hin _ h)) (fun n o h b hb => ⟨(hs.own n o (hin _ h) b hb).1, (hs.own n o (hin _ h) b hb).2.1⟩) hsz hvals).mono ?_
  rintro e w' ⟨v, A', res, Hout, rfl, hR, hr, hs'⟩
  obtain ⟨hdis, hsim⟩ := hs.calledI (fun n h => List.mem_append.2 h) hin hrest hrn hs'
  exact ⟨v, _, A', rfl, hk res Hout hR hdis, hsim.put d hr, fun h => Bool.noConfusion h⟩
/-- A row that is turned no more from its birth on, beside other objects. -/
theorem WL_bornH {I : List Int} {l0 l : List Oper} {K : PState → Prop} {N d : Nat} {L : List (Nat × PV)} {n : Int} {e : TypeId} {es len : Nat} {cells : List PV} {H : Heap} (hI : n ∉ I) (hc : len * es ≤ cells.length ∧ 0 < es)
    (hL : ∀ x ∈ L, frz n cells x.2 = x.2) (hH : ∀ x ∈ H, x.1 ≠ n ∧ ∀ u ∈ x.2.cells, frz1 n cells u = u ∧ u.one = true)
    (h : WL P G I l0 l ⟨fr N ((d, .list es (elemsOf es cells len)) :: L), H⟩ K) : WL P G I l0 l ⟨fr N ((d, .row n es len) :: L), (n, ⟨e, true, es, cells⟩) :: H⟩ K := by
  have hdel : del ((n, (⟨e, true, es, cells⟩ : PObj)) :: H) n = H := by
    simp only [del, if_true]
  refine WL_x ?_ h
  have h1 := Wx.freeze_f (G := G) (I := I) (N := N) (l := (d, .row n es len) :: L) (H := (n, ⟨e, true, es, cells⟩) :: H) n (o := ⟨e, true, es, cells⟩) hI (by simp only [look, if_true]) (by
    intro x hx u hu
    rw [hdel] at hx
    obtain ⟨h2, h3⟩ := (hH x hx).2 u hu
    rw [h2]
    exact h3)
  have e1 : L.map (fun x => (x.1, frz n cells x.2)) = L := by
    conv => rhs; rw [← List.map_id L]
    exact List.map_congr_left fun x hx => by rw [hL x hx]; rfl
  have e2 : frz n cells (.row n es len) = .list es (elemsOf es cells len) := by
    simp only [frz, frz1, if_true]
    rw [if_pos hc]
  have e3 : frzH n cells ((n, ⟨e, true, es, cells⟩) :: H) = H := by
    unfold frzH
    rw [hdel]
    conv => rhs; rw [← List.map_id H]
    refine List.map_congr_left fun x hx => ?_
    have h4 : x.2.cells.map (frz1 n cells) = x.2.cells := by
      conv => rhs; rw [← List.map_id x.2.cells]
      exact List.map_congr_left fun u hu => ((hH x hx).2 u hu).1
    rw [h4]
    rfl
  rw [List.map_cons, e1] at h1
  simp only [e2, e3] at h1
  exact h1
end
section
variable {P : Program} {G : Globs} {E : Amb} {A : Nat → Prop} {σ : PState} {a : Act} {w : World} {q : Bool}
/-- what comes back from a call to which the object n was lent -/
theorem Sim.lent {w' : World} {A' : Nat → Prop} {n : Int} {o : PObj} {F : List Int} (hs : Sim G E A σ a w) (hl : look σ.heap n = some o)
    (hs' : Sim G ⟨w, fun b => A b ∨ (b : Int) = n, [], F⟩ A' ⟨[], []⟩ ⟨#[], []⟩ w') : Sim G E (fun b => A' b ∧ ¬ (b : Int) = n) σ a w' := by
  have he : Ext (fun _ => False) w w' := hs'.ext.mono (fun x hx => (List.not_mem_nil hx).elim)
  have hm : ∀ b, A b → ¬ False := fun _ _ h => h
  have hA : ∀ b, A b → A' b ∧ ¬ (b : Int) = n := fun b hb => ⟨hs'.a0 b (.inl hb), fun e => (hs.own n o (look_mem hl) b e.symm).2.1 hb⟩
  have hA1 : ∀ b, A' b ∧ ¬ (b : Int) = n → A b ∨ w.heap.size ≤ b := by
    intro b ⟨hb, hn⟩
    rcases hs'.a1 b hb with (h | h) | h
    · exact .inl h
    · exact absurd h hn
    · exact .inr h
  refine ⟨hs.ext.trans he (fun _ _ h => h.elim), fun b hb => hs'.lt b hb.1, fun b hb => hA b (hs.a0 b hb), fun b hb => ?_, fun g => (hs.globs g).ext he hA hm, hs.nodup, fun m o' h => (hs.objs m o' h).ext he hA hm (fun _ _ h => h), fun m o' h b hb => ?_, hs.neg, hs.defers, hs.size, fun i p hp => ?_⟩
  · rcases hA1 b hb with h | h
    · exact hs.a1 b h
    · exact .inr (Nat.le_trans hs.ext.size h)
  · obtain ⟨q1, q2, q3⟩ := hs.own m o' h b hb
    refine ⟨Nat.lt_of_lt_of_le q1 he.size, fun hb' => ?_, q3⟩
    rcases hA1 b hb' with h | h
    · exact q2 h
    · omega
  · obtain ⟨v, hv, hr⟩ := hs.frame i p hp
    exact ⟨v, hv, hr.ext he hA hm⟩
/-- A call by contract to which the object n is lent, to be read: what comes back names no memory. -/
theorem pcall_lend {fn : FuncId} {args : List PV} {R : PV → Heap → Prop} {d : Option Tmp} {K : PState → Prop} (n : Int) (o : PObj) (hl : look σ.heap n = some o) (hc : PCalls P G fn (args.map (frz1 n o.cells)) [] R)
    (hk : ∀ res Hout, R res Hout → Hout = [] ∧ Flat res ∧ K (PState.put σ d res)) : @pcallI q P G σ d fn args ⟨K⟩ := by
  intro E A a w vals hs hsz hvals
  have hob := hs.objs n o (look_mem hl)
  have hA : ∀ b, A b → (A b ∨ (b : Int) = n) := fun b h => .inl h
  have hn : ∀ b : Nat, n = b → (A b ∨ (b : Int) = n) := fun b h => .inr h.symm
  refine (hc w (fun b => A b ∨ (b : Int) = n) (names σ.heap ++ E.F) vals ?_ (fun g => (hs.globs g).mono hA (fun _ _ _ _ h => h) (fun _ _ h => h)) (by simp) (by simp) (by simp) (by rw [List.length_map]; exact hsz) ?_).mono ?_
  · intro b hb
    rcases hb with h | h
    · exact hs.lt b h
    · exact (hs.own n o (look_mem hl) b h.symm).1
  · intro i p hp
    rw [List.getElem?_map] at hp
    cases hj : args[i]? with
    | none => rw [hj] at hp; cases hp
    | some p0 =>
      rw [hj] at hp
      cases hp
      obtain ⟨v, hv, hr⟩ := hvals i p0 hj
      exact ⟨v, hv, frz1_rep hA hn hob hr⟩
  · rintro e w' ⟨v, A', res, Hout, rfl, hR, hr, hs'⟩
    obtain ⟨rfl, hflat, hK⟩ := hk res Hout hR
    exact ⟨v, _, _, rfl, hK, (hs.lent hl hs').put d (hflat.rep hr), fun _ => keeps_of_sim hs'⟩
theorem Flat_all {cs : List PV} (h : ∀ c ∈ cs, ∃ v, c = .val v) : Flat (.agg cs) := .agg cs fun c hc => by
  obtain ⟨v, rfl⟩ := h c hc
  exact .val v
theorem Fin_cell {x : Tmp} {t : TypeId} {F : TF} {n : Int} {off : Nat} {o : PObj} {R : PV → Heap → Prop} {σ : PState} {res : PV} {H : Heap} (hF : tf P t = some F) (hx : σ.frame.getD x .junk = .ptr n off) (hl : look σ.heap n = some o)
    (hp : pload F o.cells off fun r => res = r) (h2 : Sub H σ.heap) (h3 : R res H) : Fin P [.cell x t] R .ret σ :=
  Fin_ret (show PResult P σ [.cell x t] res by
    show PRes P σ (.cell x t) res
    simp only [PRes, hF, hx, hl]
    exact hp) h2 h3
/-- Several roads come together: what follows is shown once, from a state that is less told. -/
theorem W_join {c : Code} {I : List Int} {K : Exit → PState → Prop} {nx : PState → Prop} (hnx : ∀ σ', W P G I c σ' K → nx σ') (T : PState → Prop) (hT : ∀ τ, T τ → W P G I c τ K) : ∀ σ', (∃ τ, T τ ∧ Wk σ' τ) → nx σ' :=
  fun σ' ⟨τ, h1, h2⟩ => hnx σ' (W_wk h2 (hT τ h1))
end
section
variable {P : Program} {G : Globs} {E : Amb} {A : Nat → Prop} {σ : PState} {a : Act} {w : World}
theorem Wx_bornH {I : List Int} {N d : Nat} {L : List (Nat × PV)} {n : Int} {e : TypeId} {es len : Nat} {cells : List PV} {H : Heap} (hI : n ∉ I) (hc : len * es ≤ cells.length ∧ 0 < es)
    (hL : ∀ x ∈ L, frz n cells x.2 = x.2) (hH : ∀ x ∈ H, x.1 ≠ n ∧ ∀ u ∈ x.2.cells, frz1 n cells u = u ∧ u.one = true) :
    Wx G I ⟨fr N ((d, .row n es len) :: L), (n, ⟨e, true, es, cells⟩) :: H⟩ ⟨fr N ((d, .list es (elemsOf es cells len)) :: L), H⟩ := by
  have hdel : del ((n, (⟨e, true, es, cells⟩ : PObj)) :: H) n = H := by
    simp only [del, if_true]
  have h1 := Wx.freeze_f (G := G) (I := I) (N := N) (l := (d, .row n es len) :: L) (H := (n, ⟨e, true, es, cells⟩) :: H) n (o := ⟨e, true, es, cells⟩) hI (by simp only [look, if_true]) (by
    intro x hx u hu
    rw [hdel] at hx
    obtain ⟨h2, h3⟩ := (hH x hx).2 u hu
    rw [h2]
    exact h3)
  have e1 : L.map (fun x => (x.1, frz n cells x.2)) = L := by
    conv => rhs; rw [← List.map_id L]
    exact List.map_congr_left fun x hx => by rw [hL x hx]; rfl
  have e2 : frz n cells (.row n es len) = .list es (elemsOf es cells len) := by
    simp only [frz, frz1, if_true]
    rw [if_pos hc]
  have e3 : frzH n cells ((n, ⟨e, true, es, cells⟩) :: H) = H := by
    unfold frzH
    rw [hdel]
    conv => rhs; rw [← List.map_id H]
    refine List.map_congr_left fun x hx => ?_
    have h4 : x.2.cells.map (frz1 n cells) = x.2.cells := by
      conv => rhs; rw [← List.map_id x.2.cells]
      exact List.map_congr_left fun u hu => ((hH x hx).2 u hu).1
    rw [h4]
    rfl
  rw [List.map_cons, e1] at h1
  simp only [e2, e3] at h1
  exact h1
end
/- What each walk rewrites by, as one conjunction: it keeps the texts short. -/
set_option maxRecDepth 10000 in
theorem evb : type_of% (And.intro @fr_set (And.intro @fr_getD_nil (And.intro @fr_same (And.intro @fr_other (And.intro @pguard_tt (And.intro @pguard_tf (And.intro @pguard_ft (And.intro @pguard_ff (And.intro @List.map_cons.{0, 0} (And.intro @List.map_nil.{0, 0} (And.intro @List.getD_cons_zero.{0} (And.intro @List.getD_cons_succ.{0} (And.intro @List.getD_nil.{0} (And.intro @List.getElem?_nil.{0} (And.intro @Option.join_some.{0} (And.intro @Option.join_none.{0} (And.intro @Option.map_some.{0, 0} (And.intro @Option.map_none.{0, 0} (And.intro @List.length_cons.{0} (And.intro @List.length_nil.{0} (And.intro @List.all_cons.{0} (And.intro @List.all_nil.{0} (And.intro @Bool.and_true (And.intro @Bool.true_and (And.intro @Bool.not_true (And.intro @Bool.not_false (And.intro @List.take_zero.{0} (And.intro @List.drop_zero.{0} (And.intro @List.nil_append.{0} (And.intro @List.cons_append.{0} (And.intro @List.append_nil.{0} (And.intro @Nat.zero_add (And.intro @Nat.add_zero (And.intro @Nat.mul_one (And.intro @Nat.zero_mul (And.intro @List.drop_succ_cons.{0} (And.intro @List.take_succ_cons.{0} (And.intro @List.drop_nil.{0} (And.intro @List.take_nil.{0} (And.intro @true_and (And.intro @and_true (And.intro @not_false_eq_true (And.intro @List.toList_toArray.{0} (And.intro @List.replicate_succ.{0} (And.intro @List.replicate_zero.{0} (And.intro @List.flatten_cons.{0} (And.intro @List.flatten_nil.{0} (And.intro @Int.toNat_natCast (And.intro @Int.toNat_zero (And.intro @Int.toNat_one (And.intro @bl_mk (And.intro @bl_lit (And.intro @wr64 (And.intro @toNat_add1 (And.intro @toNat_sub1 (And.intro @map_getD (And.intro @Int.natCast_nonneg (And.intro @List.length_map.{0, 0} (And.intro @Bool.not_not (And.intro @List.not_mem_nil.{0} (And.intro @Option.some.injEq.{0} (And.intro @Int.cast_ofNat_Int (And.intro @Int.natCast_zero (And.intro @List.size_toArray.{0} (And.intro @decide_true (And.intro @decide_false (And.intro @List.length_take.{0} (And.intro @List.length_append.{0} @List.length_drop.{0})))))))))))))))))))))))))))))))))))))))))))))))))))))))))))))))))))) := (And.intro @fr_set (And.intro @fr_getD_nil (And.intro @fr_same (And.intro @fr_other (And.intro @pguard_tt (And.intro @pguard_tf (And.intro @pguard_ft (And.intro @pguard_ff (And.intro @List.map_cons.{0, 0} (And.intro @List.map_nil.{0, 0} (And.intro @List.getD_cons_zero.{0} (And.intro @List.getD_cons_succ.{0} (And.intro @List.getD_nil.{0} (And.intro @List.getElem?_nil.{0} (And.intro @Option.join_some.{0} (And.intro @Option.join_none.{0} (And.intro @Option.map_some.{0, 0} (And.intro @Option.map_none.{0, 0} (And.intro @List.length_cons.{0} (And.intro @List.length_nil.{0} (And.intro @List.all_cons.{0} (And.intro @List.all_nil.{0} (And.intro @Bool.and_true (And.intro @Bool.true_and (And.intro @Bool.not_true (And.intro @Bool.not_false (And.intro @List.take_zero.{0} (And.intro @List.drop_zero.{0} (And.intro @List.nil_append.{0} (And.intro @List.cons_append.{0} (And.intro @List.append_nil.{0} (And.intro @Nat.zero_add (And.intro @Nat.add_zero (And.intro @Nat.mul_one (And.intro @Nat.zero_mul (And.intro @List.drop_succ_cons.{0} (And.intro @List.take_succ_cons.{0} (And.intro @List.drop_nil.{0} (And.intro @List.take_nil.{0} (And.intro @true_and (And.intro @and_true (And.intro @not_false_eq_true (And.intro @List.toList_toArray.{0} (And.intro @List.replicate_succ.{0} (And.intro @List.replicate_zero.{0} (And.intro @List.flatten_cons.{0} (And.intro @List.flatten_nil.{0} (And.intro @Int.toNat_natCast (And.intro @Int.toNat_zero (And.intro @Int.toNat_one (And.intro @bl_mk (And.intro @bl_lit (And.intro @wr64 (And.intro @toNat_add1 (And.intro @toNat_sub1 (And.intro @map_getD (And.intro @Int.natCast_nonneg (And.intro @List.length_map.{0, 0} (And.intro @Bool.not_not (And.intro @List.not_mem_nil.{0} (And.intro @Option.some.injEq.{0} (And.intro @Int.cast_ofNat_Int (And.intro @Int.natCast_zero (And.intro @List.size_toArray.{0} (And.intro @decide_true (And.intro @decide_false (And.intro @List.length_take.{0} (And.intro @List.length_append.{0} @List.length_drop.{0}))))))))))))))))))))))))))))))))))))))))))))))))))))))))))))))))))))
set_option maxRecDepth 10000 in
theorem hcb : type_of% (And.intro @decide_eq_true_eq (And.intro @decide_eq_false_iff_not (And.intro @and_true (And.intro @true_and (And.intro @Bool.not_eq_true (And.intro @Bool.not_eq_false (And.intro @bne_eq_false_iff_eq.{0} (And.intro @beq_eq_false_iff_ne.{0} (And.intro @Decidable.not_not (And.intro @Bool.not_eq_eq_eq_not (And.intro @Bool.not_true (And.intro @Bool.not_false (And.intro @Bool.and_eq_true (And.intro @Bool.or_eq_true (And.intro @Int.natCast_inj (And.intro @Bool.and_eq_false_iff @Bool.or_eq_false_iff)))))))))))))))) := (And.intro @decide_eq_true_eq (And.intro @decide_eq_false_iff_not (And.intro @and_true (And.intro @true_and (And.intro @Bool.not_eq_true (And.intro @Bool.not_eq_false (And.intro @bne_eq_false_iff_eq.{0} (And.intro @beq_eq_false_iff_ne.{0} (And.intro @Decidable.not_not (And.intro @Bool.not_eq_eq_eq_not (And.intro @Bool.not_true (And.intro @Bool.not_false (And.intro @Bool.and_eq_true (And.intro @Bool.or_eq_true (And.intro @Int.natCast_inj (And.intro @Bool.and_eq_false_iff @Bool.or_eq_false_iff))))))))))))))))
end Go.PM

namespace Go.PM
/-- the days of a year -/
def yearL (y : Int) : Int := if y % 4 = 0 ∧ (y % 100 ≠ 0 ∨ y % 400 = 0) then 366 else 365
/-- the days of a month -/
def lenM (y m : Int) : Int := if m = 2 then yearL y - 337 else if m = 4 ∨ m = 6 ∨ m = 9 ∨ m = 11 then 30 else 31
/-- the number of the first day of a year -/
def startI (y : Int) : Int := 365 * (y - 1) + (y - 1) / 4 - (y - 1) / 100 + (y - 1) / 400 + 1
/-- the days of a year ahead of a month -/
def cumM (y m : Int) : Int := (if 3 ≤ m then yearL y - 365 else 0) + (if m ≤ 1 then 0 else if m = 2 then 31 else if m = 3 then 59 else if m = 4 then 90 else if m = 5 then 120 else if m = 6 then 151 else if m = 7 then 181 else if m = 8 then 212 else if m = 9 then 243 else if m = 10 then 273 else if m = 11 then 304 else if m = 12 then 334 else 365)
/-- there is a date -/
def okD (y m d : Int) : Prop := 1 ≤ y ∧ y ≤ 2800 ∧ 1 ≤ m ∧ m ≤ 12 ∧ 1 ≤ d ∧ d ≤ lenM y m
instance (y m d : Int) : Decidable (okD y m d) := by unfold okD; infer_instance
/-- the number of a date -/
def dayN (y m d : Int) : Int := startI y + cumM y m + d - 1
theorem yearL_two (y : Int) : yearL y = 365 ∨ yearL y = 366 := by
  unfold yearL
  split <;> simp
theorem startI_succ (y : Int) : startI (y + 1) = startI y + yearL y := by
  unfold startI yearL
  split <;> omega
theorem startI_mono {y z : Int} (h : y ≤ z) : startI y ≤ startI z := by
  unfold startI
  omega
theorem m_cases {m : Int} (h1 : 1 ≤ m) (h2 : m ≤ 12) : m = 1 ∨ m = 2 ∨ m = 3 ∨ m = 4 ∨ m = 5 ∨ m = 6 ∨ m = 7 ∨ m = 8 ∨ m = 9 ∨ m = 10 ∨ m = 11 ∨ m = 12 := by omega
theorem cumM_succ (y : Int) {m : Int} (h1 : 1 ≤ m) (h2 : m ≤ 12) : cumM y (m + 1) = cumM y m + lenM y m := by
  rcases m_cases h1 h2 with rfl | rfl | rfl | rfl | rfl | rfl | rfl | rfl | rfl | rfl | rfl | rfl <;> simp [cumM, lenM] <;> omega
theorem cumM_one (y : Int) : cumM y 1 = 0 := by simp [cumM]
theorem cumM_13 (y : Int) : cumM y 13 = yearL y := by simp [cumM]
theorem lenM_pos (y : Int) {m : Int} (h1 : 1 ≤ m) (h2 : m ≤ 12) : 28 ≤ lenM y m ∧ lenM y m ≤ 31 := by
  have := yearL_two y
  rcases m_cases h1 h2 with rfl | rfl | rfl | rfl | rfl | rfl | rfl | rfl | rfl | rfl | rfl | rfl <;> simp [lenM] <;> omega
theorem cumM_mono (y : Int) {m k : Int} (h1 : 1 ≤ m) (h2 : m ≤ k) (h3 : k ≤ 13) : cumM y m ≤ cumM y k := by
  have := yearL_two y
  unfold cumM
  omega
theorem dayN_lo {y m d : Int} (h : okD y m d) : startI y ≤ dayN y m d := by
  obtain ⟨_, _, h1, h2, h3, _⟩ := h
  have := cumM_mono y (m := 1) (k := m) (by omega) h1 (by omega)
  rw [cumM_one] at this
  unfold dayN
  omega
theorem dayN_hi {y m d : Int} (h : okD y m d) : dayN y m d < startI (y + 1) := by
  obtain ⟨_, _, h1, h2, h3, h4⟩ := h
  have h5 := cumM_mono y (m := m + 1) (k := 13) (by omega) (by omega) (by omega)
  rw [cumM_13, cumM_succ y h1 h2] at h5
  rw [startI_succ]
  unfold dayN
  omega
theorem dayN_inj {y m d y' m' d' : Int} (h : okD y m d) (h' : okD y' m' d') (e : dayN y m d = dayN y' m' d') : y = y' ∧ m = m' ∧ d = d' := by
  have a1 := dayN_lo h
  have a2 := dayN_hi h
  have b1 := dayN_lo h'
  have b2 := dayN_hi h'
  have hy : y = y' := by
    rcases Int.lt_trichotomy y y' with hl | hl | hl
    · have := startI_mono (y := y + 1) (z := y') (by omega)
      omega
    · exact hl
    · have := startI_mono (y := y' + 1) (z := y) (by omega)
      omega
  subst hy
  obtain ⟨_, _, h1, h2, h3, h4⟩ := h
  obtain ⟨_, _, h1', h2', h3', h4'⟩ := h'
  unfold dayN at e
  have hm : m = m' := by
    rcases Int.lt_trichotomy m m' with hl | hl | hl
    · have := cumM_mono y (m := m + 1) (k := m') (by omega) (by omega) (by omega)
      rw [cumM_succ y h1 h2] at this
      omega
    · exact hl
    · have := cumM_mono y (m := m' + 1) (k := m) (by omega) (by omega) (by omega)
      rw [cumM_succ y h1' h2'] at this
      omega
  subst hm
  exact ⟨rfl, rfl, by omega⟩
/-- the date of a day -/
def yearF (n : Int) : Int := if startI ((n - 1) * 400 / 146097 + 1) > n then (n - 1) * 400 / 146097 else if startI ((n - 1) * 400 / 146097 + 2) ≤ n then (n - 1) * 400 / 146097 + 2 else (n - 1) * 400 / 146097 + 1
theorem yearF_lo {n : Int} (h : 1 ≤ n) : startI (yearF n) ≤ n := by
  unfold yearF
  unfold startI
  split
  · omega
  · split <;> omega
theorem year_far (n q A B C : Int) (h1 : 400 * (n - 1) < 146097 * q + 146097) (h2 : q + 2 ≤ 4 * A + 3) (h3 : 100 * B ≤ q + 2) (h4 : q + 2 ≤ 400 * C + 399) : n < 365 * (q + 2) + A - B + C + 1 := by omega
theorem yearF_hi {n : Int} (h : 1 ≤ n) : n < startI (yearF n + 1) := by
  unfold yearF
  generalize hq : (n - 1) * 400 / 146097 = q
  split
  · assumption
  · split
    · have := year_far n q ((q + 2) / 4) ((q + 2) / 100) ((q + 2) / 400) (by omega) (by omega) (by omega) (by omega)
      unfold startI
      rw [show q + 2 + 1 - 1 = q + 2 by omega]
      exact this
    · rename_i h1 h2
      rw [show q + 1 + 1 = q + 2 by omega]
      omega
def restF (n : Int) : Int := n - startI (yearF n)
def monthF (y r : Int) : Int := if r < cumM y 2 then 1 else if r < cumM y 3 then 2 else if r < cumM y 4 then 3 else if r < cumM y 5 then 4 else if r < cumM y 6 then 5 else if r < cumM y 7 then 6 else if r < cumM y 8 then 7 else if r < cumM y 9 then 8 else if r < cumM y 10 then 9 else if r < cumM y 11 then 10 else if r < cumM y 12 then 11 else 12
theorem monthF_ok (y : Int) {r : Int} (h1 : 0 ≤ r) (h2 : r < yearL y) : 1 ≤ monthF y r ∧ monthF y r ≤ 12 ∧ cumM y (monthF y r) ≤ r ∧ r < cumM y (monthF y r) + lenM y (monthF y r) := by
  have hy := yearL_two y
  simp only [monthF]
  repeat' split
  all_goals simp [cumM, lenM] at *
  all_goals omega
def dY (n : Int) : Int := yearF n
def dM (n : Int) : Int := monthF (yearF n) (restF n)
def dD (n : Int) : Int := restF n - cumM (yearF n) (dM n) + 1
theorem date_ok {n : Int} (h1 : 1 ≤ n) (h2 : n ≤ 1022679) : okD (dY n) (dM n) (dD n) ∧ dayN (dY n) (dM n) (dD n) = n := by
  have a := yearF_lo h1
  have b := yearF_hi h1
  have c := startI_succ (yearF n)
  obtain ⟨m1, m2, m3, m4⟩ := monthF_ok (yearF n) (r := restF n) (by unfold restF; omega) (by unfold restF; omega)
  have hy1 : 1 ≤ yearF n := by
    rcases Int.lt_or_le (yearF n) 1 with h | h
    · have := startI_mono (y := yearF n + 1) (z := 1) (by omega)
      rw [show startI 1 = 1 by rfl] at this
      omega
    · exact h
  have hy2 : yearF n ≤ 2800 := by
    rcases Int.lt_or_le 2800 (yearF n) with h | h
    · have := startI_mono (y := 2801) (z := yearF n) (by omega)
      rw [show startI 2801 = 1022680 by rfl] at this
      omega
    · exact h
  refine ⟨⟨hy1, hy2, m1, m2, ?_, ?_⟩, ?_⟩
  · unfold dD dM; omega
  · unfold dD dY dM; omega
  · unfold dayN dD dY dM restF; omega
theorem date_eq {y m d n : Int} (h : okD y m d) (e : dayN y m d = n) : dY n = y ∧ dM n = m ∧ dD n = d := by
  subst e
  have h1 : 1 ≤ dayN y m d := by
    have a := dayN_lo h
    have b := startI_mono h.1
    rw [show startI 1 = 1 by rfl] at b
    omega
  have h2 : dayN y m d ≤ 1022679 := by
    have a := dayN_hi h
    have b := startI_mono (y := y + 1) (z := 2801) (by have := h.2.1; omega)
    rw [show startI 2801 = 1022680 by rfl] at b
    omega
  obtain ⟨a, b⟩ := date_ok h1 h2
  exact dayN_inj a h b
end Go.PM

namespace Go.PM
open Go.Proofs
theorem Tryd.tf0 : tf Tryd.prog 0 = some ⟨.other, 1, 0, false, some (.tuple #[])⟩ := by kernel_rfl
theorem Tryd.tf1 : tf Tryd.prog 1 = some ⟨.func, 1, 8, false, some (.nilFunc)⟩ := by kernel_rfl
theorem Tryd.tf2 : tf Tryd.prog 2 = some ⟨.int .i64, 1, 8, false, some (.int .i64 0)⟩ := by kernel_rfl
theorem Tryd.tf3 : tf Tryd.prog 3 = some ⟨.int .i64, 1, 8, false, some (.int .i64 0)⟩ := by kernel_rfl
theorem Tryd.tf4 : tf Tryd.prog 4 = some ⟨.bool, 1, 1, false, some (.bool false)⟩ := by kernel_rfl
theorem Tryd.tf5 : tf Tryd.prog 5 = some ⟨.int .u8, 1, 1, false, some (.int .u8 0)⟩ := by kernel_rfl
theorem Tryd.tf9 : tf Tryd.prog 9 = some ⟨.string, 1, 16, false, some (.string ⟨#[]⟩)⟩ := by kernel_rfl
theorem Tryd.tf22 : tf Tryd.prog 22 = some ⟨.int .i64, 1, 8, false, some (.int .i64 0)⟩ := by kernel_rfl
theorem Tryd.tf23 : tf Tryd.prog 23 = some ⟨.other, 1, 0, false, some (.tuple #[.int .i64 0, .int .i64 0])⟩ := by kernel_rfl
theorem Tryd.tf25 : tf Tryd.prog 25 = some ⟨.other, 1, 0, false, some (.tuple #[.int .i64 0, .int .i64 0, .int .i64 0, .int .i64 0])⟩ := by kernel_rfl
theorem Tryd.tf30 : tf Tryd.prog 30 = some ⟨.struct [(0, 1, false), (1, 1, false)], 2, 16, true, some (.agg #[.int .i64 0, .int .i64 0])⟩ := by kernel_rfl
theorem Tryd.teq30 : teq Tryd.prog 30 = some [.int .i64, .int .i64] := by kernel_rfl
theorem Tryd.tf31 : tf Tryd.prog 31 = some ⟨.other, 1, 0, false, some (.tuple #[.agg #[.int .i64 0, .int .i64 0], .int .i64 0])⟩ := by kernel_rfl
theorem Tryd.tf41 : tf Tryd.prog 41 = some ⟨.slice 3 1 8, 1, 24, false, some (.slice none 0 0)⟩ := by kernel_rfl
theorem Tryd.tf42 : tf Tryd.prog 42 = some ⟨.slice 30 2 16, 1, 24, false, some (.slice none 0 0)⟩ := by kernel_rfl
theorem Tryd.tf44 : tf Tryd.prog 44 = some ⟨.other, 1, 0, false, some (.tuple #[.agg #[.int .i64 0, .int .i64 0], .bool false])⟩ := by kernel_rfl
theorem Tryd.tf52 : tf Tryd.prog 52 = some ⟨.slice 9 1 16, 1, 24, false, some (.slice none 0 0)⟩ := by kernel_rfl
theorem Tryd.tf53 : tf Tryd.prog 53 = some ⟨.slice 5 1 1, 1, 24, false, some (.slice none 0 0)⟩ := by kernel_rfl
theorem Tryd.tf55 : tf Tryd.prog 55 = some ⟨.other, 1, 0, false, some (.tuple #[.slice none 0 0, .int .i64 0, .int .i64 0])⟩ := by kernel_rfl
theorem Tryd.teq57 : teq Tryd.prog 57 = some (List.replicate 16 (.int .u8)) := by kernel_rfl
theorem Tryd.tf58 : tf Tryd.prog 58 = some ⟨.array 16 5 1 false, 16, 16, true, some (.agg #[.int .u8 0, .int .u8 0, .int .u8 0, .int .u8 0, .int .u8 0, .int .u8 0, .int .u8 0, .int .u8 0, .int .u8 0, .int .u8 0, .int .u8 0, .int .u8 0, .int .u8 0, .int .u8 0, .int .u8 0, .int .u8 0])⟩ := by kernel_rfl
theorem Tryd.teq58 : teq Tryd.prog 58 = some (List.replicate 16 (.int .u8)) := by kernel_rfl
theorem Tryd.tf63 : tf Tryd.prog 63 = some ⟨.other, 1, 0, false, some (.tuple #[.string ⟨#[]⟩, .bool false])⟩ := by kernel_rfl
theorem Tryd.tf65 : tf Tryd.prog 65 = some ⟨.other, 1, 0, false, some (.tuple #[.int .i64 0, .bool false])⟩ := by kernel_rfl
theorem Tryd.tf67 : tf Tryd.prog 67 = some ⟨.other, 1, 0, false, some (.tuple #[.string ⟨#[]⟩, .string ⟨#[]⟩, .bool false])⟩ := by kernel_rfl
theorem Tryd.tf74 : tf Tryd.prog 74 = some ⟨.other, 1, 0, false, some (.tuple #[.int .i64 0, .int .i64 0, .int .i64 0])⟩ := by kernel_rfl
theorem Tryd.tf76 : tf Tryd.prog 76 = some ⟨.other, 1, 0, false, some (.tuple #[.string ⟨#[]⟩, .int .i64 0, .int .i64 0])⟩ := by kernel_rfl
theorem Tryd.tf78 : tf Tryd.prog 78 = some ⟨.int .u32, 1, 4, false, some (.int .u32 0)⟩ := by kernel_rfl
theorem Tryd.tf79 : tf Tryd.prog 79 = some ⟨.array 8 78 1 false, 8, 32, true, some (.agg #[.int .u32 0, .int .u32 0, .int .u32 0, .int .u32 0, .int .u32 0, .int .u32 0, .int .u32 0, .int .u32 0])⟩ := by kernel_rfl
theorem Tryd.teq79 : teq Tryd.prog 79 = some (List.replicate 8 (.int .u32)) := by kernel_rfl
theorem Tryd.tf80 : tf Tryd.prog 80 = some ⟨.array 64 5 1 false, 64, 64, true, some (.agg #[.int .u8 0, .int .u8 0, .int .u8 0, .int .u8 0, .int .u8 0, .int .u8 0, .int .u8 0, .int .u8 0, .int .u8 0, .int .u8 0, .int .u8 0, .int .u8 0, .int .u8 0, .int .u8 0, .int .u8 0, .int .u8 0, .int .u8 0, .int .u8 0, .int .u8 0, .int .u8 0, .int .u8 0, .int .u8 0, .int .u8 0, .int .u8 0, .int .u8 0, .int .u8 0, .int .u8 0, .int .u8 0, .int .u8 0, .int .u8 0, .int .u8 0, .int .u8 0, .int .u8 0, .int .u8 0, .int .u8 0, .int .u8 0, .int .u8 0, .int .u8 0, .int .u8 0, .int .u8 0, .int .u8 0, .int .u8 0, .int .u8 0, .int .u8 0, .int .u8 0, .int .u8 0, .int .u8 0, .int .u8 0, .int .u8 0, .int .u8 0, .int .u8 0, .int .u8 0, .int .u8 0, .int .u8 0, .int .u8 0, .int .u8 0, .int .u8 0, .int .u8 0, .int .u8 0, .int .u8 0, .int .u8 0, .int .u8 0, .int .u8 0, .int .u8 0])⟩ := by kernel_rfl
theorem Tryd.teq80 : teq Tryd.prog 80 = some (List.replicate 64 (.int .u8)) := by kernel_rfl
theorem Tryd.tf81 : tf Tryd.prog 81 = some ⟨.int .u64, 1, 8, false, some (.int .u64 0)⟩ := by kernel_rfl
theorem Tryd.tf83 : tf Tryd.prog 83 = some ⟨.struct [(0, 8, true), (8, 64, true), (72, 1, false)], 73, 104, true, some (.agg #[.int .u32 0, .int .u32 0, .int .u32 0, .int .u32 0, .int .u32 0, .int .u32 0, .int .u32 0, .int .u32 0, .int .u8 0, .int .u8 0, .int .u8 0, .int .u8 0, .int .u8 0, .int .u8 0, .int .u8 0, .int .u8 0, .int .u8 0, .int .u8 0, .int .u8 0, .int .u8 0, .int .u8 0, .int .u8 0, .int .u8 0, .int .u8 0, .int .u8 0, .int .u8 0, .int .u8 0, .int .u8 0, .int .u8 0, .int .u8 0, .int .u8 0, .int .u8 0, .int .u8 0, .int .u8 0, .int .u8 0, .int .u8 0, .int .u8 0, .int .u8 0, .int .u8 0, .int .u8 0, .int .u8 0, .int .u8 0, .int .u8 0, .int .u8 0, .int .u8 0, .int .u8 0, .int .u8 0, .int .u8 0, .int .u8 0, .int .u8 0, .int .u8 0, .int .u8 0, .int .u8 0, .int .u8 0, .int .u8 0, .int .u8 0, .int .u8 0, .int .u8 0, .int .u8 0, .int .u8 0, .int .u8 0, .int .u8 0, .int .u8 0, .int .u8 0, .int .u8 0, .int .u8 0, .int .u8 0, .int .u8 0, .int .u8 0, .int .u8 0, .int .u8 0, .int .u8 0, .int .u64 0])⟩ := by kernel_rfl
theorem Tryd.tf86 : tf Tryd.prog 86 = some ⟨.array 32 5 1 false, 32, 32, true, some (.agg #[.int .u8 0, .int .u8 0, .int .u8 0, .int .u8 0, .int .u8 0, .int .u8 0, .int .u8 0, .int .u8 0, .int .u8 0, .int .u8 0, .int .u8 0, .int .u8 0, .int .u8 0, .int .u8 0, .int .u8 0, .int .u8 0, .int .u8 0, .int .u8 0, .int .u8 0, .int .u8 0, .int .u8 0, .int .u8 0, .int .u8 0, .int .u8 0, .int .u8 0, .int .u8 0, .int .u8 0, .int .u8 0, .int .u8 0, .int .u8 0, .int .u8 0, .int .u8 0])⟩ := by kernel_rfl
theorem Tryd.teq86 : teq Tryd.prog 86 = some (List.replicate 32 (.int .u8)) := by kernel_rfl
theorem Tryd.tf88 : tf Tryd.prog 88 = some ⟨.array 12 3 1 false, 12, 96, true, some (.agg #[.int .i64 0, .int .i64 0, .int .i64 0, .int .i64 0, .int .i64 0, .int .i64 0, .int .i64 0, .int .i64 0, .int .i64 0, .int .i64 0, .int .i64 0, .int .i64 0])⟩ := by kernel_rfl
theorem Tryd.teq88 : teq Tryd.prog 88 = some (List.replicate 12 (.int .i64)) := by kernel_rfl
theorem Tryd.tf89 : tf Tryd.prog 89 = some ⟨.func, 1, 8, false, some (.nilFunc)⟩ := by kernel_rfl
theorem Tryd.tf95 : tf Tryd.prog 95 = some ⟨.int .u64, 1, 8, false, some (.int .u64 0)⟩ := by kernel_rfl
theorem Tryd.tf96 : tf Tryd.prog 96 = some ⟨.array 64 78 1 false, 64, 256, true, some (.agg #[.int .u32 0, .int .u32 0, .int .u32 0, .int .u32 0, .int .u32 0, .int .u32 0, .int .u32 0, .int .u32 0, .int .u32 0, .int .u32 0, .int .u32 0, .int .u32 0, .int .u32 0, .int .u32 0, .int .u32 0, .int .u32 0, .int .u32 0, .int .u32 0, .int .u32 0, .int .u32 0, .int .u32 0, .int .u32 0, .int .u32 0, .int .u32 0, .int .u32 0, .int .u32 0, .int .u32 0, .int .u32 0, .int .u32 0, .int .u32 0, .int .u32 0, .int .u32 0, .int .u32 0, .int .u32 0, .int .u32 0, .int .u32 0, .int .u32 0, .int .u32 0, .int .u32 0, .int .u32 0, .int .u32 0, .int .u32 0, .int .u32 0, .int .u32 0, .int .u32 0, .int .u32 0, .int .u32 0, .int .u32 0, .int .u32 0, .int .u32 0, .int .u32 0, .int .u32 0, .int .u32 0, .int .u32 0, .int .u32 0, .int .u32 0, .int .u32 0, .int .u32 0, .int .u32 0, .int .u32 0, .int .u32 0, .int .u32 0, .int .u32 0, .int .u32 0])⟩ := by kernel_rfl
theorem Tryd.teq96 : teq Tryd.prog 96 = some (List.replicate 64 (.int .u32)) := by kernel_rfl
theorem Tryd.tf98 : tf Tryd.prog 98 = some ⟨.array 4 78 1 false, 4, 16, true, some (.agg #[.int .u32 0, .int .u32 0, .int .u32 0, .int .u32 0])⟩ := by kernel_rfl
theorem Tryd.teq98 : teq Tryd.prog 98 = some (List.replicate 4 (.int .u32)) := by kernel_rfl
theorem Tryd.tf99 : tf Tryd.prog 99 = some ⟨.slice 78 1 4, 1, 24, false, some (.slice none 0 0)⟩ := by kernel_rfl
theorem Tryd.call12 : callable Tryd.prog 12 = true := by kernel_rfl
theorem Tryd.call13 : callable Tryd.prog 13 = true := by kernel_rfl
theorem Tryd.call14 : callable Tryd.prog 14 = true := by kernel_rfl
theorem Tryd.call15 : callable Tryd.prog 15 = true := by kernel_rfl
theorem Tryd.call16 : callable Tryd.prog 16 = true := by kernel_rfl
theorem Tryd.call17 : callable Tryd.prog 17 = true := by kernel_rfl
theorem Tryd.call19 : callable Tryd.prog 19 = true := by kernel_rfl
theorem Tryd.call20 : callable Tryd.prog 20 = true := by kernel_rfl
theorem Tryd.call22 : callable Tryd.prog 22 = true := by kernel_rfl
theorem Tryd.call23 : callable Tryd.prog 23 = true := by kernel_rfl
theorem Tryd.call24 : callable Tryd.prog 24 = true := by kernel_rfl
theorem Tryd.call25 : callable Tryd.prog 25 = true := by kernel_rfl
theorem Tryd.call33 : callable Tryd.prog 33 = true := by kernel_rfl
theorem Tryd.call34 : callable Tryd.prog 34 = true := by kernel_rfl
theorem Tryd.call35 : callable Tryd.prog 35 = true := by kernel_rfl
theorem Tryd.call36 : callable Tryd.prog 36 = true := by kernel_rfl
theorem Tryd.call37 : callable Tryd.prog 37 = true := by kernel_rfl
theorem Tryd.call38 : callable Tryd.prog 38 = true := by kernel_rfl
theorem Tryd.call39 : callable Tryd.prog 39 = true := by kernel_rfl
theorem Tryd.call40 : callable Tryd.prog 40 = true := by kernel_rfl
theorem Tryd.call41 : callable Tryd.prog 41 = true := by kernel_rfl
theorem Tryd.call42 : callable Tryd.prog 42 = true := by kernel_rfl
theorem Tryd.call43 : callable Tryd.prog 43 = true := by kernel_rfl
theorem Tryd.call44 : callable Tryd.prog 44 = true := by kernel_rfl
theorem Tryd.call45 : callable Tryd.prog 45 = true := by kernel_rfl
theorem Tryd.call48 : callable Tryd.prog 48 = true := by kernel_rfl
theorem Tryd.call49 : callable Tryd.prog 49 = true := by kernel_rfl
theorem Tryd.call50 : callable Tryd.prog 50 = true := by kernel_rfl
theorem Tryd.call52 : callable Tryd.prog 52 = true := by kernel_rfl
theorem Tryd.call53 : callable Tryd.prog 53 = true := by kernel_rfl
theorem Tryd.call54 : callable Tryd.prog 54 = true := by kernel_rfl
theorem Tryd.call55 : callable Tryd.prog 55 = true := by kernel_rfl
theorem Tryd.call56 : callable Tryd.prog 56 = true := by kernel_rfl
theorem Tryd.call57 : callable Tryd.prog 57 = true := by kernel_rfl
theorem Tryd.call58 : callable Tryd.prog 58 = true := by kernel_rfl
theorem Tryd.call59 : callable Tryd.prog 59 = true := by kernel_rfl
theorem Tryd.call60 : callable Tryd.prog 60 = true := by kernel_rfl
theorem Tryd.call61 : callable Tryd.prog 61 = true := by kernel_rfl
theorem Tryd.call64 : callable Tryd.prog 64 = true := by kernel_rfl
theorem Tryd.call65 : callable Tryd.prog 65 = true := by kernel_rfl
theorem Tryd.call66 : callable Tryd.prog 66 = true := by kernel_rfl
theorem Tryd.call67 : callable Tryd.prog 67 = true := by kernel_rfl
theorem Tryd.call68 : callable Tryd.prog 68 = true := by kernel_rfl
theorem Tryd.call69 : callable Tryd.prog 69 = true := by kernel_rfl
theorem Tryd.call70 : callable Tryd.prog 70 = true := by kernel_rfl
theorem Tryd.call74 : callable Tryd.prog 74 = true := by kernel_rfl
end Go.PM

namespace Go.PM
open Go.Proofs
attribute [local irreducible] W PCalls pcall pcallI WL
/-- The lengths of the months of a common year, as the program keeps them. -/
def LN : List PV := [pint .i64 31, pint .i64 28, pint .i64 31, pint .i64 30, pint .i64 31, pint .i64 30, pint .i64 31, pint .i64 31, pint .i64 30, pint .i64 31, pint .i64 30, pint .i64 31]
/-- The program's table. -/
@[reducible] def GL (G : Globs) : Prop := G 0 = .iptr LN 0
set_option maxRecDepth 100000 in
set_option maxHeartbeats 8000000 in
theorem len_c (G : Globs) (hG : GL G) (y m : Int) (hy : 1 ≤ y) (hy2 : y ≤ 4000) (h1 : 1 ≤ m) (h2 : m ≤ 12) :
    PCalls Tryd.prog G 36 [pint .i64 y, pint .i64 m] [] (fun res H => res = pint .i64 (lenM y m) ∧ H = []) := by
  have t4 : y.tmod 4 = y % 4 := Int.tmod_eq_emod_of_nonneg (by omega)
  have t100 : y.tmod 100 = y % 100 := Int.tmod_eq_emod_of_nonneg (by omega)
  have t400 : y.tmod 400 = y % 400 := Int.tmod_eq_emod_of_nonneg (by omega)
  have hG : G 0 = .iptr LN 0 := hG
  simp only [LN] at hG
  rcases m_cases h1 h2 with rfl | rfl | rfl | rfl | rfl | rfl | rfl | rfl | rfl | rfl | rfl | rfl
  all_goals
    (refine PCalls_f Tryd.func36 rfl Tryd.ntmps36 Tryd.results36 (by simp) fun fin hfin => ?_; have hnm : True := trivial; simp (maxSteps := 2000000) (disch := omega) only [evb, ↓popG_eq, ↓pop.eq_1, ↓List.getElem?_map, ↓List.getElem?_cons_zero, ↓List.getElem?_cons_succ, pbuiltin, opnd, constPV, PState.put, layFrom, List.set, pnck, seqK, blockK, scopeK, pbin, pun, ppick, plen, pldop, pload, pfaddr, piaddr, pindex, pfield, pslice, pbound, pconv, pelems, pextract, pmm, parr, pbuild, pfill, PV.mem?, PV.one, PV.cells, pageq, peqs, peq1, palloc, pbox, pbuildS, pmakes, pstore, pappend, pcopy, pbytes, pmark, psrc, vcells, Value.oneCell', look, upd, del, names, Nat.reduceAdd, Nat.reduceMul, Nat.reduceSub, Nat.reduceLeDiff, Nat.reduceEqDiff, ↓reduceIte, ne_eq, reduceCtorEq, forall_const, times, Value.cells, exists_and_left, exists_eq_left', eq_self, Nat.reduceLT, Int.reduceLT, Int.reduceLE, Int.reduceToNat, Int.reduceAdd, Int.reduceSub, Int.reduceNeg, hnm, Tryd.tf0, Tryd.tf3, Tryd.tf4, Tryd.teq30, Tryd.teq57, Tryd.teq58, Tryd.teq79, Tryd.teq80, Tryd.teq86, Tryd.tf88, Tryd.teq88, Tryd.teq96, Tryd.teq98])
    repeat' (first
    | (with_reducible apply W_seq_k; intro nx hnx)
    | with_reducible apply W_block
    | with_reducible apply W_scope
    | (with_reducible refine W_prune 19 ?_; simp only [prune_cons, prune_nil, Nat.reducePow, Nat.reduceDiv, Nat.reduceMod, Nat.reduceBEq, cond_true, cond_false]; with_reducible apply W_region_l)
    | ((first | (with_reducible apply WL_op; intro nx hnx) | with_reducible refine Ev_out ?_); try (simp (maxSteps := 2000000) (disch := omega) only [evb, ↓popG_eq, ↓pop.eq_1, ↓List.getElem?_map, ↓List.getElem?_cons_zero, ↓List.getElem?_cons_succ, pbuiltin, opnd, constPV, PState.put, layFrom, List.set, pnck, seqK, blockK, scopeK, pbin, pun, ppick, plen, pldop, pload, pfaddr, piaddr, pindex, pfield, pslice, pbound, pconv, pelems, pextract, pmm, parr, pbuild, pfill, PV.mem?, PV.one, PV.cells, pageq, peqs, peq1, palloc, pbox, pbuildS, pmakes, pstore, pappend, pcopy, pbytes, pmark, psrc, vcells, Value.oneCell', look, upd, del, names, Nat.reduceAdd, Nat.reduceMul, Nat.reduceSub, Nat.reduceLeDiff, Nat.reduceEqDiff, ↓reduceIte, ne_eq, reduceCtorEq, forall_const, times, Value.cells, exists_and_left, exists_eq_left', eq_self, Nat.reduceLT, Int.reduceLT, Int.reduceLE, Int.reduceToNat, Int.reduceAdd, Int.reduceSub, Int.reduceNeg, hnm, Tryd.tf0, Tryd.tf3, Tryd.tf4, Tryd.teq30, Tryd.teq57, Tryd.teq58, Tryd.teq79, Tryd.teq80, Tryd.teq86, Tryd.tf88, Tryd.teq88, Tryd.teq96, Tryd.teq98, hG, t4, t100, t400]); repeat (refine And.intro (by omega) ?_))
    | ((first | with_reducible apply WL_nil | with_reducible apply W_label | with_reducible apply W_skip | with_reducible apply W_exit | with_reducible apply W_ret); try simp only [seqK, blockK, scopeK, ↓reduceIte, Nat.reduceEqDiff])
    | (with_reducible apply pguard_intro <;> (intro hc; (try simp only [hcb, reduceCtorEq, false_implies, true_implies, forall_const, bne_iff_ne, beq_iff_eq, ne_eq] at hc); first | (exfalso; omega) | (exfalso; exact hc trivial) | refine Ev_in ?_))
    | (with_reducible apply W_cond_k; intro _ _ ea eb; (simp only [condK, not_true_eq_false, not_false_eq_true, opnd, constPV, List.getD_cons_zero, List.getD_cons_succ, fr_getD_cons, fr_getD_nil, Nat.reduceEqDiff, Nat.reduceLT, ↓reduceIte, hcb, reduceCtorEq, false_implies, true_implies, forall_const, bne_iff_ne, beq_iff_eq, ne_eq]); subst ea eb; first | (refine ⟨fun hc => ?_, fun hc => ?_⟩ <;> first | (exfalso; omega) | (exfalso; exact hc trivial) | skip) | skip)
    | (with_reducible apply hnx; clear hnx nx)
    | (with_reducible refine And.intro (by omega) ?_)
    | (with_reducible refine And.intro ?_ ?_)
    | (clear hnx nx; with_reducible apply hnx; clear hnx nx)
    | (clear hnx nx; clear hnx nx; with_reducible apply hnx; clear hnx nx)
    | (clear hnx nx; clear hnx nx; clear hnx nx; with_reducible apply hnx; clear hnx nx))
  all_goals first
    | (refine hfin _ _ (Fin_ret1 rfl (Sub_nil _) ?_); simp only [List.getD_cons_zero, List.getD_cons_succ, fr_getD_cons, fr_getD_nil, Nat.reduceEqDiff, Nat.reduceLT, ↓reduceIte]; first | trivial | exact ⟨rfl, by trivial⟩ | (simp; done) | (simp; omega))
    | (refine hfin _ _ (Fin_ret1 rfl (Sub_nil _) ?_); simp only [List.getD_cons_zero, List.getD_cons_succ, fr_getD_cons, fr_getD_nil, Nat.reduceEqDiff, Nat.reduceLT, ↓reduceIte]
       simp only [lenM, yearL, if_true]
       refine ⟨?_, trivial⟩
       first
         | rw [if_pos (by omega)]
         | rw [if_neg (by omega)]
       rfl)
set_option maxRecDepth 100000 in
set_option maxHeartbeats 8000000 in
theorem start_c (G : Globs) (y : Int) (hy : 1 ≤ y) (hy2 : y ≤ 4000) :
    PCalls Tryd.prog G 37 [pint .i64 y] [] (fun res H => res = pint .i64 (startI y) ∧ H = []) := by
  have t4 : (y - 1).tdiv 4 = (y - 1) / 4 := Int.tdiv_eq_ediv_of_nonneg (by omega)
  have t100 : (y - 1).tdiv 100 = (y - 1) / 100 := Int.tdiv_eq_ediv_of_nonneg (by omega)
  have t400 : (y - 1).tdiv 400 = (y - 1) / 400 := Int.tdiv_eq_ediv_of_nonneg (by omega)
  have hst : 365 * (y - 1) + (y - 1) / 4 - (y - 1) / 100 + (y - 1) / 400 + 1 = startI y := rfl
  (refine PCalls_f Tryd.func37 rfl Tryd.ntmps37 Tryd.results37 (by simp) fun fin hfin => ?_; have hnm : True := trivial; simp (maxSteps := 2000000) (disch := omega) only [evb, ↓popG_eq, ↓pop.eq_1, ↓List.getElem?_map, ↓List.getElem?_cons_zero, ↓List.getElem?_cons_succ, pbuiltin, opnd, constPV, PState.put, layFrom, List.set, pnck, seqK, blockK, scopeK, pbin, pun, ppick, plen, pldop, pload, pfaddr, piaddr, pindex, pfield, pslice, pbound, pconv, pelems, pextract, pmm, parr, pbuild, pfill, PV.mem?, PV.one, PV.cells, pageq, peqs, peq1, palloc, pbox, pbuildS, pmakes, pstore, pappend, pcopy, pbytes, pmark, psrc, vcells, Value.oneCell', look, upd, del, names, Nat.reduceAdd, Nat.reduceMul, Nat.reduceSub, Nat.reduceLeDiff, Nat.reduceEqDiff, ↓reduceIte, ne_eq, reduceCtorEq, forall_const, times, Value.cells, exists_and_left, exists_eq_left', eq_self, Nat.reduceLT, Int.reduceLT, Int.reduceLE, Int.reduceToNat, Int.reduceAdd, Int.reduceSub, Int.reduceNeg, hnm, Tryd.tf3, Tryd.teq30, Tryd.teq57, Tryd.teq58, Tryd.teq79, Tryd.teq80, Tryd.teq86, Tryd.teq88, Tryd.teq96, Tryd.teq98])
  repeat' (first
    | (with_reducible apply W_seq_k; intro nx hnx)
    | with_reducible apply W_block
    | with_reducible apply W_scope
    | (with_reducible refine W_prune 13 ?_; simp only [prune_cons, prune_nil, Nat.reducePow, Nat.reduceDiv, Nat.reduceMod, Nat.reduceBEq, cond_true, cond_false]; with_reducible apply W_region_l)
    | ((first | (with_reducible apply WL_op; intro nx hnx) | with_reducible refine Ev_out ?_); try (simp (maxSteps := 2000000) (disch := omega) only [evb, ↓popG_eq, ↓pop.eq_1, ↓List.getElem?_map, ↓List.getElem?_cons_zero, ↓List.getElem?_cons_succ, pbuiltin, opnd, constPV, PState.put, layFrom, List.set, pnck, seqK, blockK, scopeK, pbin, pun, ppick, plen, pldop, pload, pfaddr, piaddr, pindex, pfield, pslice, pbound, pconv, pelems, pextract, pmm, parr, pbuild, pfill, PV.mem?, PV.one, PV.cells, pageq, peqs, peq1, palloc, pbox, pbuildS, pmakes, pstore, pappend, pcopy, pbytes, pmark, psrc, vcells, Value.oneCell', look, upd, del, names, Nat.reduceAdd, Nat.reduceMul, Nat.reduceSub, Nat.reduceLeDiff, Nat.reduceEqDiff, ↓reduceIte, ne_eq, reduceCtorEq, forall_const, times, Value.cells, exists_and_left, exists_eq_left', eq_self, Nat.reduceLT, Int.reduceLT, Int.reduceLE, Int.reduceToNat, Int.reduceAdd, Int.reduceSub, Int.reduceNeg, hnm, Tryd.tf3, Tryd.teq30, Tryd.teq57, Tryd.teq58, Tryd.teq79, Tryd.teq80, Tryd.teq86, Tryd.teq88, Tryd.teq96, Tryd.teq98, t4, t100, t400, hst]); repeat (refine And.intro (by omega) ?_))
    | ((first | with_reducible apply WL_nil | with_reducible apply W_label | with_reducible apply W_skip | with_reducible apply W_exit | with_reducible apply W_ret); try simp only [seqK, blockK, scopeK, ↓reduceIte, Nat.reduceEqDiff])
    | (with_reducible apply W_cond_k; intro _ _ ea eb; (simp only [condK, not_true_eq_false, not_false_eq_true, opnd, constPV, List.getD_cons_zero, List.getD_cons_succ, fr_getD_cons, fr_getD_nil, Nat.reduceEqDiff, Nat.reduceLT, ↓reduceIte, hcb, reduceCtorEq, false_implies, true_implies, forall_const, bne_iff_ne, beq_iff_eq, ne_eq]); subst ea eb; first | (refine ⟨fun hc => ?_, fun hc => ?_⟩ <;> first | (exfalso; omega) | (exfalso; exact hc trivial) | skip) | skip)
    | (with_reducible apply hnx; clear hnx nx)
    | (with_reducible refine And.intro (by omega) ?_)
    | (with_reducible refine And.intro ?_ ?_)
    | (clear hnx nx; with_reducible apply hnx; clear hnx nx)
    | (clear hnx nx; clear hnx nx; with_reducible apply hnx; clear hnx nx)
    | (clear hnx nx; clear hnx nx; clear hnx nx; with_reducible apply hnx; clear hnx nx))
  all_goals first
    | (refine hfin _ _ (Fin_ret1 rfl (Sub_nil _) ?_); simp only [List.getD_cons_zero, List.getD_cons_succ, fr_getD_cons, fr_getD_nil, Nat.reduceEqDiff, Nat.reduceLT, ↓reduceIte]; first | trivial | exact ⟨rfl, by trivial⟩ | (simp; done) | (simp; omega))
theorem startI_le {y : Int} (h1 : 1 ≤ y) (h2 : y ≤ 4000) : 1 ≤ startI y ∧ startI y ≤ 1461000 := by
  have a := startI_mono h1
  have b := startI_mono h2
  rw [show startI 1 = 1 by rfl] at a
  rw [show startI 4000 = 1460605 by rfl] at b
  omega
@[reducible] def spn (a b : Int) : PV := .agg [pint .i64 a, pint .i64 b]
set_option maxRecDepth 100000 in
theorem res_span {σ : PState} {x : Tmp} {n : Int} {g : Bool} {es : Nat} {a b : Int} (hx : σ.frame.getD x .junk = .ptr n 0) (hl : look σ.heap n = some ⟨30, g, es, [pint .i64 a, pint .i64 b]⟩) : PRes Tryd.prog σ (.cell x 30) (spn a b) := by
  simp only [PRes, Tryd.tf30, hx, hl]
  exact ⟨Nat.le_refl _, rfl⟩
set_option maxRecDepth 100000 in
theorem Fin_span {x : Tmp} {R : PV → Heap → Prop} {σ : PState} {n : Int} {g : Bool} {es : Nat} {a b : Int} (hx : σ.frame.getD x .junk = .ptr n 0) (hl : look σ.heap n = some ⟨30, g, es, [pint .i64 a, pint .i64 b]⟩) (h : R (spn a b) []) :
    Fin Tryd.prog [.cell x 30] R .ret σ := Fin_ret (show PResult Tryd.prog σ [.cell x 30] (spn a b) from res_span hx hl) (Sub_nil _) h
set_option maxRecDepth 100000 in
theorem Fin_span2 {x y : Tmp} {R : PV → Heap → Prop} {σ : PState} {n : Int} {g : Bool} {es : Nat} {a b : Int} {p : PV} (hx : σ.frame.getD x .junk = .ptr n 0) (hl : look σ.heap n = some ⟨30, g, es, [pint .i64 a, pint .i64 b]⟩)
    (hy : σ.frame.getD y .junk = p) (h : R (.tuple [spn a b, p]) []) : Fin Tryd.prog [.cell x 30, .tmp y] R .ret σ :=
  Fin_ret (show PResult Tryd.prog σ [.cell x 30, .tmp y] (.tuple [spn a b, p]) from ⟨[spn a b, p], ⟨res_span hx hl, hy.symm, trivial⟩, rfl⟩) (Sub_nil _) h
set_option maxRecDepth 100000 in
set_option maxHeartbeats 8000000 in
theorem years_c (G : Globs) (a b : Int) (ha : 1 ≤ a) (ha2 : a ≤ 3000) (hb : 1 ≤ b) (hb2 : b ≤ 3000) :
    PCalls Tryd.prog G 43 [pint .i64 a, pint .i64 b] [] (fun res H => res = spn (startI a) (startI (b + 1) - 1) ∧ H = []) := by
  have c1 := start_c G a (by omega) (by omega)
  have c2 := start_c G (b + 1) (by omega) (by omega)
  have s2 := startI_le (y := b + 1) (by omega) (by omega)
  (refine PCalls_f Tryd.func43 rfl Tryd.ntmps43 Tryd.results43 (by simp) fun fin hfin => ?_; have hnm : True := trivial; simp (maxSteps := 2000000) (disch := omega) only [evb, ↓popG_eq, ↓pop.eq_1, ↓List.getElem?_map, ↓List.getElem?_cons_zero, ↓List.getElem?_cons_succ, pbuiltin, opnd, constPV, PState.put, layFrom, List.set, pnck, seqK, blockK, scopeK, pbin, pun, ppick, plen, pldop, pload, pfaddr, piaddr, pindex, pfield, pslice, pbound, pconv, pelems, pextract, pmm, parr, pbuild, pfill, PV.mem?, PV.one, PV.cells, pageq, peqs, peq1, palloc, pbox, pbuildS, pmakes, pstore, pappend, pcopy, pbytes, pmark, psrc, vcells, Value.oneCell', look, upd, del, names, Nat.reduceAdd, Nat.reduceMul, Nat.reduceSub, Nat.reduceLeDiff, Nat.reduceEqDiff, ↓reduceIte, ne_eq, reduceCtorEq, forall_const, times, Value.cells, exists_and_left, exists_eq_left', eq_self, Nat.reduceLT, Int.reduceLT, Int.reduceLE, Int.reduceToNat, Int.reduceAdd, Int.reduceSub, Int.reduceNeg, hnm, Tryd.tf0, Tryd.tf3, Tryd.tf30, Tryd.teq30, Tryd.teq57, Tryd.teq58, Tryd.teq79, Tryd.teq80, Tryd.teq86, Tryd.teq88, Tryd.teq96, Tryd.teq98, Tryd.call37])
  repeat' (first
    | (with_reducible apply W_seq_k; intro nx hnx)
    | with_reducible apply W_block
    | with_reducible apply W_scope
    | (with_reducible refine W_prune 19 ?_; simp only [prune_cons, prune_nil, Nat.reducePow, Nat.reduceDiv, Nat.reduceMod, Nat.reduceBEq, cond_true, cond_false]; with_reducible apply W_region_l)
    | ((first | (with_reducible apply WL_op; intro nx hnx) | with_reducible refine Ev_out ?_ | (with_reducible refine pfresh_k hnm fun nm hnm => ?_; (try simp only [List.forall_mem_cons, List.not_mem_nil, false_implies, implies_true, and_true, true_and, ne_eq] at hnm))); try (simp (maxSteps := 2000000) (disch := omega) only [evb, ↓popG_eq, ↓pop.eq_1, ↓List.getElem?_map, ↓List.getElem?_cons_zero, ↓List.getElem?_cons_succ, pbuiltin, opnd, constPV, PState.put, layFrom, List.set, pnck, seqK, blockK, scopeK, pbin, pun, ppick, plen, pldop, pload, pfaddr, piaddr, pindex, pfield, pslice, pbound, pconv, pelems, pextract, pmm, parr, pbuild, pfill, PV.mem?, PV.one, PV.cells, pageq, peqs, peq1, palloc, pbox, pbuildS, pmakes, pstore, pappend, pcopy, pbytes, pmark, psrc, vcells, Value.oneCell', look, upd, del, names, Nat.reduceAdd, Nat.reduceMul, Nat.reduceSub, Nat.reduceLeDiff, Nat.reduceEqDiff, ↓reduceIte, ne_eq, reduceCtorEq, forall_const, times, Value.cells, exists_and_left, exists_eq_left', eq_self, Nat.reduceLT, Int.reduceLT, Int.reduceLE, Int.reduceToNat, Int.reduceAdd, Int.reduceSub, Int.reduceNeg, hnm, Tryd.tf0, Tryd.tf3, Tryd.tf30, Tryd.teq30, Tryd.teq57, Tryd.teq58, Tryd.teq79, Tryd.teq80, Tryd.teq86, Tryd.teq88, Tryd.teq96, Tryd.teq98, Tryd.call37]); repeat (refine And.intro (by omega) ?_))
    | ((first | with_reducible apply WL_nil | with_reducible apply W_label | with_reducible apply W_skip | with_reducible apply W_exit | with_reducible apply W_ret); try simp only [seqK, blockK, scopeK, ↓reduceIte, Nat.reduceEqDiff])
    | (with_reducible apply W_cond_k; intro _ _ ea eb; (simp only [condK, not_true_eq_false, not_false_eq_true, opnd, constPV, List.getD_cons_zero, List.getD_cons_succ, fr_getD_cons, fr_getD_nil, Nat.reduceEqDiff, Nat.reduceLT, ↓reduceIte, hcb, reduceCtorEq, false_implies, true_implies, forall_const, bne_iff_ne, beq_iff_eq, ne_eq]); subst ea eb; first | (refine ⟨fun hc => ?_, fun hc => ?_⟩ <;> first | (exfalso; omega) | (exfalso; exact hc trivial) | skip) | skip)
    | (with_reducible apply hnx; clear hnx nx)
    | (with_reducible refine And.intro (by omega) ?_)
    | (with_reducible refine And.intro ?_ ?_)
    | (with_reducible refine pcall_k (c1) ?_; rintro _ _ ⟨rfl, rfl⟩ -; refine Ev_in ?_)
    | (with_reducible refine pcall_k (c2) ?_; rintro _ _ ⟨rfl, rfl⟩ -; refine Ev_in ?_)
    | (clear hnx nx; with_reducible apply hnx; clear hnx nx)
    | (clear hnx nx; clear hnx nx; with_reducible apply hnx; clear hnx nx)
    | (clear hnx nx; clear hnx nx; clear hnx nx; with_reducible apply hnx; clear hnx nx))
  all_goals first
    | (refine hfin _ _ (Fin_span (by (try simp only [fr_getD_cons, Nat.reduceEqDiff, Nat.reduceLT, ↓reduceIte]); first | done | rfl) (by (try simp only [look, hnm, ↓reduceIte]); first | done | rfl) ?_); first | trivial | exact ⟨rfl, by trivial⟩ | (simp; done) | (simp; omega))
/-- a span is valid -/
def okS (a b : Int) : Bool := decide (1 ≤ a ∧ a ≤ b ∧ b ≤ 1022679)
set_option maxRecDepth 100000 in
set_option maxHeartbeats 8000000 in
theorem valid_c (G : Globs) (a b : Int) : PCalls Tryd.prog G 23 [spn a b] [] (fun res H => res = pbool (okS a b) ∧ H = []) := by
  (refine PCalls_f Tryd.func23 rfl Tryd.ntmps23 Tryd.results23 (by simp) fun fin hfin => ?_; have hnm : True := trivial; simp (maxSteps := 2000000) (disch := omega) only [evb, ↓popG_eq, ↓pop.eq_1, ↓List.getElem?_map, ↓List.getElem?_cons_zero, ↓List.getElem?_cons_succ, pbuiltin, opnd, constPV, PState.put, layFrom, List.set, pnck, seqK, blockK, scopeK, pbin, pun, ppick, plen, pldop, pload, pfaddr, piaddr, pindex, pfield, pslice, pbound, pconv, pelems, pextract, pmm, parr, pbuild, pfill, PV.mem?, PV.one, PV.cells, pageq, peqs, peq1, palloc, pbox, pbuildS, pmakes, pstore, pappend, pcopy, pbytes, pmark, psrc, vcells, Value.oneCell', look, upd, del, names, Nat.reduceAdd, Nat.reduceMul, Nat.reduceSub, Nat.reduceLeDiff, Nat.reduceEqDiff, ↓reduceIte, ne_eq, reduceCtorEq, forall_const, times, Value.cells, exists_and_left, exists_eq_left', eq_self, Nat.reduceLT, Int.reduceLT, Int.reduceLE, Int.reduceToNat, Int.reduceAdd, Int.reduceSub, Int.reduceNeg, hnm, Tryd.tf0, Tryd.tf1, Tryd.tf3, Tryd.tf4, Tryd.tf30, Tryd.teq30, Tryd.teq57, Tryd.teq58, Tryd.teq79, Tryd.teq80, Tryd.teq86, Tryd.teq88, Tryd.teq96, Tryd.teq98])
  repeat' (first
    | (with_reducible apply W_seq_k; intro nx hnx)
    | with_reducible apply W_block
    | with_reducible apply W_scope
    | (with_reducible refine W_prune 7 ?_; simp only [prune_cons, prune_nil, Nat.reducePow, Nat.reduceDiv, Nat.reduceMod, Nat.reduceBEq, cond_true, cond_false]; with_reducible apply W_region_l)
    | ((first | (with_reducible apply WL_op; intro nx hnx) | with_reducible refine Ev_out ?_ | (with_reducible refine pfresh_k hnm fun nm hnm => ?_; (try simp only [List.forall_mem_cons, List.not_mem_nil, false_implies, implies_true, and_true, true_and, ne_eq] at hnm))); try (simp (maxSteps := 2000000) (disch := omega) only [evb, ↓popG_eq, ↓pop.eq_1, ↓List.getElem?_map, ↓List.getElem?_cons_zero, ↓List.getElem?_cons_succ, pbuiltin, opnd, constPV, PState.put, layFrom, List.set, pnck, seqK, blockK, scopeK, pbin, pun, ppick, plen, pldop, pload, pfaddr, piaddr, pindex, pfield, pslice, pbound, pconv, pelems, pextract, pmm, parr, pbuild, pfill, PV.mem?, PV.one, PV.cells, pageq, peqs, peq1, palloc, pbox, pbuildS, pmakes, pstore, pappend, pcopy, pbytes, pmark, psrc, vcells, Value.oneCell', look, upd, del, names, Nat.reduceAdd, Nat.reduceMul, Nat.reduceSub, Nat.reduceLeDiff, Nat.reduceEqDiff, ↓reduceIte, ne_eq, reduceCtorEq, forall_const, times, Value.cells, exists_and_left, exists_eq_left', eq_self, Nat.reduceLT, Int.reduceLT, Int.reduceLE, Int.reduceToNat, Int.reduceAdd, Int.reduceSub, Int.reduceNeg, hnm, Tryd.tf0, Tryd.tf1, Tryd.tf3, Tryd.tf4, Tryd.tf30, Tryd.teq30, Tryd.teq57, Tryd.teq58, Tryd.teq79, Tryd.teq80, Tryd.teq86, Tryd.teq88, Tryd.teq96, Tryd.teq98]); repeat (refine And.intro (by omega) ?_))
    | ((first | with_reducible apply WL_nil | with_reducible apply W_label | with_reducible apply W_skip | with_reducible apply W_exit | with_reducible apply W_ret); try simp only [seqK, blockK, scopeK, ↓reduceIte, Nat.reduceEqDiff])
    | (with_reducible apply pguard_intro <;> (intro hc; (try simp only [hcb, reduceCtorEq, false_implies, true_implies, forall_const, bne_iff_ne, beq_iff_eq, ne_eq] at hc); first | (exfalso; omega) | (exfalso; exact hc trivial) | refine Ev_in ?_))
    | (with_reducible apply W_cond_k; intro _ _ ea eb; (simp only [condK, not_true_eq_false, not_false_eq_true, opnd, constPV, List.getD_cons_zero, List.getD_cons_succ, fr_getD_cons, fr_getD_nil, Nat.reduceEqDiff, Nat.reduceLT, ↓reduceIte, hcb, reduceCtorEq, false_implies, true_implies, forall_const, bne_iff_ne, beq_iff_eq, ne_eq]); subst ea eb; first | (refine ⟨fun hc => ?_, fun hc => ?_⟩ <;> first | (exfalso; omega) | (exfalso; exact hc trivial) | skip) | skip)
    | (with_reducible apply hnx; clear hnx nx)
    | (with_reducible refine And.intro (by omega) ?_)
    | (with_reducible refine And.intro ?_ ?_)
    | (clear hnx nx; with_reducible apply hnx; clear hnx nx)
    | (clear hnx nx; clear hnx nx; with_reducible apply hnx; clear hnx nx)
    | (clear hnx nx; clear hnx nx; clear hnx nx; with_reducible apply hnx; clear hnx nx))
  all_goals first
    | (refine hfin _ _ (Fin_ret1 rfl (Sub_nil _) ?_); simp only [List.getD_cons_zero, List.getD_cons_succ, fr_getD_cons, fr_getD_nil, Nat.reduceEqDiff, Nat.reduceLT, ↓reduceIte]; first | trivial | exact ⟨rfl, by trivial⟩ | (simp; done) | (simp; omega))
    | (refine hfin _ _ (Fin_ret1 rfl (Sub_nil _) ?_); simp only [List.getD_cons_zero, List.getD_cons_succ, fr_getD_cons, fr_getD_nil, Nat.reduceEqDiff, Nat.reduceLT, ↓reduceIte]
       refine ⟨?_, trivial⟩
       simp only [okS, pbool]
       congr 2
       simp only [decide_eq_decide, eq_comm (a := false), decide_eq_false_iff_not]
       omega)
end Go.PM

namespace Go.PM
open Go.Proofs Go.RowKit Go.ChangeShapes Go.WideShapes
/-- What the row lists, a variable at a time. -/
theorem listed {P : Program} {w : World} (n : String) (d : DataW Unit) : ∀ (l : List (String × DataW Unit)) (ps : List MemPlace), DataW.LaidVars P w l ps → (n, d) ∈ l →
    ∃ g t cs fuel p, P.globalNamed n = some g ∧ (P.globals[g]?).map (·.type) = some t ∧ w.var? P n = some cs ∧ DataW.trod (fun _ => ()) P w 0 (fun _ => true) false fuel t cs.toList = some (d, p) := by
  intro l
  induction l with
  | nil => intro _ _ hm; cases hm
  | cons y r ih =>
    rintro ps ⟨g, t, cs, fuel, p, q, a1, a2, a3, a4, a5, _⟩ hm
    cases hm with
    | head => exact ⟨g, t, cs, fuel, p, a1, a2, a3, a4⟩
    | tail _ hm => exact ih q a5 hm
/-- The numbers of the table. -/
def lnI : List Int := [31, 28, 31, 30, 31, 30, 31, 31, 30, 31, 30, 31]
theorem LN_eq : LN = lnI.map (pint .i64) := rfl
theorem ln_rep {w : World} {l : List (String × DataW Unit)} {n : String} {g : Nat} {t e : TypeId} (h : laidMet Tryd.prog l w) (hm : (n, Lib.tabData .i64 lnI) ∈ l) (hg : Tryd.prog.globalNamed n = some g) (hty : (Tryd.prog.globals[g]?).map (·.type) = some t)
    (ht : Tryd.prog.underlying t = some (.array 12 e)) (he : Tryd.prog.underlying e = some (.int .i64)) (hce : Tryd.prog.cellsOf e = 1) (hct : Tryd.prog.cellsOf t = 12) :
    Rep w (fun b => b < w.heap.size) (.iptr LN 0) (.pointer (some (at_ g 0))) := by
  obtain ⟨ps, hps, _⟩ := h
  obtain ⟨g', t', cs, fuel, p, hg', ht', hv, hd⟩ := listed n _ l ps hps hm
  obtain rfl := Option.some.inj (hg.symm.trans hg')
  obtain rfl := Option.some.inj (hty.symm.trans ht')
  have hc := Lib.cells_of_tab ht he hce hct hd
  have cell : ∀ i (x : Int), lnI[i]? = some x → w.cell? (at_ g i) = some (.int .i64 x) := by
    intro i x hx
    have h1 := World.var?_cell hg hv i
    rw [show at_ g i = ⟨g, i, none⟩ from rfl, h1, ← Array.getElem?_toList, hc, List.getElem?_map, hx]
    rfl
  have hlt : g < w.heap.size := cell_lt (cell 0 _ rfl)
  rw [LN_eq]
  exact Rep.iptr (lnI.map (pint .i64)) g 0 0 (fun j => .int .i64 (lnI.getD j 0)) hlt (fun j u hu => by
    rw [List.getElem?_map] at hu
    obtain ⟨x, hx, rfl⟩ := Option.map_eq_some_iff.1 hu
    rw [Nat.zero_add, cell j x hx, List.getD_eq_getElem?_getD, hx]
    rfl) (fun j u hu => by
    rw [List.getElem?_map] at hu
    obtain ⟨x, hx, rfl⟩ := Option.map_eq_some_iff.1 hu
    rw [List.getD_eq_getElem?_getD, hx]
    exact .val _)
/-- a function that answers true -/
theorem calls_trueG {P : Program} {G : Globs} {f : FuncId} {args : List PV} {w : World} {vals : Array Value} (h : PCalls P G f args [] (fun res H => res = pbool true ∧ H = [])) (hG : ∀ g, Rep w (fun b => b < w.heap.size) (G g) (.pointer (some (at_ g 0))))
    (hs : vals.size = args.length) (hr : ∀ (i : Nat) (p : PV), args[i]? = some p → ∃ v : Value, vals[i]? = some v ∧ Rep w (fun b => b < w.heap.size) p v) :
    Calls P f vals w fun e w' => e = .returned (.bool true) ∧ Below w.heap.size w w' := by
  refine (h w (fun b => b < w.heap.size) [] vals (fun _ h => h) hG (by simp) (by simp) (by simp) hs hr).mono ?_
  rintro e w' ⟨v, A', res, Hout, rfl, ⟨rfl, rfl⟩, hrep, hs'⟩
  rw [hrep.val_eq]
  exact ⟨rfl, hs'.ext.below (Nat.le_refl _)⟩
end Go.PM

namespace Go.PM
open Go.Proofs
attribute [local irreducible] W PCalls pcall pcallI WL
@[reducible] def pw (x : UInt32) : PV := pint .u32 x.toNat
theorem wrap_u32 (n : Int) : IntKind.u32.wrap n = n % 4294967296 := by
  simp [IntKind.wrap, IntKind.bits, IntKind.signed]
theorem bitsw (op : BinOp) (f : BitVec 32 → BitVec 32 → BitVec 32) (x y : UInt32) (h : bits op .u32 (x.toNat : Int) (y.toNat : Int) = IntKind.u32.wrap ((f (BitVec.ofInt 32 (x.toNat : Int)) (BitVec.ofInt 32 (y.toNat : Int))).toNat : Int)) :
    bits op .u32 (x.toNat : Int) (y.toNat : Int) = ((f x.toBitVec y.toBitVec).toNat : Int) := by
  have e : ∀ z : UInt32, BitVec.ofInt 32 (z.toNat : Int) = z.toBitVec := fun z => by
    rw [BitVec.ofInt_natCast]
    apply BitVec.eq_of_toNat_eq
    have := z.toNat_lt
    simp
  rw [h, e, e, wrap_u32]
  have := (f x.toBitVec y.toBitVec).isLt
  omega
theorem w_xor (x y : UInt32) : bits .xor .u32 (x.toNat : Int) (y.toNat : Int) = ((x ^^^ y).toNat : Int) := bitsw .xor (· ^^^ ·) x y rfl
theorem w_and (x y : UInt32) : bits .and .u32 (x.toNat : Int) (y.toNat : Int) = ((x &&& y).toNat : Int) := bitsw .and (· &&& ·) x y rfl
theorem w_or (x y : UInt32) : bits .or .u32 (x.toNat : Int) (y.toNat : Int) = ((x ||| y).toNat : Int) := bitsw .or (· ||| ·) x y rfl
theorem w_add (x y : UInt32) : IntKind.u32.wrap ((x.toNat : Int) + (y.toNat : Int)) = ((x + y).toNat : Int) := by
  rw [wrap_u32, UInt32.toNat_add]
  omega
theorem w_not (x : UInt32) : bits .xor .u32 (if IntKind.u32.signed = true then -1 else IntKind.u32.max) (x.toNat : Int) = ((x ^^^ 4294967295).toNat : Int) := by
  have e : (if IntKind.u32.signed = true then (-1 : Int) else IntKind.u32.max) = ((4294967295 : UInt32).toNat : Int) := by decide
  rw [e, w_xor, UInt32.xor_comm]
/-- A word turned right. -/
def R (x : UInt32) (n : Nat) : UInt32 := (x <<< UInt32.ofNat (32 - n)) ||| (x >>> UInt32.ofNat n)
theorem w_shl (x : UInt32) (s : Nat) (h : s < 32) : IntKind.u32.wrap ((x.toNat : Int) * 2 ^ min s IntKind.u32.bits) = ((x <<< UInt32.ofNat s).toNat : Int) := by
  have h1 : min s IntKind.u32.bits = s := by simp only [IntKind.bits]; omega
  have h2 : (UInt32.ofNat s).toNat = s := UInt32.toNat_ofNat_of_lt' (show s < 4294967296 by omega)
  rw [h1, wrap_u32, UInt32.toNat_shiftLeft, h2, Nat.mod_eq_of_lt h, Nat.shiftLeft_eq]
  have e : (x.toNat : Int) * 2 ^ s = ((x.toNat * 2 ^ s : Nat) : Int) := by rw [Int.natCast_mul, Int.natCast_pow]; rfl
  rw [e]
  generalize x.toNat * 2 ^ s = y
  omega
theorem w_shr (x : UInt32) (s : Nat) (h : s < 32) : ((x.toNat : Int)).fdiv (2 ^ min s IntKind.u32.bits) = ((x >>> UInt32.ofNat s).toNat : Int) := by
  have h1 : min s IntKind.u32.bits = s := by simp only [IntKind.bits]; omega
  have h2 : (UInt32.ofNat s).toNat = s := UInt32.toNat_ofNat_of_lt' (show s < 4294967296 by omega)
  rw [h1, UInt32.toNat_shiftRight, h2, Nat.mod_eq_of_lt h, Nat.shiftRight_eq_div_pow, show (2 : Int) ^ s = ((2 ^ s : Nat) : Int) by rw [Int.natCast_pow]; rfl, Int.fdiv_eq_ediv_of_nonneg _ (Int.natCast_nonneg _)]
  rfl
theorem and31 : ∀ n : _root_.Fin 32, 1 ≤ n.val → bits .and .u64 (IntKind.u64.wrap (-(n.val : Int))) 31 = ((32 - n.val : Nat) : Int) := by decide +kernel
theorem rot_c (G : Globs) (x : UInt32) (n : Nat) (h1 : 1 ≤ n) (h2 : n ≤ 31) : PCalls Tryd.prog G 74 [pw x, pint .i64 (-(n : Int))] [] (fun res H => res = pw (R x n) ∧ H = []) := by
  have ha := and31 ⟨n, by omega⟩ h1
  simp only at ha
  have hs1 := w_shl x (32 - n) (by omega)
  have hs2 := w_shr x n (by omega)
  have hw : IntKind.u64.wrap (32 - ((32 - n : Nat) : Int)) = (n : Int) := by
    simp [IntKind.wrap, IntKind.bits, IntKind.signed]
    omega
  (refine PCalls_f Tryd.func74 rfl Tryd.ntmps74 Tryd.results74 (by simp) fun fin hfin => ?_; have hnm : True := trivial; simp (maxSteps := 2000000) (disch := omega) only [evb, ↓popG_eq, ↓pop.eq_1, ↓List.getElem?_map, ↓List.getElem?_cons_zero, ↓List.getElem?_cons_succ, pbuiltin, opnd, constPV, PState.put, layFrom, List.set, pnck, seqK, blockK, scopeK, pbin, pun, ppick, plen, pldop, pload, pfaddr, piaddr, pindex, pfield, pslice, pbound, pconv, pelems, pextract, pmm, parr, pbuild, pfill, PV.mem?, PV.one, PV.cells, pageq, peqs, peq1, palloc, pbox, pbuildS, pmakes, pstore, pappend, pcopy, pbytes, pmark, psrc, vcells, Value.oneCell', look, upd, del, names, Nat.reduceAdd, Nat.reduceMul, Nat.reduceSub, Nat.reduceLeDiff, Nat.reduceEqDiff, ↓reduceIte, ne_eq, reduceCtorEq, forall_const, times, Value.cells, exists_and_left, exists_eq_left', eq_self, Nat.reduceLT, Int.reduceLT, Int.reduceLE, Int.reduceToNat, Int.reduceAdd, Int.reduceSub, Int.reduceNeg, hnm, Tryd.tf3, Tryd.teq30, Tryd.teq57, Tryd.teq58, Tryd.tf78, Tryd.teq79, Tryd.teq80, Tryd.teq86, Tryd.teq88, Tryd.tf95, Tryd.teq96, Tryd.teq98])
  repeat' (first
    | (with_reducible apply W_seq_k; intro nx hnx)
    | with_reducible apply W_block
    | with_reducible apply W_scope
    | (with_reducible refine W_prune 51 ?_; simp only [prune_cons, prune_nil, Nat.reducePow, Nat.reduceDiv, Nat.reduceMod, Nat.reduceBEq, cond_true, cond_false]; with_reducible apply W_region_l)
    | ((first | (with_reducible apply WL_op; intro nx hnx) | with_reducible refine Ev_out ?_ | (with_reducible refine pfresh_k hnm fun nm hnm => ?_; (try simp only [List.forall_mem_cons, List.not_mem_nil, false_implies, implies_true, and_true, true_and, ne_eq] at hnm))); try (simp (maxSteps := 2000000) (disch := omega) only [evb, ↓popG_eq, ↓pop.eq_1, ↓List.getElem?_map, ↓List.getElem?_cons_zero, ↓List.getElem?_cons_succ, pbuiltin, opnd, constPV, PState.put, layFrom, List.set, pnck, seqK, blockK, scopeK, pbin, pun, ppick, plen, pldop, pload, pfaddr, piaddr, pindex, pfield, pslice, pbound, pconv, pelems, pextract, pmm, parr, pbuild, pfill, PV.mem?, PV.one, PV.cells, pageq, peqs, peq1, palloc, pbox, pbuildS, pmakes, pstore, pappend, pcopy, pbytes, pmark, psrc, vcells, Value.oneCell', look, upd, del, names, Nat.reduceAdd, Nat.reduceMul, Nat.reduceSub, Nat.reduceLeDiff, Nat.reduceEqDiff, ↓reduceIte, ne_eq, reduceCtorEq, forall_const, times, Value.cells, exists_and_left, exists_eq_left', eq_self, Nat.reduceLT, Int.reduceLT, Int.reduceLE, Int.reduceToNat, Int.reduceAdd, Int.reduceSub, Int.reduceNeg, hnm, Tryd.tf3, Tryd.teq30, Tryd.teq57, Tryd.teq58, Tryd.tf78, Tryd.teq79, Tryd.teq80, Tryd.teq86, Tryd.teq88, Tryd.tf95, Tryd.teq96, Tryd.teq98, ha, hs1, hw, hs2, w_or]); repeat (refine And.intro (by omega) ?_))
    | ((first | with_reducible apply WL_nil | with_reducible apply W_label | with_reducible apply W_skip | with_reducible apply W_exit | with_reducible apply W_ret); try simp only [seqK, blockK, scopeK, ↓reduceIte, Nat.reduceEqDiff])
    | (with_reducible apply W_cond_k; intro _ _ ea eb; (simp only [condK, not_true_eq_false, not_false_eq_true, opnd, constPV, List.getD_cons_zero, List.getD_cons_succ, fr_getD_cons, fr_getD_nil, Nat.reduceEqDiff, Nat.reduceLT, ↓reduceIte, hcb, reduceCtorEq, false_implies, true_implies, forall_const, bne_iff_ne, beq_iff_eq, ne_eq]); subst ea eb; first | (refine ⟨fun hc => ?_, fun hc => ?_⟩ <;> first | (exfalso; omega) | (exfalso; exact hc trivial) | skip) | skip)
    | (with_reducible apply hnx; clear hnx nx)
    | (with_reducible refine And.intro (by omega) ?_)
    | (with_reducible refine And.intro ?_ ?_)
    | (clear hnx nx; with_reducible apply hnx; clear hnx nx)
    | (clear hnx nx; clear hnx nx; with_reducible apply hnx; clear hnx nx)
    | (clear hnx nx; clear hnx nx; clear hnx nx; with_reducible apply hnx; clear hnx nx))
  (refine hfin _ _ (Fin_ret1 rfl (Sub_nil _) ?_); simp only [List.getD_cons_zero, List.getD_cons_succ, fr_getD_cons, fr_getD_nil, Nat.reduceEqDiff, Nat.reduceLT, ↓reduceIte]; first | trivial | exact ⟨rfl, by trivial⟩ | (simp; done) | (simp; omega))
theorem rot_k (G : Globs) (x : UInt32) (k : Int) (n : Nat) (hk : k = -(n : Int)) (h1 : 1 ≤ n) (h2 : n ≤ 31) : PCalls Tryd.prog G 74 [pw x, pint .i64 k] [] (fun res H => res = pw (R x n) ∧ H = []) := by
  rw [hk]
  exact rot_c G x n h1 h2
/-- The mix of a word. -/
def Mx (x : UInt32) (i j k : Nat) : UInt32 := R x i ^^^ R x j ^^^ R x k
theorem mix_c (G : Globs) (x : UInt32) (i j k : Nat) (hi : 1 ≤ i ∧ i ≤ 31) (hj : 1 ≤ j ∧ j ≤ 31) (hk : 1 ≤ k ∧ k ≤ 31) : PCalls Tryd.prog G 69 [pw x, pint .i64 i, pint .i64 j, pint .i64 k] [] (fun res H => res = pw (Mx x i j k) ∧ H = []) := by
  (refine PCalls_f Tryd.func69 rfl Tryd.ntmps69 Tryd.results69 (by simp) fun fin hfin => ?_; have hnm : True := trivial; simp (maxSteps := 2000000) (disch := omega) only [evb, ↓popG_eq, ↓pop.eq_1, ↓List.getElem?_map, ↓List.getElem?_cons_zero, ↓List.getElem?_cons_succ, pbuiltin, opnd, constPV, PState.put, layFrom, List.set, pnck, seqK, blockK, scopeK, pbin, pun, ppick, plen, pldop, pload, pfaddr, piaddr, pindex, pfield, pslice, pbound, pconv, pelems, pextract, pmm, parr, pbuild, pfill, PV.mem?, PV.one, PV.cells, pageq, peqs, peq1, palloc, pbox, pbuildS, pmakes, pstore, pappend, pcopy, pbytes, pmark, psrc, vcells, Value.oneCell', look, upd, del, names, Nat.reduceAdd, Nat.reduceMul, Nat.reduceSub, Nat.reduceLeDiff, Nat.reduceEqDiff, ↓reduceIte, ne_eq, reduceCtorEq, forall_const, times, Value.cells, exists_and_left, exists_eq_left', eq_self, Nat.reduceLT, Int.reduceLT, Int.reduceLE, Int.reduceToNat, Int.reduceAdd, Int.reduceSub, Int.reduceNeg, hnm, Tryd.tf3, Tryd.teq30, Tryd.teq57, Tryd.teq58, Tryd.tf78, Tryd.teq79, Tryd.teq80, Tryd.teq86, Tryd.teq88, Tryd.teq96, Tryd.teq98, Tryd.call74])
  repeat' (first
    | (with_reducible apply W_seq_k; intro nx hnx)
    | with_reducible apply W_block
    | with_reducible apply W_scope
    | (with_reducible refine W_prune 271 ?_; simp only [prune_cons, prune_nil, Nat.reducePow, Nat.reduceDiv, Nat.reduceMod, Nat.reduceBEq, cond_true, cond_false]; with_reducible apply W_region_l)
    | ((first | (with_reducible apply WL_op; intro nx hnx) | with_reducible refine Ev_out ?_); try (simp (maxSteps := 2000000) (disch := omega) only [evb, ↓popG_eq, ↓pop.eq_1, ↓List.getElem?_map, ↓List.getElem?_cons_zero, ↓List.getElem?_cons_succ, pbuiltin, opnd, constPV, PState.put, layFrom, List.set, pnck, seqK, blockK, scopeK, pbin, pun, ppick, plen, pldop, pload, pfaddr, piaddr, pindex, pfield, pslice, pbound, pconv, pelems, pextract, pmm, parr, pbuild, pfill, PV.mem?, PV.one, PV.cells, pageq, peqs, peq1, palloc, pbox, pbuildS, pmakes, pstore, pappend, pcopy, pbytes, pmark, psrc, vcells, Value.oneCell', look, upd, del, names, Nat.reduceAdd, Nat.reduceMul, Nat.reduceSub, Nat.reduceLeDiff, Nat.reduceEqDiff, ↓reduceIte, ne_eq, reduceCtorEq, forall_const, times, Value.cells, exists_and_left, exists_eq_left', eq_self, Nat.reduceLT, Int.reduceLT, Int.reduceLE, Int.reduceToNat, Int.reduceAdd, Int.reduceSub, Int.reduceNeg, hnm, Tryd.tf3, Tryd.teq30, Tryd.teq57, Tryd.teq58, Tryd.tf78, Tryd.teq79, Tryd.teq80, Tryd.teq86, Tryd.teq88, Tryd.teq96, Tryd.teq98, Tryd.call74, w_xor]); repeat (refine And.intro (by omega) ?_))
    | ((first | with_reducible apply WL_nil | with_reducible apply W_label | with_reducible apply W_skip | with_reducible apply W_exit | with_reducible apply W_ret); try simp only [seqK, blockK, scopeK, ↓reduceIte, Nat.reduceEqDiff])
    | (with_reducible apply W_cond_k; intro _ _ ea eb; (simp only [condK, not_true_eq_false, not_false_eq_true, opnd, constPV, List.getD_cons_zero, List.getD_cons_succ, fr_getD_cons, fr_getD_nil, Nat.reduceEqDiff, Nat.reduceLT, ↓reduceIte, hcb, reduceCtorEq, false_implies, true_implies, forall_const, bne_iff_ne, beq_iff_eq, ne_eq]); subst ea eb; first | (refine ⟨fun hc => ?_, fun hc => ?_⟩ <;> first | (exfalso; omega) | (exfalso; exact hc trivial) | skip) | skip)
    | (with_reducible apply hnx; clear hnx nx)
    | (with_reducible refine And.intro (by omega) ?_)
    | (with_reducible refine And.intro ?_ ?_)
    | (with_reducible refine pcall_k (rot_k G x (0 - i) i (by omega) hi.1 hi.2) ?_; rintro _ _ ⟨rfl, rfl⟩ -; refine Ev_in ?_)
    | (with_reducible refine pcall_k (rot_k G x (0 - j) j (by omega) hj.1 hj.2) ?_; rintro _ _ ⟨rfl, rfl⟩ -; refine Ev_in ?_)
    | (with_reducible refine pcall_k (rot_k G x (0 - k) k (by omega) hk.1 hk.2) ?_; rintro _ _ ⟨rfl, rfl⟩ -; refine Ev_in ?_)
    | (clear hnx nx; with_reducible apply hnx; clear hnx nx)
    | (clear hnx nx; clear hnx nx; with_reducible apply hnx; clear hnx nx)
    | (clear hnx nx; clear hnx nx; clear hnx nx; with_reducible apply hnx; clear hnx nx))
  (refine hfin _ _ (Fin_ret1 rfl (Sub_nil _) ?_); simp only [List.getD_cons_zero, List.getD_cons_succ, fr_getD_cons, fr_getD_nil, Nat.reduceEqDiff, Nat.reduceLT, ↓reduceIte]; first | trivial | exact ⟨rfl, by trivial⟩ | (simp; done) | (simp; omega))
end Go.PM

namespace Go.PM
open Go.Proofs
attribute [local irreducible] W PCalls pcall pcallI WL
def accB (m : UInt32) (x : UInt8) : UInt32 := (m <<< UInt32.ofNat 8) ||| x.toUInt32
def wB (b : List UInt8) (t : Nat) : UInt32 := ((b.drop (4 * t)).take 4).foldl accB 0
def S0 (p : UInt32) : UInt32 := R p 7 ^^^ R p 18 ^^^ (p >>> UInt32.ofNat 3)
def S1 (q : UInt32) : UInt32 := R q 17 ^^^ R q 19 ^^^ (q >>> UInt32.ofNat 10)
/-- The next word. -/
def nxt (b : List UInt8) (w : List UInt32) (t : Nat) : UInt32 := if t < 16 then wB b t else w.getD (t - 16) 0 + S0 (w.getD (t - 15) 0) + w.getD (t - 7) 0 + S1 (w.getD (t - 2) 0)
/-- The first words of a block. -/
def WLs (b : List UInt8) : Nat → List UInt32
  | 0 => []
  | t + 1 => WLs b t ++ [nxt b (WLs b t) t]
theorem WLs_len (b : List UInt8) : ∀ t, (WLs b t).length = t
  | 0 => rfl
  | t + 1 => by simp [WLs, WLs_len b t]
theorem WLs_get (b : List UInt8) (t i : Nat) (h : t ≤ i) : (WLs b t).getD i 0 = 0 := by
  rw [List.getD_eq_getElem?_getD, List.getElem?_eq_none (by rw [WLs_len]; exact h)]
  rfl
theorem WLs_keep (b : List UInt8) (t i : Nat) (h : i < t) : (WLs b (t + 1)).getD i 0 = (WLs b t).getD i 0 := by
  rw [WLs, List.getD_eq_getElem?_getD, List.getD_eq_getElem?_getD, List.getElem?_append_left (by rw [WLs_len]; exact h)]
theorem WLs_new (b : List UInt8) (t : Nat) : (WLs b (t + 1)).getD t 0 = nxt b (WLs b t) t := by
  rw [WLs, List.getD_eq_getElem?_getD, List.getElem?_append_right (by rw [WLs_len]; exact Nat.le_refl _)]
  simp [WLs_len]
/-- The cells while the word t is made: a is what it holds so far. -/
def cA (b : List UInt8) (t : Nat) (a : UInt32) : List PV := tab 64 fun m => if m = t then pw a else pw ((WLs b t).getD m 0)
def cW (b : List UInt8) (t : Nat) : List PV := tab 64 fun m => pw ((WLs b t).getD m 0)
theorem cW_len (b : List UInt8) (t : Nat) : (cW b t).length = 64 := tab_len _ _
theorem cA_len (b : List UInt8) (t : Nat) (a : UInt32) : (cA b t a).length = 64 := tab_len _ _
theorem cW_get (b : List UInt8) (t i : Nat) (h : i < 64) : (cW b t)[i]? = some (pw ((WLs b t).getD i 0)) := tab_get h
theorem cA_get (b : List UInt8) (t : Nat) (a : UInt32) (h : t < 64) : (cA b t a)[t]? = some (pw a) := by
  rw [cA, tab_get h]
  simp
theorem cA_zero (b : List UInt8) (t : Nat) : cA b t 0 = cW b t := by
  rw [cA, cW]
  refine tab_congr fun i _ => ?_
  by_cases h : i = t
  · subst h
    rw [if_pos rfl, WLs_get b i i (Nat.le_refl _)]
  · rw [if_neg h]
theorem cW_zero (b : List UInt8) : cW b 0 = List.replicate 64 (pint .u32 0) := by
  rw [cW, tab_congr (g := fun _ => pint .u32 0) (fun i _ => by simp [WLs])]
  simp [tab, List.range_succ]
theorem cA_set (b : List UInt8) (t : Nat) (a a' : UInt32) (h : t < 64) : List.take t (cA b t a) ++ [pw a'] ++ List.drop (t + 1) (cA b t a) = cA b t a' := by
  rw [cA, tab_set h, cA]
  refine tab_congr fun i _ => ?_
  by_cases h : i = t
  · rw [if_pos h, if_pos h]
  · rw [if_neg h, if_neg h, if_neg h]
theorem cW_set (b : List UInt8) (t : Nat) (h : t < 64) : List.take t (cW b t) ++ [pw (nxt b (WLs b t) t)] ++ List.drop (t + 1) (cW b t) = cW b (t + 1) := by
  rw [cW, tab_set h, cW]
  refine tab_congr fun i _ => ?_
  by_cases h : i = t
  · subst h
    rw [if_pos rfl, WLs_new]
  · rw [if_neg h]
    rcases Nat.lt_or_ge i t with h2 | h2
    · rw [WLs_keep b t i h2]
    · rw [WLs_get b t i h2, WLs_get b (t + 1) i (by omega)]
theorem cA_done (b : List UInt8) (t : Nat) (h : t < 16) : cA b t (wB b t) = cW b (t + 1) := by
  rw [cA, cW]
  refine tab_congr fun i _ => ?_
  by_cases h3 : i = t
  · subst h3
    rw [if_pos rfl, WLs_new, nxt, if_pos h]
  · rw [if_neg h3]
    rcases Nat.lt_or_ge i t with h2 | h2
    · rw [WLs_keep b t i h2]
    · rw [WLs_get b t i h2, WLs_get b (t + 1) i (by omega)]
theorem cW_full (b : List UInt8) : cW b 64 = (WLs b 64).map pw := by
  apply List.ext_getElem
  · simp [cW_len, WLs_len]
  · intro i h1 h2
    rw [cW_len] at h1
    have h3 := cW_get b 64 i h1
    rw [List.getElem?_eq_getElem (by rw [cW_len]; exact h1)] at h3
    rw [Option.some.inj h3, List.getElem_map]
    simp [WLs_len, h1]
attribute [irreducible] cA cW
theorem w_byte (x : UInt8) : IntKind.u32.wrap ((x.toNat : Nat) : Int) = ((x.toUInt32.toNat : Nat) : Int) := by
  have := x.toNat_lt
  rw [wrap_u32, UInt8.toNat_toUInt32]
  omega
theorem all_one_pw (d : List UInt32) : (d.map pw).all PV.one = true := by
  rw [List.all_eq_true]
  intro p hp
  obtain ⟨b, _, rfl⟩ := List.mem_map.1 hp
  rfl
theorem all_one_byte (d : List UInt8) : (d.map pbyte).all PV.one = true := by
  rw [List.all_eq_true]
  intro p hp
  obtain ⟨b, _, rfl⟩ := List.mem_map.1 hp
  rfl
set_option maxRecDepth 100000 in
set_option maxHeartbeats 8000000 in
theorem sched_c (G : Globs) (b : List UInt8) (hb : b.length = 64) : PCalls Tryd.prog G 68 [.list 1 (b.map pbyte)] [] (fun res H => res = .agg ((WLs b 64).map pw) ∧ H = []) := by
  (refine PCalls_f Tryd.func68 rfl Tryd.ntmps68 Tryd.results68 (by simp) fun fin hfin => ?_; have hnm : True := trivial; simp (maxSteps := 2000000) (disch := omega) only [evb, ↓popG_eq, ↓pop.eq_1, ↓List.getElem?_map, ↓List.getElem?_cons_zero, ↓List.getElem?_cons_succ, pbuiltin, opnd, constPV, PState.put, layFrom, List.set, pnck, seqK, blockK, scopeK, pbin, pun, ppick, plen, pldop, pload, pfaddr, piaddr, pindex, pfield, pslice, pbound, pconv, pelems, pextract, pmm, parr, pbuild, pfill, PV.mem?, PV.one, PV.cells, pageq, peqs, peq1, palloc, pbox, pbuildS, pmakes, pstore, pappend, pcopy, pbytes, pmark, psrc, vcells, Value.oneCell', look, upd, del, names, Nat.reduceAdd, Nat.reduceMul, Nat.reduceSub, Nat.reduceLeDiff, Nat.reduceEqDiff, ↓reduceIte, ne_eq, reduceCtorEq, forall_const, times, Value.cells, exists_and_left, exists_eq_left', eq_self, Nat.reduceLT, Int.reduceLT, Int.reduceLE, Int.reduceToNat, Int.reduceAdd, Int.reduceSub, Int.reduceNeg, hnm, Tryd.tf0, Tryd.tf3, Tryd.tf4, Tryd.tf5, Tryd.teq30, Tryd.tf53, Tryd.teq57, Tryd.teq58, Tryd.tf78, Tryd.teq79, Tryd.teq80, Tryd.teq86, Tryd.teq88, Tryd.tf95, Tryd.tf96, Tryd.teq96, Tryd.teq98, Tryd.call74])
  repeat' (first
    | (with_reducible apply W_seq_k; intro nx hnx)
    | with_reducible apply W_block
    | with_reducible apply W_scope
    | (with_reducible refine W_prune 29364189 ?_; simp only [prune_cons, prune_nil, Nat.reducePow, Nat.reduceDiv, Nat.reduceMod, Nat.reduceBEq, cond_true, cond_false]; with_reducible apply W_region_l)
    | (with_reducible refine W_prune 29364189 ?_; simp only [prune_cons, prune_nil, Nat.reducePow, Nat.reduceDiv, Nat.reduceMod, Nat.reduceBEq, cond_true, cond_false]; with_reducible refine W_region_draw (id := 11) 1 (.op 0 true (.op 1 true (.op 2 true (.op 3 true (.op 4 true (.op 5 true (.op 6 true (.op 7 true (.op 8 true (.op 9 true (.done))))))))))) (by kernel_rfl) ?_)
    | (with_reducible refine W_prune 29364189 ?_; simp only [prune_cons, prune_nil, Nat.reducePow, Nat.reduceDiv, Nat.reduceMod, Nat.reduceBEq, cond_true, cond_false]; with_reducible refine W_region_draw (id := 14) 1 (.op 0 true (.op 1 true (.op 2 true (.op 3 true (.op 4 true (.op 5 true (.op 6 true (.op 7 true (.op 8 true (.op 9 true (.op 10 true (.op 11 true (.op 12 true (.op 13 true (.op 14 true (.op 15 false (.done))))))))))))))))) (by kernel_rfl) ?_)
    | ((first | (with_reducible apply WL_op; intro nx hnx) | with_reducible refine Ev_out ?_ | (with_reducible apply popsD_op; intro nx hnx) | (with_reducible refine popsD_alt ?_ ?_; intro nx hnx) | (with_reducible refine pfresh_k hnm fun nm hnm => ?_; (try simp only [List.forall_mem_cons, List.not_mem_nil, false_implies, implies_true, and_true, true_and, ne_eq] at hnm))); try (simp (maxSteps := 2000000) (disch := omega) only [evb, ↓popG_eq, ↓pop.eq_1, ↓List.getElem?_map, ↓List.getElem?_cons_zero, ↓List.getElem?_cons_succ, pbuiltin, opnd, constPV, PState.put, layFrom, List.set, pnck, seqK, blockK, scopeK, pbin, pun, ppick, plen, pldop, pload, pfaddr, piaddr, pindex, pfield, pslice, pbound, pconv, pelems, pextract, pmm, parr, pbuild, pfill, PV.mem?, PV.one, PV.cells, pageq, peqs, peq1, palloc, pbox, pbuildS, pmakes, pstore, pappend, pcopy, pbytes, pmark, psrc, vcells, Value.oneCell', look, upd, del, names, Nat.reduceAdd, Nat.reduceMul, Nat.reduceSub, Nat.reduceLeDiff, Nat.reduceEqDiff, ↓reduceIte, ne_eq, reduceCtorEq, forall_const, times, Value.cells, exists_and_left, exists_eq_left', eq_self, Nat.reduceLT, Int.reduceLT, Int.reduceLE, Int.reduceToNat, Int.reduceAdd, Int.reduceSub, Int.reduceNeg, hnm, Tryd.tf0, Tryd.tf3, Tryd.tf4, Tryd.tf5, Tryd.teq30, Tryd.tf53, Tryd.teq57, Tryd.teq58, Tryd.tf78, Tryd.teq79, Tryd.teq80, Tryd.teq86, Tryd.teq88, Tryd.tf95, Tryd.tf96, Tryd.teq96, Tryd.teq98, Tryd.call74]); repeat (refine And.intro (by omega) ?_))
    | ((first | with_reducible apply WL_nil | with_reducible apply W_label | with_reducible apply W_skip | with_reducible apply W_exit | with_reducible apply W_ret | with_reducible apply popsD_done); try simp only [seqK, blockK, scopeK, ↓reduceIte, Nat.reduceEqDiff])
    | with_reducible exact popsD_stop
    | (with_reducible apply W_cond_k; intro _ _ ea eb; (simp only [condK, not_true_eq_false, not_false_eq_true, opnd, constPV, List.getD_cons_zero, List.getD_cons_succ, fr_getD_cons, fr_getD_nil, Nat.reduceEqDiff, Nat.reduceLT, ↓reduceIte, hcb, reduceCtorEq, false_implies, true_implies, forall_const, bne_iff_ne, beq_iff_eq, ne_eq]); subst ea eb; first | (refine ⟨fun hc => ?_, fun hc => ?_⟩ <;> first | (exfalso; omega) | (exfalso; exact hc trivial) | skip) | skip)
    | (with_reducible apply hnx; clear hnx nx)
    | (with_reducible refine And.intro (by omega) ?_)
    | (with_reducible refine And.intro ?_ ?_)
    | (clear hnx nx; with_reducible apply hnx; clear hnx nx)
    | (clear hnx nx; clear hnx nx; with_reducible apply hnx; clear hnx nx)
    | (clear hnx nx; clear hnx nx; clear hnx nx; with_reducible apply hnx; clear hnx nx))
  rename_i N2 _
  obtain ⟨N3, hN3⟩ : ∃ N, N = nm := ⟨_, rfl⟩
  subst hN3
  have hN : N3 ≠ N2 := by simp only [ne_eq, hnm, not_false_eq_true]
  have hN1 : ¬ N3 = N2 := hN
  have hN4 : ¬ N2 = N3 := fun e => hN e.symm
  clear hnm
  have hnm : True := trivial
  refine W_loop_k (fun z τ => ∃ t : Nat, t ≤ 64 ∧ z = 64 - t ∧ τ = ⟨fr 79 [(0, .list 1 (b.map pbyte)), (2, .ptr N2 0), (3, .ptr N3 0), (11, pint .i64 t)], [(N3, ⟨96, false, 0, cW b t⟩), (N2, ⟨96, false, 0, cW b 0⟩)]⟩) 64 ⟨fr 79 [(0, .list 1 (b.map pbyte)), (2, .ptr N2 0), (3, .ptr N3 0), (11, pint .i64 (0 : Nat))], [(N3, ⟨96, false, 0, cW b 0⟩), (N2, ⟨96, false, 0, cW b 0⟩)]⟩ (by
    rw [cW_zero]
    refine Wk_fr (by simp only [List.forall_mem_cons, List.not_mem_nil, false_implies, implies_true, and_true, true_and, and_self, fr_getD_cons, fr_getD_nil, Nat.reduceEqDiff, Nat.reduceLT, ↓reduceIte, Int.natCast_add, Int.cast_ofNat_Int, Int.natCast_zero]) ?_
    exact ⟨by simp, by simp [names, hN]⟩) ⟨0, by omega, by omega, rfl⟩ ?_
  rintro z τ ⟨t, ht, rfl, rfl⟩ lp hlp
  have hcl := cW_len b t
  by_cases ht1 : t < 16
  · have hmid : List.drop (4 * t) (List.take (4 * t + 4) (b.map pbyte)) = ((b.drop (4 * t)).take 4).map pbyte := by
      rw [List.drop_take, List.map_take, List.map_drop, show 4 * t + 4 - 4 * t = 4 by omega]
    have h41 : (4 * (t : Int)).toNat = 4 * t := by omega
    have h42 : (4 * (t : Int) + 4).toNat = 4 * t + 4 := by omega
    obtain ⟨c, hcd⟩ : ∃ c, c = (b.drop (4 * t)).take 4 := ⟨_, rfl⟩
    have hc4 : c.length = 4 := by rw [hcd, List.length_take, List.length_drop]; omega
    rw [← hcd] at hmid
    repeat' (first
    | (with_reducible apply W_seq_k; intro nx hnx)
    | with_reducible apply W_block
    | with_reducible apply W_scope
    | (with_reducible refine W_prune 29364189 ?_; simp only [prune_cons, prune_nil, Nat.reducePow, Nat.reduceDiv, Nat.reduceMod, Nat.reduceBEq, cond_true, cond_false]; with_reducible apply W_region_l)
    | (with_reducible refine W_prune 29364189 ?_; simp only [prune_cons, prune_nil, Nat.reducePow, Nat.reduceDiv, Nat.reduceMod, Nat.reduceBEq, cond_true, cond_false]; with_reducible refine W_region_draw (id := 11) 1 (.op 0 true (.op 1 true (.op 2 true (.op 3 true (.op 4 true (.op 5 true (.op 6 true (.op 7 true (.op 8 true (.op 9 true (.done))))))))))) (by kernel_rfl) ?_)
    | (with_reducible refine W_prune 29364189 ?_; simp only [prune_cons, prune_nil, Nat.reducePow, Nat.reduceDiv, Nat.reduceMod, Nat.reduceBEq, cond_true, cond_false]; with_reducible refine W_region_draw (id := 14) 1 (.op 0 true (.op 1 true (.op 2 true (.op 3 true (.op 4 true (.op 5 true (.op 6 true (.op 7 true (.op 8 true (.op 9 true (.op 10 true (.op 11 true (.op 12 true (.op 13 true (.op 14 true (.op 15 false (.done))))))))))))))))) (by kernel_rfl) ?_)
    | ((first | (with_reducible apply WL_op; intro nx hnx) | with_reducible refine Ev_out ?_ | (with_reducible apply popsD_op; intro nx hnx) | (with_reducible refine popsD_alt ?_ ?_; intro nx hnx) | (with_reducible refine pfresh_k hnm fun nm hnm => ?_; (try simp only [List.forall_mem_cons, List.not_mem_nil, false_implies, implies_true, and_true, true_and, ne_eq] at hnm))); try (simp (maxSteps := 2000000) (disch := omega) only [evb, ↓popG_eq, ↓pop.eq_1, ↓List.getElem?_map, ↓List.getElem?_cons_zero, ↓List.getElem?_cons_succ, pbuiltin, opnd, constPV, PState.put, layFrom, List.set, pnck, seqK, blockK, scopeK, pbin, pun, ppick, plen, pldop, pload, pfaddr, piaddr, pindex, pfield, pslice, pbound, pconv, pelems, pextract, pmm, parr, pbuild, pfill, PV.mem?, PV.one, PV.cells, pageq, peqs, peq1, palloc, pbox, pbuildS, pmakes, pstore, pappend, pcopy, pbytes, pmark, psrc, vcells, Value.oneCell', look, upd, del, names, Nat.reduceAdd, Nat.reduceMul, Nat.reduceSub, Nat.reduceLeDiff, Nat.reduceEqDiff, ↓reduceIte, ne_eq, reduceCtorEq, forall_const, times, Value.cells, exists_and_left, exists_eq_left', eq_self, Nat.reduceLT, Int.reduceLT, Int.reduceLE, Int.reduceToNat, Int.reduceAdd, Int.reduceSub, Int.reduceNeg, hnm, Tryd.tf0, Tryd.tf3, Tryd.tf4, Tryd.tf5, Tryd.teq30, Tryd.tf53, Tryd.teq57, Tryd.teq58, Tryd.tf78, Tryd.teq79, Tryd.teq80, Tryd.teq86, Tryd.teq88, Tryd.tf95, Tryd.tf96, Tryd.teq96, Tryd.teq98, Tryd.call74, hN1, hN4, hmid, h41, h42, hc4]); repeat (refine And.intro (by omega) ?_))
    | ((first | with_reducible apply WL_nil | with_reducible apply W_label | with_reducible apply W_skip | with_reducible apply W_exit | with_reducible apply W_ret | with_reducible apply popsD_done); try simp only [seqK, blockK, scopeK, ↓reduceIte, Nat.reduceEqDiff])
    | with_reducible exact popsD_stop
    | (with_reducible apply W_cond_k; intro _ _ ea eb; (simp only [condK, not_true_eq_false, not_false_eq_true, opnd, constPV, List.getD_cons_zero, List.getD_cons_succ, fr_getD_cons, fr_getD_nil, Nat.reduceEqDiff, Nat.reduceLT, ↓reduceIte, hcb, reduceCtorEq, false_implies, true_implies, forall_const, bne_iff_ne, beq_iff_eq, ne_eq]); subst ea eb; first | (refine ⟨fun hc => ?_, fun hc => ?_⟩ <;> first | (exfalso; omega) | (exfalso; exact hc trivial) | skip) | skip)
    | (with_reducible apply hnx; clear hnx nx)
    | (with_reducible refine And.intro (by omega) ?_)
    | (with_reducible refine And.intro ?_ ?_)
    | (clear hnx nx; with_reducible apply hnx; clear hnx nx)
    | (clear hnx nx; clear hnx nx; with_reducible apply hnx; clear hnx nx)
    | (clear hnx nx; clear hnx nx; clear hnx nx; with_reducible apply hnx; clear hnx nx))
    all_goals first
      | (exfalso
         omega)
      | skip
    refine W_loop_k (fun z τ => ∃ i : Nat, i ≤ 4 ∧ z = 4 - i ∧ τ = ⟨fr 79 [(0, .list 1 (b.map pbyte)), (2, .ptr N2 0), (3, .ptr N3 0), (4, pint .i64 t), (11, pint .i64 t), (22, .list 1 (c.map pbyte)), (23, pint .i64 4), (24, pint .i64 i)], [(N3, ⟨96, false, 0, cA b t ((c.take i).foldl accB 0)⟩), (N2, ⟨96, false, 0, cW b 0⟩)]⟩) 4 ⟨fr 79 [(0, .list 1 (b.map pbyte)), (2, .ptr N2 0), (3, .ptr N3 0), (4, pint .i64 t), (11, pint .i64 t), (22, .list 1 (c.map pbyte)), (23, pint .i64 4), (24, pint .i64 (0 : Nat))], [(N3, ⟨96, false, 0, cA b t ((c.take 0).foldl accB 0)⟩), (N2, ⟨96, false, 0, cW b 0⟩)]⟩ (by
      rw [List.take_zero, List.foldl_nil, cA_zero]
      refine Wk_fr (by simp only [List.forall_mem_cons, List.not_mem_nil, false_implies, implies_true, and_true, true_and, and_self, fr_getD_cons, fr_getD_nil, Nat.reduceEqDiff, Nat.reduceLT, ↓reduceIte, Int.natCast_add, Int.cast_ofNat_Int, Int.natCast_zero]) ?_
      exact ⟨by simp, by simp [names, hN]⟩) ⟨0, by omega, by omega, rfl⟩ ?_
    rintro z τ ⟨i, hi, rfl, rfl⟩ lp2 hlp2
    have hal := cA_len b t ((c.take i).foldl accB 0)
    have hag := cA_get b t ((c.take i).foldl accB 0) (by omega)
    by_cases hi4 : i < 4
    · have hic : i < c.length := by omega
      have hst : (c.take (i + 1)).foldl accB 0 = accB ((c.take i).foldl accB 0) c[i] := by
        rw [List.take_add_one, List.getElem?_eq_getElem hic, Option.toList_some, List.foldl_append]
        rfl
      have hsh := w_shl ((c.take i).foldl accB 0) 8 (by omega)
      have hby := w_byte c[i]
      have hor : ((c.take i).foldl accB 0 <<< UInt32.ofNat 8) ||| c[i].toUInt32 = (c.take (i + 1)).foldl accB 0 := by rw [hst]; rfl
      have hset := cA_set b t ((c.take i).foldl accB 0) ((c.take (i + 1)).foldl accB 0) (by omega)
      repeat' (first
    | (with_reducible apply W_seq_k; intro nx hnx)
    | with_reducible apply W_block
    | with_reducible apply W_scope
    | (with_reducible refine W_prune 29364189 ?_; simp only [prune_cons, prune_nil, Nat.reducePow, Nat.reduceDiv, Nat.reduceMod, Nat.reduceBEq, cond_true, cond_false]; with_reducible apply W_region_l)
    | (with_reducible refine W_prune 29364189 ?_; simp only [prune_cons, prune_nil, Nat.reducePow, Nat.reduceDiv, Nat.reduceMod, Nat.reduceBEq, cond_true, cond_false]; with_reducible refine W_region_draw (id := 11) 1 (.op 0 true (.op 1 true (.op 2 true (.op 3 true (.op 4 true (.op 5 true (.op 6 true (.op 7 true (.op 8 true (.op 9 true (.done))))))))))) (by kernel_rfl) ?_)
    | (with_reducible refine W_prune 29364189 ?_; simp only [prune_cons, prune_nil, Nat.reducePow, Nat.reduceDiv, Nat.reduceMod, Nat.reduceBEq, cond_true, cond_false]; with_reducible refine W_region_draw (id := 14) 1 (.op 0 true (.op 1 true (.op 2 true (.op 3 true (.op 4 true (.op 5 true (.op 6 true (.op 7 true (.op 8 true (.op 9 true (.op 10 true (.op 11 true (.op 12 true (.op 13 true (.op 14 true (.op 15 false (.done))))))))))))))))) (by kernel_rfl) ?_)
    | ((first | (with_reducible apply WL_op; intro nx hnx) | with_reducible refine Ev_out ?_ | (with_reducible apply popsD_op; intro nx hnx) | (with_reducible refine popsD_alt ?_ ?_; intro nx hnx) | (with_reducible refine pfresh_k hnm fun nm hnm => ?_; (try simp only [List.forall_mem_cons, List.not_mem_nil, false_implies, implies_true, and_true, true_and, ne_eq] at hnm))); try (simp (maxSteps := 2000000) (disch := omega) only [evb, ↓popG_eq, ↓pop.eq_1, ↓List.getElem?_map, ↓List.getElem?_cons_zero, ↓List.getElem?_cons_succ, pbuiltin, opnd, constPV, PState.put, layFrom, List.set, pnck, seqK, blockK, scopeK, pbin, pun, ppick, plen, pldop, pload, pfaddr, piaddr, pindex, pfield, pslice, pbound, pconv, pelems, pextract, pmm, parr, pbuild, pfill, PV.mem?, PV.one, PV.cells, pageq, peqs, peq1, palloc, pbox, pbuildS, pmakes, pstore, pappend, pcopy, pbytes, pmark, psrc, vcells, Value.oneCell', look, upd, del, names, Nat.reduceAdd, Nat.reduceMul, Nat.reduceSub, Nat.reduceLeDiff, Nat.reduceEqDiff, ↓reduceIte, ne_eq, reduceCtorEq, forall_const, times, Value.cells, exists_and_left, exists_eq_left', eq_self, Nat.reduceLT, Int.reduceLT, Int.reduceLE, Int.reduceToNat, Int.reduceAdd, Int.reduceSub, Int.reduceNeg, hnm, Tryd.tf0, Tryd.tf3, Tryd.tf4, Tryd.tf5, Tryd.teq30, Tryd.tf53, Tryd.teq57, Tryd.teq58, Tryd.tf78, Tryd.teq79, Tryd.teq80, Tryd.teq86, Tryd.teq88, Tryd.tf95, Tryd.tf96, Tryd.teq96, Tryd.teq98, Tryd.call74, hN1, hN4, hal, hag, hsh, hby, w_or, hor, hset]); repeat (refine And.intro (by omega) ?_))
    | ((first | with_reducible apply WL_nil | with_reducible apply W_label | with_reducible apply W_skip | with_reducible apply W_exit | with_reducible apply W_ret | with_reducible apply popsD_done); try simp only [seqK, blockK, scopeK, ↓reduceIte, Nat.reduceEqDiff])
    | with_reducible exact popsD_stop
    | (with_reducible apply W_cond_k; intro _ _ ea eb; (simp only [condK, not_true_eq_false, not_false_eq_true, opnd, constPV, List.getD_cons_zero, List.getD_cons_succ, fr_getD_cons, fr_getD_nil, Nat.reduceEqDiff, Nat.reduceLT, ↓reduceIte, hcb, reduceCtorEq, false_implies, true_implies, forall_const, bne_iff_ne, beq_iff_eq, ne_eq]); subst ea eb; first | (refine ⟨fun hc => ?_, fun hc => ?_⟩ <;> first | (exfalso; omega) | (exfalso; exact hc trivial) | skip) | skip)
    | (with_reducible apply hnx; clear hnx nx)
    | (with_reducible refine And.intro (by omega) ?_)
    | (with_reducible refine And.intro ?_ ?_)
    | (clear hnx nx; with_reducible apply hnx; clear hnx nx)
    | (clear hnx nx; clear hnx nx; with_reducible apply hnx; clear hnx nx)
    | (clear hnx nx; clear hnx nx; clear hnx nx; with_reducible apply hnx; clear hnx nx))
      all_goals first
        | (exfalso
           omega)
        | (refine hlp2 _ (4 - (i + 1)) _ (by omega) ?_ ⟨i + 1, by omega, rfl, rfl⟩
           refine Wk_fr (by simp only [List.forall_mem_cons, List.not_mem_nil, false_implies, implies_true, and_true, true_and, and_self, fr_getD_cons, fr_getD_nil, Nat.reduceEqDiff, Nat.reduceLT, ↓reduceIte, Int.natCast_add, Int.cast_ofNat_Int, Int.natCast_zero]) ?_
           exact ⟨by simp, by simp [names, hN]⟩)
    · have hi5 : i = 4 := by omega
      have hdone := cA_done b t ht1
      rw [wB, ← hcd] at hdone
      rw [hi5, List.take_of_length_le (by omega), hdone]
      repeat' (first
    | (with_reducible apply W_seq_k; intro nx hnx)
    | with_reducible apply W_block
    | with_reducible apply W_scope
    | (with_reducible refine W_prune 29364189 ?_; simp only [prune_cons, prune_nil, Nat.reducePow, Nat.reduceDiv, Nat.reduceMod, Nat.reduceBEq, cond_true, cond_false]; with_reducible apply W_region_l)
    | (with_reducible refine W_prune 29364189 ?_; simp only [prune_cons, prune_nil, Nat.reducePow, Nat.reduceDiv, Nat.reduceMod, Nat.reduceBEq, cond_true, cond_false]; with_reducible refine W_region_draw (id := 11) 1 (.op 0 true (.op 1 true (.op 2 true (.op 3 true (.op 4 true (.op 5 true (.op 6 true (.op 7 true (.op 8 true (.op 9 true (.done))))))))))) (by kernel_rfl) ?_)
    | (with_reducible refine W_prune 29364189 ?_; simp only [prune_cons, prune_nil, Nat.reducePow, Nat.reduceDiv, Nat.reduceMod, Nat.reduceBEq, cond_true, cond_false]; with_reducible refine W_region_draw (id := 14) 1 (.op 0 true (.op 1 true (.op 2 true (.op 3 true (.op 4 true (.op 5 true (.op 6 true (.op 7 true (.op 8 true (.op 9 true (.op 10 true (.op 11 true (.op 12 true (.op 13 true (.op 14 true (.op 15 false (.done))))))))))))))))) (by kernel_rfl) ?_)
    | ((first | (with_reducible apply WL_op; intro nx hnx) | with_reducible refine Ev_out ?_ | (with_reducible apply popsD_op; intro nx hnx) | (with_reducible refine popsD_alt ?_ ?_; intro nx hnx) | (with_reducible refine pfresh_k hnm fun nm hnm => ?_; (try simp only [List.forall_mem_cons, List.not_mem_nil, false_implies, implies_true, and_true, true_and, ne_eq] at hnm))); try (simp (maxSteps := 2000000) (disch := omega) only [evb, ↓popG_eq, ↓pop.eq_1, ↓List.getElem?_map, ↓List.getElem?_cons_zero, ↓List.getElem?_cons_succ, pbuiltin, opnd, constPV, PState.put, layFrom, List.set, pnck, seqK, blockK, scopeK, pbin, pun, ppick, plen, pldop, pload, pfaddr, piaddr, pindex, pfield, pslice, pbound, pconv, pelems, pextract, pmm, parr, pbuild, pfill, PV.mem?, PV.one, PV.cells, pageq, peqs, peq1, palloc, pbox, pbuildS, pmakes, pstore, pappend, pcopy, pbytes, pmark, psrc, vcells, Value.oneCell', look, upd, del, names, Nat.reduceAdd, Nat.reduceMul, Nat.reduceSub, Nat.reduceLeDiff, Nat.reduceEqDiff, ↓reduceIte, ne_eq, reduceCtorEq, forall_const, times, Value.cells, exists_and_left, exists_eq_left', eq_self, Nat.reduceLT, Int.reduceLT, Int.reduceLE, Int.reduceToNat, Int.reduceAdd, Int.reduceSub, Int.reduceNeg, hnm, Tryd.tf0, Tryd.tf3, Tryd.tf4, Tryd.tf5, Tryd.teq30, Tryd.tf53, Tryd.teq57, Tryd.teq58, Tryd.tf78, Tryd.teq79, Tryd.teq80, Tryd.teq86, Tryd.teq88, Tryd.tf95, Tryd.tf96, Tryd.teq96, Tryd.teq98, Tryd.call74, hN1, hN4]); repeat (refine And.intro (by omega) ?_))
    | ((first | with_reducible apply WL_nil | with_reducible apply W_label | with_reducible apply W_skip | with_reducible apply W_exit | with_reducible apply W_ret | with_reducible apply popsD_done); try simp only [seqK, blockK, scopeK, ↓reduceIte, Nat.reduceEqDiff])
    | with_reducible exact popsD_stop
    | (with_reducible apply W_cond_k; intro _ _ ea eb; (simp only [condK, not_true_eq_false, not_false_eq_true, opnd, constPV, List.getD_cons_zero, List.getD_cons_succ, fr_getD_cons, fr_getD_nil, Nat.reduceEqDiff, Nat.reduceLT, ↓reduceIte, hcb, reduceCtorEq, false_implies, true_implies, forall_const, bne_iff_ne, beq_iff_eq, ne_eq]); subst ea eb; first | (refine ⟨fun hc => ?_, fun hc => ?_⟩ <;> first | (exfalso; omega) | (exfalso; exact hc trivial) | skip) | skip)
    | (with_reducible apply hnx; clear hnx nx)
    | (with_reducible refine And.intro (by omega) ?_)
    | (with_reducible refine And.intro ?_ ?_)
    | (clear hnx nx; with_reducible apply hnx; clear hnx nx)
    | (clear hnx nx; clear hnx nx; with_reducible apply hnx; clear hnx nx)
    | (clear hnx nx; clear hnx nx; clear hnx nx; with_reducible apply hnx; clear hnx nx))
      all_goals first
        | (exfalso
           omega)
        | (refine hlp _ (64 - (t + 1)) _ (by omega) ?_ ⟨t + 1, by omega, rfl, rfl⟩
           refine Wk_fr (by simp only [List.forall_mem_cons, List.not_mem_nil, false_implies, implies_true, and_true, true_and, and_self, fr_getD_cons, fr_getD_nil, Nat.reduceEqDiff, Nat.reduceLT, ↓reduceIte, Int.natCast_add, Int.cast_ofNat_Int, Int.natCast_zero]) ?_
           exact ⟨by simp, by simp [names, hN]⟩)
  · by_cases ht2 : t < 64
    · have g15 := cW_get b t (t - 15) (by omega)
      have g2 := cW_get b t (t - 2) (by omega)
      have g16 := cW_get b t (t - 16) (by omega)
      have g7 := cW_get b t (t - 7) (by omega)
      have hnx : nxt b (WLs b t) t = (WLs b t).getD (t - 16) 0 + S0 ((WLs b t).getD (t - 15) 0) + (WLs b t).getD (t - 7) 0 + S1 ((WLs b t).getD (t - 2) 0) := by rw [nxt, if_neg ht1]
      have hset := cW_set b t ht2
      obtain ⟨p, hp⟩ : ∃ p, p = (WLs b t).getD (t - 15) 0 := ⟨_, rfl⟩
      obtain ⟨q, hq⟩ : ∃ p, p = (WLs b t).getD (t - 2) 0 := ⟨_, rfl⟩
      obtain ⟨u, hu⟩ : ∃ p, p = (WLs b t).getD (t - 16) 0 := ⟨_, rfl⟩
      obtain ⟨v, hv⟩ : ∃ p, p = (WLs b t).getD (t - 7) 0 := ⟨_, rfl⟩
      rw [← hp, ← hq, ← hu, ← hv] at hnx
      rw [← hp] at g15
      rw [← hq] at g2
      rw [← hu] at g16
      rw [← hv] at g7
      rw [hnx] at hset
      have i15 : ((t : Int) - 15).toNat = t - 15 := by omega
      have i2 : ((t : Int) - 2).toNat = t - 2 := by omega
      have i16 : ((t : Int) - 16).toNat = t - 16 := by omega
      have i7 : ((t : Int) - 7).toNat = t - 7 := by omega
      have hr3 := w_shr p 3 (by omega)
      have hr10 := w_shr q 10 (by omega)
      have hS0 : R p 7 ^^^ R p 18 ^^^ (p >>> UInt32.ofNat 3) = S0 p := rfl
      have hS1 : R q 17 ^^^ R q 19 ^^^ (q >>> UInt32.ofNat 10) = S1 q := rfl
      repeat' (first
    | (with_reducible apply W_seq_k; intro nx hnx)
    | with_reducible apply W_block
    | with_reducible apply W_scope
    | (with_reducible refine W_prune 29364189 ?_; simp only [prune_cons, prune_nil, Nat.reducePow, Nat.reduceDiv, Nat.reduceMod, Nat.reduceBEq, cond_true, cond_false]; with_reducible apply W_region_l)
    | (with_reducible refine W_prune 29364189 ?_; simp only [prune_cons, prune_nil, Nat.reducePow, Nat.reduceDiv, Nat.reduceMod, Nat.reduceBEq, cond_true, cond_false]; with_reducible refine W_region_draw (id := 11) 1 (.op 0 true (.op 1 true (.op 2 true (.op 3 true (.op 4 true (.op 5 true (.op 6 true (.op 7 true (.op 8 true (.op 9 true (.done))))))))))) (by kernel_rfl) ?_)
    | (with_reducible refine W_prune 29364189 ?_; simp only [prune_cons, prune_nil, Nat.reducePow, Nat.reduceDiv, Nat.reduceMod, Nat.reduceBEq, cond_true, cond_false]; with_reducible refine W_region_draw (id := 14) 1 (.op 0 true (.op 1 true (.op 2 true (.op 3 true (.op 4 true (.op 5 true (.op 6 true (.op 7 true (.op 8 true (.op 9 true (.op 10 true (.op 11 true (.op 12 true (.op 13 true (.op 14 true (.op 15 false (.done))))))))))))))))) (by kernel_rfl) ?_)
    | ((first | (with_reducible apply WL_op; intro nx hnx) | with_reducible refine Ev_out ?_ | (with_reducible apply popsD_op; intro nx hnx) | (with_reducible refine popsD_alt ?_ ?_; intro nx hnx) | (with_reducible refine pfresh_k hnm fun nm hnm => ?_; (try simp only [List.forall_mem_cons, List.not_mem_nil, false_implies, implies_true, and_true, true_and, ne_eq] at hnm))); try (simp (maxSteps := 2000000) (disch := omega) only [evb, ↓popG_eq, ↓pop.eq_1, ↓List.getElem?_map, ↓List.getElem?_cons_zero, ↓List.getElem?_cons_succ, pbuiltin, opnd, constPV, PState.put, layFrom, List.set, pnck, seqK, blockK, scopeK, pbin, pun, ppick, plen, pldop, pload, pfaddr, piaddr, pindex, pfield, pslice, pbound, pconv, pelems, pextract, pmm, parr, pbuild, pfill, PV.mem?, PV.one, PV.cells, pageq, peqs, peq1, palloc, pbox, pbuildS, pmakes, pstore, pappend, pcopy, pbytes, pmark, psrc, vcells, Value.oneCell', look, upd, del, names, Nat.reduceAdd, Nat.reduceMul, Nat.reduceSub, Nat.reduceLeDiff, Nat.reduceEqDiff, ↓reduceIte, ne_eq, reduceCtorEq, forall_const, times, Value.cells, exists_and_left, exists_eq_left', eq_self, Nat.reduceLT, Int.reduceLT, Int.reduceLE, Int.reduceToNat, Int.reduceAdd, Int.reduceSub, Int.reduceNeg, hnm, Tryd.tf0, Tryd.tf3, Tryd.tf4, Tryd.tf5, Tryd.teq30, Tryd.tf53, Tryd.teq57, Tryd.teq58, Tryd.tf78, Tryd.teq79, Tryd.teq80, Tryd.teq86, Tryd.teq88, Tryd.tf95, Tryd.tf96, Tryd.teq96, Tryd.teq98, Tryd.call74, hN1, hN4, hcl, g15, g2, g16, g7, i15, i2, i16, i7, hr3, hr10, w_xor, w_add, hS0, hS1, hset]); repeat (refine And.intro (by omega) ?_))
    | ((first | with_reducible apply WL_nil | with_reducible apply W_label | with_reducible apply W_skip | with_reducible apply W_exit | with_reducible apply W_ret | with_reducible apply popsD_done); try simp only [seqK, blockK, scopeK, ↓reduceIte, Nat.reduceEqDiff])
    | with_reducible exact popsD_stop
    | (with_reducible apply W_cond_k; intro _ _ ea eb; (simp only [condK, not_true_eq_false, not_false_eq_true, opnd, constPV, List.getD_cons_zero, List.getD_cons_succ, fr_getD_cons, fr_getD_nil, Nat.reduceEqDiff, Nat.reduceLT, ↓reduceIte, hcb, reduceCtorEq, false_implies, true_implies, forall_const, bne_iff_ne, beq_iff_eq, ne_eq]); subst ea eb; first | (refine ⟨fun hc => ?_, fun hc => ?_⟩ <;> first | (exfalso; omega) | (exfalso; exact hc trivial) | skip) | skip)
    | (with_reducible apply hnx; clear hnx nx)
    | (with_reducible refine And.intro (by omega) ?_)
    | (with_reducible refine And.intro ?_ ?_)
    | (with_reducible refine pcall_k (rot_k G p (-7) 7 (by decide) (by decide) (by decide)) ?_; rintro _ _ ⟨rfl, rfl⟩ -; refine Ev_in ?_)
    | (with_reducible refine pcall_k (rot_k G p (-18) 18 (by decide) (by decide) (by decide)) ?_; rintro _ _ ⟨rfl, rfl⟩ -; refine Ev_in ?_)
    | (with_reducible refine pcall_k (rot_k G q (-17) 17 (by decide) (by decide) (by decide)) ?_; rintro _ _ ⟨rfl, rfl⟩ -; refine Ev_in ?_)
    | (with_reducible refine pcall_k (rot_k G q (-19) 19 (by decide) (by decide) (by decide)) ?_; rintro _ _ ⟨rfl, rfl⟩ -; refine Ev_in ?_)
    | (clear hnx nx; with_reducible apply hnx; clear hnx nx)
    | (clear hnx nx; clear hnx nx; with_reducible apply hnx; clear hnx nx)
    | (clear hnx nx; clear hnx nx; clear hnx nx; with_reducible apply hnx; clear hnx nx))
      all_goals first
        | (exfalso
           omega)
        | (refine hlp _ (64 - (t + 1)) _ (by omega) ?_ ⟨t + 1, by omega, rfl, rfl⟩
           refine Wk_fr (by simp only [List.forall_mem_cons, List.not_mem_nil, false_implies, implies_true, and_true, true_and, and_self, fr_getD_cons, fr_getD_nil, Nat.reduceEqDiff, Nat.reduceLT, ↓reduceIte, Int.natCast_add, Int.cast_ofNat_Int, Int.natCast_zero]) ?_
           exact ⟨by simp, by simp [names, hN]⟩)
    · have ht64 : t = 64 := by omega
      subst ht64
      have hcf := cW_full b
      have hone := all_one_pw (WLs b 64)
      have hwl := WLs_len b 64
      have hc0 := cW_len b 0
      have htk : List.take 64 ((WLs b 64).map pw) = (WLs b 64).map pw := List.take_of_length_le (by simp [hwl])
      have hdr : List.drop 64 (cW b 0) = [] := List.drop_of_length_le (by omega)
      rw [hcf]
      repeat' (first
    | (with_reducible apply W_seq_k; intro nx hnx)
    | with_reducible apply W_block
    | with_reducible apply W_scope
    | (with_reducible refine W_prune 29364189 ?_; simp only [prune_cons, prune_nil, Nat.reducePow, Nat.reduceDiv, Nat.reduceMod, Nat.reduceBEq, cond_true, cond_false]; with_reducible apply W_region_l)
    | (with_reducible refine W_prune 29364189 ?_; simp only [prune_cons, prune_nil, Nat.reducePow, Nat.reduceDiv, Nat.reduceMod, Nat.reduceBEq, cond_true, cond_false]; with_reducible refine W_region_draw (id := 11) 1 (.op 0 true (.op 1 true (.op 2 true (.op 3 true (.op 4 true (.op 5 true (.op 6 true (.op 7 true (.op 8 true (.op 9 true (.done))))))))))) (by kernel_rfl) ?_)
    | (with_reducible refine W_prune 29364189 ?_; simp only [prune_cons, prune_nil, Nat.reducePow, Nat.reduceDiv, Nat.reduceMod, Nat.reduceBEq, cond_true, cond_false]; with_reducible refine W_region_draw (id := 14) 1 (.op 0 true (.op 1 true (.op 2 true (.op 3 true (.op 4 true (.op 5 true (.op 6 true (.op 7 true (.op 8 true (.op 9 true (.op 10 true (.op 11 true (.op 12 true (.op 13 true (.op 14 true (.op 15 false (.done))))))))))))))))) (by kernel_rfl) ?_)
    | ((first | (with_reducible apply WL_op; intro nx hnx) | with_reducible refine Ev_out ?_ | (with_reducible apply popsD_op; intro nx hnx) | (with_reducible refine popsD_alt ?_ ?_; intro nx hnx) | (with_reducible refine pfresh_k hnm fun nm hnm => ?_; (try simp only [List.forall_mem_cons, List.not_mem_nil, false_implies, implies_true, and_true, true_and, ne_eq] at hnm))); try (simp (maxSteps := 2000000) (disch := omega) only [evb, ↓popG_eq, ↓pop.eq_1, ↓List.getElem?_map, ↓List.getElem?_cons_zero, ↓List.getElem?_cons_succ, pbuiltin, opnd, constPV, PState.put, layFrom, List.set, pnck, seqK, blockK, scopeK, pbin, pun, ppick, plen, pldop, pload, pfaddr, piaddr, pindex, pfield, pslice, pbound, pconv, pelems, pextract, pmm, parr, pbuild, pfill, PV.mem?, PV.one, PV.cells, pageq, peqs, peq1, palloc, pbox, pbuildS, pmakes, pstore, pappend, pcopy, pbytes, pmark, psrc, vcells, Value.oneCell', look, upd, del, names, Nat.reduceAdd, Nat.reduceMul, Nat.reduceSub, Nat.reduceLeDiff, Nat.reduceEqDiff, ↓reduceIte, ne_eq, reduceCtorEq, forall_const, times, Value.cells, exists_and_left, exists_eq_left', eq_self, Nat.reduceLT, Int.reduceLT, Int.reduceLE, Int.reduceToNat, Int.reduceAdd, Int.reduceSub, Int.reduceNeg, hnm, Tryd.tf0, Tryd.tf3, Tryd.tf4, Tryd.tf5, Tryd.teq30, Tryd.tf53, Tryd.teq57, Tryd.teq58, Tryd.tf78, Tryd.teq79, Tryd.teq80, Tryd.teq86, Tryd.teq88, Tryd.tf95, Tryd.tf96, Tryd.teq96, Tryd.teq98, Tryd.call74, hN1, hN4, hwl, htk, hone, hc0, hdr, Nat.min_self]); repeat (refine And.intro (by omega) ?_))
    | ((first | with_reducible apply WL_nil | with_reducible apply W_label | with_reducible apply W_skip | with_reducible apply W_exit | with_reducible apply W_ret | with_reducible apply popsD_done); try simp only [seqK, blockK, scopeK, ↓reduceIte, Nat.reduceEqDiff])
    | with_reducible exact popsD_stop
    | (with_reducible apply W_cond_k; intro _ _ ea eb; (simp only [condK, not_true_eq_false, not_false_eq_true, opnd, constPV, List.getD_cons_zero, List.getD_cons_succ, fr_getD_cons, fr_getD_nil, Nat.reduceEqDiff, Nat.reduceLT, ↓reduceIte, hcb, reduceCtorEq, false_implies, true_implies, forall_const, bne_iff_ne, beq_iff_eq, ne_eq]); subst ea eb; first | (refine ⟨fun hc => ?_, fun hc => ?_⟩ <;> first | (exfalso; omega) | (exfalso; exact hc trivial) | skip) | skip)
    | (with_reducible apply hnx; clear hnx nx)
    | (with_reducible refine And.intro (by omega) ?_)
    | (with_reducible refine And.intro ?_ ?_)
    | (clear hnx nx; with_reducible apply hnx; clear hnx nx)
    | (clear hnx nx; clear hnx nx; with_reducible apply hnx; clear hnx nx)
    | (clear hnx nx; clear hnx nx; clear hnx nx; with_reducible apply hnx; clear hnx nx))
      refine hfin _ _ (Fin_cell (res := .agg ((WLs b 64).map pw)) Tryd.tf96 (n := N2) (off := 0) (o := ⟨96, false, 0, (WLs b 64).map pw⟩) (by simp only [fr_getD_cons, Nat.reduceEqDiff, Nat.reduceLT, ↓reduceIte]) (by simp [look, hN1]) ?_ (Sub_nil _) ⟨rfl, rfl⟩)
      simp [pload, hwl, htk, hone]
end Go.PM
