/- The pure machine, part s: regions that draw their order. Conditions: none. -/
import Derived.Test.YtaiflmbhciophaaPmr
import Derived.Orders
set_option linter.unusedSimpArgs false
set_option linter.unusedVariables false
namespace Go.PM
open Go.RowKit

/-- An operation that hands back a value and leaves the world as it is. -/
def isD (P : Program) : Op → Bool
  | .move _ | .assign _ | .pick _ _ _ | .build _ _ | .load _ _ | .nilCheck _ | .binOp _ _ _ _ _ | .unOp _ _ _ | .sliceToArrayPointer _ _ | .makeFunc _ _ _ | .slice _ _ _ _ _
  | .fieldAddr _ _ _ | .field _ _ _ | .indexAddr _ _ _ | .index _ _ _ | .extract _ _ => true
  | .convert s d _ => match tf P s, tf P d with
    | some ⟨.string, _, _, _, _⟩, some ⟨.slice _ _ _, _, _, _, _⟩ => false
    | _, _ => true
  | .call c => match c.callee with
    | .builtin .len | .builtin .min | .builtin .max => true
    | _ => false
  | _ => false

/-- An operation that does not look at the world. -/
def isM : Op → Bool
  | .move _ | .assign _ => true
  | _ => false

section
variable {P : Program} {G : Globs} {E : Amb} {A : Nat → Prop} {σ : PState} {a : Act} {w : World} {o : Oper} {K : PState → Prop} {q : Bool}

theorem pop_gives (hs : Sim G E A σ a w) (hd : isD P o.op = true) (h : pop q P G o σ K) : ∃ r, K (σ.put o.dst r) ∧ Gives P w A a.eval o r := by
  have hob : ∀ n o, look σ.heap n = some o → ObjRep w A n o := fun n o h => hs.objs n o (look_mem h)
  unfold pop at h
  split at h
  · rename_i x ho
    exact ⟨_, h, _, hs.opnd x, fun w' _ => by unfold execOp; simp [ho]⟩
  · rename_i x ho
    exact ⟨_, h, _, hs.opnd x, fun w' _ => by unfold execOp; simp [ho]⟩
  · rename_i c x y ho
    exact ppick_sound ho (hs.opnd c) (hs.opnd x) (hs.opnd y) h
  · rename_i t ho
    rw [ho] at hd; cases hd
  · rename_i t x ho
    rw [ho] at hd; cases hd
  · rename_i t ps ho
    exact pbuild_sound (parts := ps.toList) (by simpa using ho) hs.opnd h
  · rename_i t n ps ho
    rw [ho] at hd; cases hd
  · rename_i t x ho
    exact pldop_sound ho (hs.opnd x) hob h
  · rename_i t x y ho
    rw [ho] at hd; cases hd
  · rename_i x ho
    exact gives_nil ho hs h
  · rename_i op t x y u ho
    split at h
    · exact pageq_sound (neg := false) ho (hs.opnd x) (hs.opnd y) h
    · exact pageq_sound (neg := true) ho (hs.opnd x) (hs.opnd y) h
    · exact pageq_sound (neg := false) ho (hs.opnd x) (hs.opnd y) h
    · exact pageq_sound (neg := true) ho (hs.opnd x) (hs.opnd y) h
    · exact pbin_sound ho (hs.opnd x) (hs.opnd y) h
  · rename_i op t x ho
    exact pun_sound ho (hs.opnd x) h
  · rename_i s d x ho
    split at h
    · rename_i h1 h2
      rw [ho] at hd
      simp [isD, h1, h2] at hd
    · exact pconv_sound ho (hs.opnd x) hob h
  · rename_i t x ho
    exact parr_sound ho (hs.opnd x) h
  · rename_i fn first cs ho
    split at h
    · rename_i f hfirst
      have e1 : first = #[] := by simpa using hfirst
      subst e1
      exact pfunc_sound (cs := cs.toList) (by simpa using ho) hs.opnd h
    · exact h.elim
  · rename_i t l c ho
    rw [ho] at hd; cases hd
  · rename_i t x lo hi mx ho
    exact pslice_sound ho hs.opnd h
  · rename_i t x k ho
    exact pfaddr_sound ho (hs.opnd x) h
  · rename_i t x k ho
    exact pfield_sound ho (hs.opnd x) h
  · rename_i t x i ho
    exact piaddr_sound ho (hs.opnd x) (hs.opnd i) h
  · rename_i t x i ho
    exact pindex_sound ho (hs.opnd x) (hs.opnd i) h
  · rename_i x k ho
    exact pextract_sound ho (hs.opnd x) h
  · rename_i c ho
    obtain ⟨callee, ⟨xs⟩, ⟨ts⟩⟩ := c
    simp only at h ho
    rw [ho] at hd
    split at h
    · rename_i b
      unfold pbuiltin at h
      split at h
      · split at h
        · exact plen_sound (ty := 0) ho (hs.opnd _) h
        · exact h.elim
      · cases hd
      · cases hd
      · exact pmm_sound (mn := true) (xs := xs) ho hs.opnd h
      · exact pmm_sound (mn := false) (xs := xs) ho hs.opnd h
      · exact h.elim
    · cases hd
    · exact h.elim
  · exact h.elim
end

section
variable {P : Program} {ops : Array Oper} {Q : Exit → Act → World → Prop} {md : Region.Mode}

theorem Keeps.trans {a b c : World} (h : Keeps a b) (k : Keeps b c) : Keeps a c := by
  intro x hx
  have h1 := h x hx
  have hlt : x < b.heap.size := by
    rw [Array.getElem?_eq_getElem hx] at h1
    exact (Array.getElem?_eq_some_iff.1 h1).1
  rw [k x hlt, h1]

/-- Does j come ahead of i? (f: how many steps are looked at) -/
def before (md : Region.Mode) (ops : Array Oper) : Nat → Nat → Nat → Bool
  | 0, _, _ => false
  | f + 1, j, i => match ops[i]? with
    | none => false
    | some o => (o.after.any fun e => Region.binds md e && e.on == j) || o.after.any fun e => Region.binds md e && before md ops f j e.on

def tailOk (md : Region.Mode) (ops : Array Oper) (f : Nat) (listed : Array Bool) (i : Nat) : Bool :=
  (List.range ops.size).all fun j => !(listed.getD j false) || (match ops[j]? with | some o => isM o.op | none => true) || before md ops f j i

def Closed (md : Region.Mode) (ops : Array Oper) (listed : Array Bool) : Prop :=
  ∀ j o, listed.getD j false = true → ops[j]? = some o → ∀ e ∈ o.after, Region.binds md e = true → listed.getD e.on false = true

theorem before_listed {listed : Array Bool} (hc : Closed md ops listed) {i : Nat} : ∀ (f j : Nat) (o : Oper), ops[j]? = some o → (∀ e ∈ o.after, Region.binds md e = true → listed.getD e.on false = true) →
    before md ops f i j = true → listed.getD i false = true
  | 0, _, _, _, _, h => by simp [before] at h
  | f + 1, j, o, ho, hall, h => by
    simp only [before, ho, Bool.or_eq_true] at h
    rcases h with h | h
    · obtain ⟨e, he, hb⟩ := Array.any_eq_true'.1 h
      simp only [Bool.and_eq_true, beq_iff_eq] at hb
      exact hb.2 ▸ hall e he hb.1
    · obtain ⟨e, he, hb⟩ := Array.any_eq_true'.1 h
      simp only [Bool.and_eq_true] at hb
      have hl := hall e he hb.1
      cases hq : ops[e.on]? with
      | none =>
        have h2 := hb.2
        cases f with
        | zero => simp [before] at h2
        | succ f => simp [before, hq] at h2
      | some o' => exact before_listed hc f e.on o' hq (hc e.on o' hl hq) hb.2

/-- All orders, with what each step leaves as it was. -/
def wpAnyK (P : Program) (md : Region.Mode) (ops : Array Oper) (f : Nat) (Q : Exit → Act → World → Prop) : Nat → Array Bool → Array Bool → Act → World → Prop
  | 0, listed, _, a, w => Region.ready md ops listed = [] ∧ Q .normal a w
  | fuel + 1, listed, loose, a, w =>
    (Region.ready md ops listed = [] → Q .normal a w) ∧
    ∀ i ∈ Region.ready md ops listed, wpOp P ops Q i (fun a' w' => (tailOk md ops f loose i = false → Keeps w w') ∧ wpAnyK P md ops f Q fuel (listed.setIfInBounds i true) loose a' w') a w

theorem wpAnyK_any {f : Nat} : ∀ (fuel : Nat) (listed loose : Array Bool) (a : Act) (w : World), wpAnyK P md ops f Q fuel listed loose a w → wpAny P md ops Q fuel listed a w
  | 0, _, _, _, _, h => h
  | fuel + 1, listed, _, a, w, h => ⟨h.1, fun i hi => wpOp_mono (fun a' w' h' => wpAnyK_any fuel _ _ a' w' h'.2) (h.2 i hi)⟩

theorem tailOk_less {f i j : Nat} {loose : Array Bool} (ht : tailOk md ops f loose j = false) : tailOk md ops f (loose.setIfInBounds i true) j = false := by
  cases ht2 : tailOk md ops f (loose.setIfInBounds i true) j with
  | false => rfl
  | true =>
    exfalso
    rw [show tailOk md ops f loose j = true from ?_] at ht
    · cases ht
    · refine List.all_eq_true.2 fun k hk => ?_
      have := List.all_eq_true.1 ht2 k hk
      cases hlk : loose.getD k false with
      | false => simp
      | true =>
        rw [getD_set_true hlk] at this
        simpa using this

theorem wpAnyK_less {f i : Nat} : ∀ (fuel : Nat) (listed loose : Array Bool) (a : Act) (w : World), wpAnyK P md ops f Q fuel listed (loose.setIfInBounds i true) a w → wpAnyK P md ops f Q fuel listed loose a w
  | 0, _, _, _, _, h => h
  | fuel + 1, listed, loose, a, w, h => ⟨h.1, fun j hj => wpOp_mono (fun a' w' h' => ⟨fun ht => h'.1 (tailOk_less ht), wpAnyK_less fuel _ _ a' w' h'.2⟩) (h.2 j hj)⟩

def YieldsC (P : Program) (ops : Array Oper) (o : Oper) (v : Value) (a : Act) (w : World) : Prop :=
  (Region.wanted o (yielded ops a.tmps) = true ∧ ∀ w', (isM o.op = false → Keeps w w') → (execOp a.eval o).run P w' = .ok (.value v) w') ∨
  (Region.wanted o (yielded ops a.tmps) = false ∧ v = undef)

theorem YieldsC.wpOp {i : Nat} {o : Oper} {v : Value} {a : Act} {w : World} (hi : ops[i]? = some o) (hy : YieldsC P ops o v a w)
    {K : Act → World → Prop} (h : K (a.put o.dst v) w) : wpOp P ops Q i K a w := by
  unfold Go.wpOp
  simp only [hi]
  rcases hy with ⟨hw, hv⟩ | ⟨hw, rfl⟩
  · simp only [hw, if_true, Oper.wp, hv w (fun _ => Keeps.refl w), Oper.upon]; exact .inl h
  · simp only [hw, Bool.false_eq_true, if_false]; exact h

theorem YieldsC.of_same {o : Oper} {v : Value} {a a' : Act} {w w' : World} (hy : YieldsC P ops o v a w) (he : execOp a'.eval o = execOp a.eval o)
    (hw : Region.wanted o (yielded ops a'.tmps) = Region.wanted o (yielded ops a.tmps)) (hk : isM o.op = false → Keeps w w') : YieldsC P ops o v a' w' := by
  unfold YieldsC at *
  rw [he, hw]
  rcases hy with ⟨h1, h2⟩ | h
  · exact .inl ⟨h1, fun w'' hk'' => h2 w'' fun hm => (hk hm).trans (hk'' hm)⟩
  · exact .inr h

theorem wpOp_putC {j : Nat} {oi oj : Oper} {v : Value} (hj : ops[j]? = some oj) (hap : oi.apart ops oj = true)
    (hsi : ∀ cs b, oi.op ≠ .select cs b) (hsj : ∀ cs b, oj.op ≠ .select cs b)
    (hQ : ∀ c a w, Q (.panic c) (a.put oi.dst v) w → Q (.panic c) a w) {K : Act → World → Prop} {a : Act} {w : World}
    (hy : YieldsC P ops oi v a w) (h : wpOp P ops Q j (fun a' w' => (isM oi.op = false → Keeps w w') ∧ K a' w') (a.put oi.dst v) w) :
    wpOp P ops Q j (fun a' w' => YieldsC P ops oi v a' w' ∧ (isM oi.op = false → Keeps w w') ∧ K (a'.put oi.dst v) w') a w := by
  obtain ⟨h1, h2, h3⟩ := Oper.apart_spec hap
  have keep : ∀ (a : Act) (w w' : World), YieldsC P ops oi v a w → (isM oi.op = false → Keeps w w') → ∀ u, YieldsC P ops oi v (a.put oj.dst u) w' := fun a w w' hy hk u =>
    hy.of_same (execOp_put oi hsi a oj.dst u h3) (wanted_put oi a oj.dst u h3) hk
  have keepD : ∀ d, YieldsC P ops oi v { a with defers := d :: a.defers } w := fun d => hy.of_same rfl rfl (fun _ => Keeps.refl w)
  unfold wpOp at *
  simp only [hj] at *
  rw [wanted_put oj a oi.dst v h1] at h
  split
  · rename_i hw
    simp only [hw, if_true] at h
    rcases h with h | ⟨hasks, hlets⟩
    case inr => exact .inr ⟨by unfold Oper.asks at *; rw [execOp_put oj hsj a oi.dst v h1] at hasks; exact hasks, hlets⟩
    refine .inl ?_
    unfold Oper.wp at *
    rw [execOp_put oj hsj a oi.dst v h1] at h
    generalize (execOp a.eval oj).run P w = r at *
    cases r with
    | ok n w' =>
      cases n <;> simp only [Oper.upon] at h ⊢
      case value u => exact ⟨keep a w w' hy h.1 u, h.1, by rw [← Act.put_comm a v u h2]; exact h.2⟩
      case skip => exact ⟨keep a w w' hy h.1 _, h.1, by rw [← Act.put_comm a v undef h2]; exact h.2⟩
      case defer d =>
        refine ⟨keep _ w w' (keepD d) h.1 _, h.1, ?_⟩
        rw [← Act.put_comm _ v undef h2, ← Act.put_defers]
        exact h.2
      case enter f args =>
        refine Calls.mono h fun e w'' he => ?_
        cases e with
        | returned u => exact ⟨keep a w w'' hy he.1 u, he.1, by rw [← Act.put_comm a v u h2]; exact he.2⟩
        | panicked c => exact hQ _ _ _ he
        | outgrown => exact he
      case row row args => exact Rows.mono h fun u w'' he => ⟨keep a w w'' hy he.1 u, he.1, by rw [← Act.put_comm a v u h2]; exact he.2⟩
    | halt x w' =>
      cases x <;> simp only [Oper.upon] at h ⊢
      case panic u => exact hQ _ _ _ h
  · rename_i hw
    simp only [hw] at h
    exact ⟨keep a w w hy h.1 _, h.1, by rw [← Act.put_comm a v undef h2]; exact h.2⟩

theorem Closed.set {listed : Array Bool} (hc : Closed md ops listed) {i : Nat} (hr : i ∈ Region.ready md ops listed) : Closed md ops (listed.setIfInBounds i true) := by
  obtain ⟨_, oi, hoi, hall⟩ := mem_ready.1 hr
  intro j o hj ho e he hb
  by_cases hij : i = j
  · subst hij
    rw [hoi] at ho
    cases ho
    exact getD_set_true (hall e he hb)
  · rw [getD_set_ne false hij] at hj
    exact getD_set_true (hc j o hj ho e he hb)

theorem wpAnyK_first {f i : Nat} {oi : Oper} {v : Value} (hi : ops[i]? = some oi) (hsel : ∀ (j : Nat) (o : Oper) cs b, ops[j]? = some o → o.op ≠ .select cs b)
    (hQ : ∀ c a w, Q (.panic c) (a.put oi.dst v) w → Q (.panic c) a w) :
    ∀ (fuel : Nat) (listed loose : Array Bool) (a : Act) (w : World), Closed md ops listed → loose.size = listed.size →
      (∀ j oj, ops[j]? = some oj → j ≠ i → listed.getD j true = false → (∀ e ∈ oj.after, Region.binds md e = true → e.on ≠ i) → oi.apart ops oj = true) →
      i ∈ Region.ready md ops listed → YieldsC P ops oi v a w →
      wpAnyK P md ops f Q fuel (listed.setIfInBounds i true) (loose.setIfInBounds i true) (a.put oi.dst v) w → wpAnyK P md ops f Q (fuel + 1) listed loose a w := by
  intro fuel
  induction fuel with
  | zero =>
    intro listed loose a w _ hsz _ hr hy H
    refine ⟨fun h => (by rw [h] at hr; cases hr), fun j hj => ?_⟩
    by_cases hji : j = i
    · subst hji; exact hy.wpOp hi ⟨fun _ => Keeps.refl w, wpAnyK_less _ _ _ _ _ H⟩
    · have := ready_mono hj hji
      rw [H.1] at this
      cases this
  | succ fuel ih =>
    intro listed loose a w hcl hsz hfree hr hy H
    refine ⟨fun h => (by rw [h] at hr; cases hr), fun j hj => ?_⟩
    by_cases hji : j = i
    · subst hji; exact hy.wpOp hi ⟨fun _ => Keeps.refl w, wpAnyK_less _ _ _ _ _ H⟩
    · have h1 := H.2 j (ready_mono hj hji)
      obtain ⟨hjun, oj, hoj, hall⟩ := mem_ready.1 hj
      have hiun : listed.getD i false = false := by
        have h0 := (mem_ready.1 hr).1
        rcases Nat.lt_or_ge i listed.size with h' | h'
        · simp [h'] at h0 ⊢; exact h0
        · simp [Array.getElem?_eq_none h'] at h0
      have hnot : ∀ e ∈ oj.after, Region.binds md e = true → e.on ≠ i := fun e he hb heq => by
        have h1 := hall e he hb
        rw [heq, hiun] at h1
        cases h1
      have hntail : isM oi.op = false → tailOk md ops f (loose.setIfInBounds i true) j = false := by
        intro hm
        cases ht : tailOk md ops f (loose.setIfInBounds i true) j with
        | false => rfl
        | true =>
          exfalso
          have hlt : i < ops.size := (Array.getElem?_eq_some_iff.1 hi).1
          have hb := List.all_eq_true.1 ht i (List.mem_range.2 hlt)
          have hset : (loose.setIfInBounds i true).getD i false = true := by
            have h0 := (mem_ready.1 hr).1
            rcases Nat.lt_or_ge i listed.size with h' | h'
            · simp [hsz, h']
            · simp [Array.getElem?_eq_none h'] at h0
          simp only [hset, hi, hm, Bool.not_true, Bool.false_or] at hb
          have := before_listed hcl f j oj hoj hall hb
          rw [hiun] at this
          cases this
      have h2 := wpOp_putC hoj (hfree j oj hoj hji hjun hnot) (fun cs b => hsel i oi cs b hi) (fun cs b => hsel j oj cs b hoj) hQ hy
        (K := fun a' w' => (tailOk md ops f (loose.setIfInBounds i true) j = false → Keeps w w') ∧ wpAnyK P md ops f Q fuel ((listed.setIfInBounds i true).setIfInBounds j true) (loose.setIfInBounds i true) a' w')
        (wpOp_mono (fun a' w' h => ⟨fun hm => h.1 (hntail hm), h⟩) h1)
      have hfree' : ∀ k ok, ops[k]? = some ok → k ≠ i → (listed.setIfInBounds j true).getD k true = false →
          (∀ e ∈ ok.after, Region.binds md e = true → e.on ≠ i) → oi.apart ops ok = true := fun k ok hk hki hun hno => by
        refine hfree k ok hk hki ?_ hno
        by_cases hjk : j = k
        · subst hjk; exact hjun
        · rw [getD_set_ne true hjk] at hun; exact hun
      have htl : tailOk md ops f loose j = false → tailOk md ops f (loose.setIfInBounds i true) j = false := by
        intro ht
        cases ht2 : tailOk md ops f (loose.setIfInBounds i true) j with
        | false => rfl
        | true =>
          exfalso
          rw [show tailOk md ops f loose j = true from ?_] at ht
          · cases ht
          · refine List.all_eq_true.2 fun k hk => ?_
            have := List.all_eq_true.1 ht2 k hk
            cases hlk : loose.getD k false with
            | false => simp
            | true =>
              rw [getD_set_true hlk] at this
              simpa using this
      refine wpOp_mono (fun a' w' h3 => ⟨fun ht => h3.2.2.1 (htl ht), ih (listed.setIfInBounds j true) loose a' w' (hcl.set hj) (by simpa using hsz) hfree' (ready_mono hr (Ne.symm hji)) h3.1 ?_⟩) h2
      rw [Array.setIfInBounds_comm _ _ hji]
      exact h3.2.2.2

/-- An order that stands for all: 'op' names the next operation (and whether it is to be quiet); 'alt' several of which any may be next. -/
inductive Plan where
  | done
  | stop
  | op (i : Nat) (q : Bool) (r : Plan)
  | alt (i : Nat) (q : Bool) (p more : Plan)

def planOk (P : Program) (md : Region.Mode) (ops : Array Oper) (f : Nat) : Plan → Nat → Array Bool → Array Bool → List Nat → Bool
  | .done, _, listed, _, cov => (Region.ready md ops listed).isEmpty && cov.isEmpty
  | .stop, n, listed, _, cov => n != 0 && !(Region.ready md ops listed).isEmpty && (Region.ready md ops listed).all fun i => cov.contains i
  | .op _ _ _, 0, _, _, _ => false
  | .op i q r, n + 1, listed, loose, cov => cov.isEmpty && (match ops[i]? with
    | none => false
    | some o => if isD P o.op then q && Region.free md ops listed i && (Region.ready md ops listed).contains i && planOk P md ops f r n (listed.setIfInBounds i true) (loose.setIfInBounds i true) []
      else (match Region.ready md ops listed with | [k] => k == i | _ => false) && (q || tailOk md ops f loose i) && planOk P md ops f r n (listed.setIfInBounds i true) loose [])
  | .alt _ _ _ _, 0, _, _, _ => false
  | .alt i q p more, n + 1, listed, loose, cov => (q || tailOk md ops f loose i) && (Region.ready md ops listed).contains i && planOk P md ops f p n (listed.setIfInBounds i true) loose [] && planOk P md ops f more (n + 1) listed loose (i :: cov)

def planAll (P : Program) (l : List Oper) (f : Nat) (L : Plan) : Bool :=
  Region.noSelect l.toArray && P.follows .mixedOrders && planOk P .any l.toArray f L l.length (Array.replicate l.length false) (Array.replicate l.length false) []
end

section
variable {P : Program} {G : Globs} {E : Amb} {K : PState → Prop}

/-- one operation, with its guard -/
def popG (P : Program) (G : Globs) (ds : List (Option Tmp)) (o : Oper) (q : Bool) (σ : PState) [c : Cont] : Prop :=
  match o.guard with
  | none => pop q P G o σ c.k
  | some (g, want) => match (ds[g]?).join with
    | some s => match σ.frame.getD s .junk with
      | .val (.bool b) => @pguard b want ⟨pop q P G o (σ.put (some s) (pbool want)) c.k, c.k ((σ.put (some s) (pbool (!want))).put o.dst (.val (.tuple #[])))⟩
      | .val (.tuple _) => c.k (σ.put o.dst (.val (.tuple #[])))
      | _ => False
    | none => False

/-- operations in the order L -/
def popsD (P : Program) (G : Globs) (ds : List (Option Tmp)) (l : List Oper) : Plan → PState → (PState → Prop) → Prop
  | .done, σ, K => K σ
  | .stop, _, _ => True
  | .op i q r, σ, K => match l[i]? with
    | none => False
    | some o => @popG P G ds o q σ ⟨fun σ' => popsD P G ds l r σ' K⟩
  | .alt i q p more, σ, K => (match l[i]? with
    | none => False
    | some o => @popG P G ds o q σ ⟨fun σ' => popsD P G ds l p σ' K⟩) ∧ popsD P G ds l more σ K

theorem popG_case {ops : Array Oper} {o : Oper} {q : Bool} {σ : PState} {A : Nat → Prop} {a : Act} {w : World} {K : PState → Prop} (hs : Sim G E A σ a w) (h : @popG P G (ops.toList.map (·.dst)) o q σ ⟨K⟩) :
    (Region.wanted o (yielded ops a.tmps) = true ∧ ∃ σ1, Sim G E A σ1 a w ∧ pop q P G o σ1 K) ∨ (Region.wanted o (yielded ops a.tmps) = false ∧ ∃ σ1, Sim G E A σ1 (a.put o.dst undef) w ∧ K σ1) := by
  unfold popG at h
  split at h
  · rename_i hg
    exact .inl ⟨by simp [Region.wanted, hg], σ, hs, h⟩
  · rename_i g want hg
    split at h
    · rename_i s hd
      split at h
      · rename_i b hf
        obtain ⟨hy, x, hx, rfl⟩ := yielded_of hs hd hf
        by_cases hb : b = want
        · subst hb
          exact .inl ⟨by simp [Region.wanted, hg, hy], _, put_same hs hx (.val _), h.1 rfl⟩
        · have hb' : b = !want := by
            revert hb
            cases b <;> cases want <;> decide
          subst hb'
          exact .inr ⟨by simp [Region.wanted, hg, hy], _, (put_same hs hx (.val _)).put o.dst (.val _), h.2 rfl⟩
      · rename_i vs hf
        have hy := yielded_none hs hd hf
        exact .inr ⟨by simp [Region.wanted, hg, hy], _, hs.put o.dst (.val _), h⟩
      · exact h.elim
    · exact h.elim

theorem popG_step {ops : Array Oper} {f i : Nat} {md : Region.Mode} {Q : Exit → Act → World → Prop} {o : Oper} {q : Bool} {σ : PState} {A : Nat → Prop} {a : Act} {w : World} {K : PState → Prop} {loose : Array Bool} {R : Act → World → Prop}
    (ho : ops[i]? = some o) (hs : Sim G E A σ a w) (h : @popG P G (ops.toList.map (·.dst)) o q σ ⟨K⟩) (hqt : q = true ∨ tailOk md ops f loose i = true) (rest : ∀ σ' A' a' w', Sim G E A' σ' a' w' → K σ' → R a' w') :
    wpOp P ops Q i (fun a' w' => (tailOk md ops f loose i = false → Keeps w w') ∧ R a' w') a w := by
  unfold wpOp
  simp only [ho]
  rcases popG_case hs h with ⟨hw, σ1, hs1, h1⟩ | ⟨hw, σ1, hs1, h1⟩
  · rw [if_pos hw]
    refine .inl (pop_sound hs1 h1 fun σ' A' a' w' hk hs' hkeep => ⟨fun ht => ?_, rest σ' A' a' w' hs' hk⟩)
    rcases hqt with hq | hq
    · exact hkeep hq
    · rw [hq] at ht; cases ht
  · rw [if_neg (by simp [hw])]
    exact ⟨fun _ => Keeps.refl w, rest _ _ _ _ hs1 h1⟩

/-- What is known of a plan that was gone through. -/
def Gone (P : Program) (md : Region.Mode) (ops : Array Oper) (f : Nat) (Q : Exit → Act → World → Prop) (p : Plan) (n : Nat) (listed loose : Array Bool) (cov : List Nat) (a : Act) (w : World) : Prop :=
  match p with
  | .done | .op _ _ _ => wpAnyK P md ops f Q n listed loose a w
  | .stop | .alt _ _ _ _ => ∃ m, n = m + 1 ∧ Region.ready md ops listed ≠ [] ∧ ∀ j ∈ Region.ready md ops listed, j ∈ cov ∨
      wpOp P ops Q j (fun a' w' => (tailOk md ops f loose j = false → Keeps w w') ∧ wpAnyK P md ops f Q m (listed.setIfInBounds j true) loose a' w') a w

theorem Gone.any {md : Region.Mode} {ops : Array Oper} {f n : Nat} {Q : Exit → Act → World → Prop} {p : Plan} {listed loose : Array Bool} {a : Act} {w : World} (h : Gone P md ops f Q p n listed loose [] a w) : wpAnyK P md ops f Q n listed loose a w := by
  unfold Gone at h
  split at h
  · exact h
  · exact h
  · obtain ⟨m, rfl, hne, hall⟩ := h
    exact ⟨fun e => absurd e hne, fun j hj => (hall j hj).resolve_left (by simp)⟩
  · obtain ⟨m, rfl, hne, hall⟩ := h
    exact ⟨fun e => absurd e hne, fun j hj => (hall j hj).resolve_left (by simp)⟩

theorem popsD_sound {ops : Array Oper} {f : Nat} {md : Region.Mode} {Q : Exit → Act → World → Prop} (hsel : Region.noSelect ops = true) (hQ : ∀ c a w, ¬ Q (.panic c) a w)
    (hq : ∀ σ' A' a' w', K σ' → Sim G E A' σ' a' w' → Q .normal a' w') :
    ∀ (L : Plan) (n : Nat) (listed loose : Array Bool) (cov : List Nat) (σ : PState) (A : Nat → Prop) (a : Act) (w : World), Sim G E A σ a w → Closed md ops listed → loose.size = listed.size → planOk P md ops f L n listed loose cov = true →
      popsD P G (ops.toList.map (·.dst)) ops.toList L σ K → Gone P md ops f Q L n listed loose cov a w
  | .done, n, listed, loose, cov, σ, A, a, w, hs, _, _, hp, h => by
    simp only [planOk, List.isEmpty_iff, Bool.and_eq_true] at hp
    show wpAnyK P md ops f Q n listed loose a w
    cases n with
    | zero => exact ⟨hp.1, hq σ A a w h hs⟩
    | succ n => exact ⟨fun _ => hq σ A a w h hs, fun i hi => by rw [hp.1] at hi; cases hi⟩
  | .stop, n, listed, loose, cov, σ, A, a, w, hs, _, _, hp, h => by
    simp only [planOk, Bool.and_eq_true, bne_iff_ne, ne_eq, Bool.not_eq_true', List.isEmpty_eq_false_iff, List.all_eq_true, List.contains_iff_mem] at hp
    obtain ⟨⟨h1, h2⟩, h3⟩ := hp
    refine ⟨n - 1, by omega, h2, fun j hj => .inl (h3 j hj)⟩
  | .op i q r, 0, listed, loose, cov, σ, A, a, w, hs, _, _, hp, h => by simp [planOk] at hp
  | .alt i q p more, 0, listed, loose, cov, σ, A, a, w, hs, _, _, hp, h => by simp [planOk] at hp
  | .alt i q p more, n + 1, listed, loose, cov, σ, A, a, w, hs, hcl, hsz, hp, h => by
    simp only [planOk, Bool.and_eq_true, Bool.or_eq_true, List.contains_iff_mem] at hp
    obtain ⟨⟨⟨hqt, hr⟩, hp1⟩, hp2⟩ := hp
    obtain ⟨h1, h2⟩ := h
    obtain ⟨m, hm, hne, hall⟩ := popsD_sound hsel hQ hq more (n + 1) listed loose (i :: cov) σ A a w hs hcl hsz hp2 h2 |> fun g => (show ∃ m, n + 1 = m + 1 ∧ Region.ready md ops listed ≠ [] ∧ ∀ j ∈ Region.ready md ops listed, j ∈ i :: cov ∨
      wpOp P ops Q j (fun a' w' => (tailOk md ops f loose j = false → Keeps w w') ∧ wpAnyK P md ops f Q m (listed.setIfInBounds j true) loose a' w') a w from by
        cases more with
        | stop => exact g
        | alt _ _ _ _ => exact g
        | done => simp [planOk] at hp2
        | op _ _ _ => simp [planOk] at hp2)
    cases hm
    refine ⟨n, rfl, hne, fun j hj => ?_⟩
    rcases hall j hj with hmem | hst
    · rcases List.mem_cons.1 hmem with rfl | hmem
      · refine .inr ?_
        split at h1
        · exact h1.elim
        · rename_i o ho
          exact popG_step (by simpa using ho) hs h1 hqt fun σ' A' a' w' hs' hk => (popsD_sound hsel hQ hq p n _ _ [] σ' A' a' w' hs' (hcl.set hr) (by simpa using hsz) hp1 hk).any
      · exact .inl hmem
    · exact .inr hst
  | .op i q r, n + 1, listed, loose, cov, σ, A, a, w, hs, hcl, hsz, hp, h => by
    show wpAnyK P md ops f Q (n + 1) listed loose a w
    simp only [popsD] at h
    split at h
    · exact h.elim
    · rename_i o ho
      have ho' : ops[i]? = some o := by simpa using ho
      simp only [planOk, ho', Bool.and_eq_true] at hp
      obtain ⟨_, hp⟩ := hp
      by_cases hD : isD P o.op = true
      · rw [if_pos hD] at hp
        simp only [Bool.and_eq_true] at hp
        obtain ⟨⟨⟨_, hfree⟩, hready⟩, hp2⟩ := hp
        have hr : i ∈ Region.ready md ops listed := List.contains_iff_mem.1 hready
        have hsp := Region.noSelect_spec hsel
        have rest := fun {σ' : PState} {A' : Nat → Prop} {a' : Act} {w' : World} (hs' : Sim G E A' σ' a' w') (h' : popsD P G (ops.toList.map (·.dst)) ops.toList r σ' K) =>
          (popsD_sound hsel hQ hq r n _ _ [] σ' A' a' w' hs' (hcl.set hr) (by simpa using hsz) hp2 h').any
        rcases popG_case hs h with ⟨hw, σ1, hs1, h1⟩ | ⟨hw, σ1, hs1, h1⟩
        · obtain ⟨p, hk, v, hrep, hrun⟩ := pop_gives hs1 hD h1
          refine wpAnyK_first (v := v) ho' hsp (fun c a w h => absurd h (hQ _ _ _)) n listed loose a w hcl hsz (Region.free_spec ho' hfree) hr (.inl ⟨hw, fun w' hk' => ?_⟩) (rest (hs1.put o.dst hrep) hk)
          cases hm : isM o.op with
          | false => exact hrun w' (hk' hm)
          | true =>
            have h0 := hrun w (Keeps.refl w)
            obtain ⟨x, hx⟩ : ∃ x, o.op = .move x ∨ o.op = .assign x := by
              cases hop : o.op <;> rw [hop] at hm <;> first | (cases hm; done) | exact ⟨_, .inl rfl⟩ | exact ⟨_, .inr rfl⟩
            have key : ∀ w', (execOp a.eval o).run P w' = .ok (.value (a.eval x)) w' := by
              intro w'
              unfold execOp
              rcases hx with hx | hx <;> rw [hx] <;> rfl
            rw [key] at h0
            injection h0 with h1 _
            injection h1 with h1
            rw [← h1]
            exact key w'
        · exact wpAnyK_first (v := undef) ho' hsp (fun c a w h => absurd h (hQ _ _ _)) n listed loose a w hcl hsz (Region.free_spec ho' hfree) hr (.inr ⟨hw, rfl⟩) (rest hs1 h1)
      · rw [if_neg hD] at hp
        simp only [Bool.and_eq_true, Bool.or_eq_true] at hp
        obtain ⟨⟨hr1, hqt⟩, hp2⟩ := hp
        have hr : Region.ready md ops listed = [i] := by
          split at hr1
          · rename_i k hk
            rw [hk, beq_iff_eq.1 hr1]
          · cases hr1
        have hmem : i ∈ Region.ready md ops listed := by rw [hr]; exact List.mem_singleton.2 rfl
        refine ⟨fun h0 => (by rw [hr] at h0; cases h0), fun j hj => ?_⟩
        rw [hr] at hj
        rw [List.mem_singleton.1 hj]
        exact popG_step ho' hs h hqt fun σ' A' a' w' hs' hk => (popsD_sound hsel hQ hq r n _ _ [] σ' A' a' w' hs' (hcl.set hmem) (by simpa using hsz) hp2 hk).any

theorem Sim.drew {A : Nat → Prop} {σ : PState} {a : Act} {w : World} (hs : Sim G E A σ a w) : Sim G E A σ a { w with drawn := w.drawn + 1 } := by
  have he : Ext (fun _ => False) w { w with drawn := w.drawn + 1 } := ⟨rfl, rfl, rfl, Nat.le_refl _, fun _ _ _ => rfl, fun _ _ h => h⟩
  refine ⟨hs.ext.trans he (fun _ _ h => h.elim), hs.lt, hs.a0, hs.a1, fun g => (hs.globs g).ext he (fun _ h => h) (fun _ _ h => h), hs.nodup, fun n o h => (hs.objs n o h).ext he (fun _ h => h) (fun _ _ h => h) (fun _ _ h => h), hs.own, hs.neg, hs.defers, hs.size, fun i p hp => ?_⟩
  obtain ⟨v, hv, hr⟩ := hs.frame i p hp
  exact ⟨v, hv, hr.ext he (fun _ h => h) (fun _ _ h => h)⟩

theorem W_region_draw {I : List Int} {id : Nat} {l : List Oper} {K : Exit → PState → Prop} {σ : PState} (f : Nat) (L : Plan) (hp : planAll P l f L = true)
    (h : popsD P G (l.map (·.dst)) l L σ (K .normal)) : W P G I (.region id l.toArray true) σ K := by
  intro E _ A a w hs Q hq
  simp only [planAll, Bool.and_eq_true] at hp
  obtain ⟨⟨h1, h3⟩, h4⟩ := hp
  refine wp_mono (Q := fun e a w => e = .normal ∧ ∃ σ' A', K .normal σ' ∧ Sim G E A' σ' a w) ?_ fun e a w ⟨he, σ', A', hk, hs'⟩ => he ▸ hq _ _ _ _ _ hk hs'
  refine wp_region_any h3 (wpAnyK_any (f := f) _ _ (Array.replicate l.length false) _ _ ?_)
  have := (popsD_sound (P := P) (G := G) (E := E) (K := K .normal) (ops := l.toArray) (f := f) (md := .any) (Q := fun e a w => e = .normal ∧ ∃ σ' A', K .normal σ' ∧ Sim G E A' σ' a w) h1
    (fun c a w h => by obtain ⟨h, _⟩ := h; cases h) (fun σ' A' a' w' hk hs' => ⟨rfl, σ', A', hk, hs'⟩) L l.length (Array.replicate l.length false) (Array.replicate l.length false) [] σ A a _ hs.drew
    (fun j o hj => by
      exfalso
      rcases Nat.lt_or_ge j l.length with h | h
      · simp [h] at hj
      · simp [h] at hj) rfl (by simpa using h4) (by simpa using h)).any
  simpa using this
end
end Go.PM
