/- The pure machine, part p: functions and calls; loops that forget; ghost steps. Conditions: none. -/
import Derived.Test.YtaiflmbhciophaaPmo
set_option linter.unusedSimpArgs false
set_option linter.unusedVariables false
namespace Go.PM
open Go.RowKit

section
variable {P : Program} {G : Globs} {E : Amb} {A : Nat → Prop} {σ : PState} {a : Act} {w : World} {o : Oper} {q : Bool}

/-- What a result variable holds. -/
def PRes (P : Program) (σ : PState) (rv : ResultVar) (p : PV) : Prop :=
  match rv with
  | .tmp t => p = σ.frame.getD t .junk
  | .cell x t => match tf P t, σ.frame.getD x .junk with
    | some F, .ptr n off => match look σ.heap n with
      | some o => pload F o.cells off (fun r => p = r)
      | none => False
    | _, _ => False

def presList (P : Program) (σ : PState) : List ResultVar → List PV → Prop
  | [], [] => True
  | r :: rs, p :: ps => PRes P σ r p ∧ presList P σ rs ps
  | _, _ => False

/-- What a function hands back. -/
def PResult (P : Program) (σ : PState) (rs : List ResultVar) (res : PV) : Prop :=
  match rs with
  | [r] => PRes P σ r res
  | rs => ∃ ps, presList P σ rs ps ∧ res = .tuple ps

def resSem (tmps : Array Value) (rv : ResultVar) : Sem Value :=
  match rv with
  | .tmp t => pure (tmps.getD t undef)
  | .cell x t => do loadVar t (← asAddr (tmps.getD x undef))

theorem results_eq (fn : Func) (tmps : Array Value) : results fn tmps = (do
    let vs ← fn.results.mapM (resSem tmps)
    pure (if h : vs.size = 1 then vs[0] else .tuple vs)) := by
  have : (fun rv : ResultVar => (match rv with
    | .tmp t => pure (tmps.getD t undef)
    | .cell a t => do loadVar t (← asAddr (tmps.getD a undef)) : Sem Value)) = resSem tmps := by
    funext rv
    cases rv <;> rfl
  rw [← this]
  rfl

theorem pres_run (hs : Sim G E A σ a w) {rv : ResultVar} {p : PV} (h : PRes P σ rv p) : ∃ v, Rep w A p v ∧
    Sem.run P (resSem a.tmps rv) w = .ok v w := by
  cases rv with
  | tmp t =>
    simp only [PRes] at h
    subst h
    exact ⟨_, hs.opnd (.tmp t), rfl⟩
  | cell x t =>
    simp only [PRes] at h
    split at h
    · rename_i F n off hF hx
      split at h
      · rename_i ob hl
        have hr := hs.opnd (.tmp x)
        simp only [opnd, hx] at hr
        obtain ⟨b, rfl, hv⟩ := hr.ptr_inv
        obtain ⟨cur, fz, f, hh, _, _, hc⟩ := (hs.objs _ ob (look_mem hl)).block rfl
        obtain ⟨r, hk, v, hrep, hrun⟩ := load_gives (P := P) (w := w) (A := A) (ρ := fun _ => .pointer (some (at_ b off))) (o := ⟨none, .load t (.tmp x), 0, "", #[], none⟩) (K := fun r => p = r) (b := b) (off0 := 0) (off := off) rfl hF (by simp) (cs := ob.cells) (f := f)
          (fun j u hu => by rw [cell_of_block hh, Nat.zero_add]; exact (hc j u hu).1) (fun j u hu => (hc j u hu).2.2) h
        subst hk
        refine ⟨v, hrep, ?_⟩
        have := hrun w (Keeps.refl w)
        unfold execOp at this
        simp only [Instr.loadAt, Instr.sureAddr, Sem.run_bind, Sem.run_pure, Result.andThen_ok] at this
        have hv' : a.tmps.getD x undef = .pointer (some (at_ b off)) := hv
        simp only [resSem, hv', asAddr, Sem.run_bind, Sem.run_pure, Result.andThen_ok]
        generalize Sem.run P (loadVar t (at_ b off)) w = r at this ⊢
        cases r with
        | ok v' w' => simp [Result.andThen] at this; obtain ⟨rfl, rfl⟩ := this; rfl
        | halt x w' => simp [Result.andThen] at this
      · exact h.elim
    · exact h.elim

theorem presList_run (hs : Sim G E A σ a w) : ∀ (rs : List ResultVar) (ps : List PV), presList P σ rs ps → ∃ vs : List Value, vs.length = ps.length ∧ rs.length = ps.length ∧
    (∀ (j : Nat) (u : PV), ps[j]? = some u → ∃ v, vs[j]? = some v ∧ Rep w A u v) ∧
    Sem.run P (rs.mapM (resSem a.tmps)) w = .ok vs w
  | [], [], _ => ⟨[], rfl, rfl, by simp, rfl⟩
  | r :: rs, p :: ps, h => by
    obtain ⟨v, hr, hrun⟩ := pres_run hs h.1
    obtain ⟨vs, h1, h2, h3, h4⟩ := presList_run hs rs ps h.2
    refine ⟨v :: vs, by simp [h1], by simp [h2], fun j u hu => ?_, ?_⟩
    · cases j with
      | zero => simp at hu; subst hu; exact ⟨v, rfl, hr⟩
      | succ j => simpa using h3 j u (by simpa using hu)
    · rw [List.mapM_cons]
      simp only [Sem.run_bind, hrun, Result.andThen_ok, h4, Sem.run_pure]
  | [], _ :: _, h => h.elim
  | _ :: _, [], h => h.elim

theorem results_sound (hs : Sim G E A σ a w) {fn : Func} {rs : List ResultVar} (hrs : fn.results = rs.toArray) {res : PV} (h : PResult P σ rs res) : ∃ v, Rep w A res v ∧ Sem.run P (results fn a.tmps) w = .ok v w := by
  have key : ∀ ps, presList P σ rs ps → ∃ vs : List Value, vs.length = ps.length ∧ (∀ (j : Nat) (u : PV), ps[j]? = some u → ∃ v, vs[j]? = some v ∧ Rep w A u v) ∧
      Sem.run P (results fn a.tmps) w = .ok (if vs.length = 1 then vs.getD 0 undef else .tuple vs.toArray) w := by
    intro ps hps
    obtain ⟨vs, h1, h2, h3, h4⟩ := presList_run hs rs ps hps
    refine ⟨vs, h1, h3, ?_⟩
    have hm : Sem.run P (fn.results.mapM (resSem a.tmps)) w = .ok vs.toArray w := by
      rw [hrs, Array.mapM_eq_mapM_toList]
      change Sem.run P ((rs.mapM _) >>= fun l => pure l.toArray) w = _
      rw [Sem.run_bind, h4]
      rfl
    rw [results_eq, Sem.run_bind, hm]
    simp only [Result.andThen_ok, List.size_toArray]
    by_cases hl : vs.length = 1
    · rw [dif_pos hl, if_pos hl]
      simp [List.getD_eq_getElem?_getD, hl]
    · rw [dif_neg hl, if_neg hl]
      rfl
  match rs, h, key with
  | [r], h, key =>
    obtain ⟨vs, h1, h3, h4⟩ := key [res] ⟨h, trivial⟩
    obtain ⟨v, hv, hr⟩ := h3 0 res rfl
    refine ⟨v, hr, ?_⟩
    rw [h4, if_pos (by simpa using h1)]
    simp [List.getD_eq_getElem?_getD, hv]
  | [], h, key =>
    simp only [PResult] at h
    obtain ⟨ps, hps, rfl⟩ := h
    obtain ⟨vs, h1, h3, h4⟩ := key ps hps
    have : ps = [] := by
      cases ps with
      | nil => rfl
      | cons p ps => exact hps.elim
    subst this
    have : vs = [] := List.eq_nil_of_length_eq_zero h1
    subst this
    exact ⟨.tuple #[], Rep.tuple [] (fun _ => undef) (by simp), by rw [h4]; rfl⟩
  | r :: r' :: rs, h, key =>
    simp only [PResult] at h
    obtain ⟨ps, hps, rfl⟩ := h
    obtain ⟨vs, h1, h3, h4⟩ := key ps hps
    have hl : 2 ≤ ps.length := by
      match ps, hps with
      | p :: p' :: ps, _ => simp
      | [p], hps => exact hps.2.elim
      | [], hps => exact hps.elim
    have hne : vs.length ≠ 1 := by omega
    refine ⟨.tuple vs.toArray, ?_, by rw [h4, if_neg hne]⟩
    have := Rep.tuple (w := w) (A := A) ps (fun j => vs.getD j undef) (fun j u hu => by
      obtain ⟨v, hv, hr⟩ := h3 j u hu
      rw [show vs.getD j undef = v by simp [List.getD_eq_getElem?_getD, hv]]
      exact hr)
    have e : (List.range ps.length).map (fun j => vs.getD j undef) = vs := by
      apply List.ext_getElem
      · simp [h1]
      · intro j h1 h2
        simp [List.getD_eq_getElem?_getD, List.getElem?_eq_getElem h2]
    rw [e] at this
    exact this

/-- Of a heap some objects are taken. -/
def Sub (H' H : Heap) : Prop := (∀ x ∈ H', x ∈ H) ∧ (names H').Nodup

/-- A function's body is left. -/
def Fin (P : Program) (rs : List ResultVar) (R : PV → Heap → Prop) (e : Exit) (σ : PState) : Prop :=
  (match e with | .normal | .ret => True | _ => False) ∧ ∃ res H, PResult P σ rs res ∧ Sub H σ.heap ∧ R res H

theorem Sim.sub (hs : Sim G E A σ a w) {H : Heap} (hH : Sub H σ.heap) : Sim G E A ⟨σ.frame, H⟩ a w :=
  ⟨hs.ext, hs.lt, hs.a0, hs.a1, hs.globs, hH.2, fun n o h => hs.objs n o (hH.1 _ h), fun n o h => hs.own n o (hH.1 _ h), fun n o h => hs.neg n o (hH.1 _ h), hs.defers, hs.size, hs.frame⟩

theorem Sim.bare (hs : Sim G E A σ a w) : Sim G E A ⟨[], σ.heap⟩ ⟨#[], []⟩ w :=
  ⟨hs.ext, hs.lt, hs.a0, hs.a1, hs.globs, hs.nodup, hs.objs, hs.own, hs.neg, rfl, rfl, fun i p h => by simp at h⟩

theorem PCalls_of_W {f : FuncId} {fn : Func} {c : Code} {n : Nat} {rs : List ResultVar} {args : List PV} {Hin : Heap} {R : PV → Heap → Prop} (hf : P.funcs[f]? = some fn) (hb : fn.body = some c) (hn : fn.ntmps = n) (hrs : fn.results = rs.toArray)
    (h : W P G (Hin.map (·.1)) c ⟨args ++ List.replicate (n - args.length) .junk, Hin⟩ (Fin P rs R)) : PCalls P G f args Hin R := by
  intro w A F vals hA hG hnd hobj hown hsz hvals
  refine calls_of_wp hf hb ?_
  have hs : Sim G ⟨w, A, Hin.map (·.1), F⟩ A ⟨args ++ List.replicate (n - args.length) .junk, Hin⟩ { tmps := vals ++ Array.replicate (fn.ntmps - vals.size) undef, defers := [] } w := by
    refine ⟨Ext.refl _ _, hA, fun _ h => h, fun _ h => .inl h, hG, hnd, hobj, fun m o h b hb => ?_, fun m o h _ => .inr (List.mem_map.2 ⟨_, h, rfl⟩), rfl, by simp [hsz, hn], fun i p hp => ?_⟩
    · obtain ⟨h1, h2⟩ := hown m o h b hb
      exact ⟨h1, h2, .inr (List.mem_map.2 ⟨_, h, hb⟩)⟩
    · by_cases hi : i < args.length
      · rw [List.getElem?_append_left hi] at hp
        obtain ⟨v, hv, hr⟩ := hvals i p hp
        refine ⟨v, ?_, hr⟩
        rw [Array.getElem?_append_left (by rw [hsz]; exact hi)]
        exact hv
      · rw [List.getElem?_append_right (by omega), List.getElem?_replicate] at hp
        split at hp
        · rename_i hlt
          cases hp
          refine ⟨undef, ?_, .junk _⟩
          rw [Array.getElem?_append_right (by rw [hsz]; omega), Array.getElem?_replicate, if_pos (by rw [hsz, hn]; exact hlt)]
        · cases hp
  refine h _ rfl A _ w hs _ ?_
  intro e σ' a' w' A' hfin hs'
  obtain ⟨he, res, H, hres, hH, hR⟩ := hfin
  obtain ⟨v, hr, hrun⟩ := results_sound (P := P) hs' hrs hres
  have post : Ending.returned v = .returned v ∧ _ := ⟨rfl, (hs'.sub hH).bare⟩
  cases e with
  | normal => exact ⟨hs'.defers, v, hrun, v, A', res, H, rfl, hR, hr, post.2⟩
  | ret => exact ⟨hs'.defers, v, hrun, v, A', res, H, rfl, hR, hr, post.2⟩
  | _ => exact he.elim

/-- what comes back from a call without objects of the caller's -/
theorem Sim.called {w' : World} {A1 A' : Nat → Prop} {Hout : Heap} {F : List Int} (hs : Sim G E A σ a w) (hF : ∀ n, n ∈ names σ.heap ∨ n ∈ E.F → n ∈ F) (hs' : Sim G ⟨w, A1, [], F⟩ A' ⟨[], Hout⟩ ⟨#[], []⟩ w')
    (hA : ∀ b, A b → A' b) (hA' : ∀ b, A' b → A b ∨ w.heap.size ≤ b) : (∀ n ∈ names Hout, n ∉ names σ.heap) ∧ Sim G E A' ⟨σ.frame, Hout ++ σ.heap⟩ a w' := by
  have he : Ext (fun _ => False) w w' := hs'.ext.mono (fun x hx => (List.not_mem_nil hx).elim)
  have hm : ∀ b, A b → ¬ False := fun _ _ h => h
  have hdis : ∀ n ∈ names Hout, n ∉ names σ.heap := by
    intro n hn hn'
    obtain ⟨⟨n1, o1⟩, h1, rfl⟩ := List.mem_map.1 hn
    obtain ⟨⟨n2, o2⟩, h2, e2⟩ := List.mem_map.1 hn'
    simp only at e2
    subst e2
    by_cases hneg : n2 < 0
    · rcases hs'.neg n2 o1 h1 hneg with h | h
      · exact h (hF _ (.inl hn'))
      · exact (List.not_mem_nil h).elim
    · obtain ⟨b, hb⟩ : ∃ b : Nat, n2 = b := ⟨n2.toNat, by omega⟩
      obtain ⟨q1, q2, q3⟩ := hs'.own n2 o1 h1 b hb
      have := (hs.own n2 o2 h2 b hb).1
      rcases q3 with h | h
      · simp only at h; omega
      · exact (List.not_mem_nil h).elim
  refine ⟨hdis, hs.ext.trans he (fun _ _ h => h.elim), hs'.lt, fun b hb => hA b (hs.a0 b hb), fun b hb => ?_, hs'.globs, ?_, fun n o h => ?_, fun n o h b hb => ?_, fun n o h hn => ?_, hs.defers, hs.size, fun i p hp => ?_⟩
  · rcases hA' b hb with h | h
    · exact hs.a1 b h
    · exact .inr (Nat.le_trans hs.ext.size h)
  · rw [List.map_append]
    exact List.nodup_append.2 ⟨hs'.nodup, hs.nodup, fun x hx y hy e => hdis x hx (e ▸ hy)⟩
  · rcases List.mem_append.1 h with h | h
    · exact hs'.objs n o h
    · exact (hs.objs n o h).ext he hA hm (fun _ _ h => h)
  · rcases List.mem_append.1 h with h | h
    · obtain ⟨q1, q2, q3⟩ := hs'.own n o h b hb
      refine ⟨q1, q2, .inl ?_⟩
      rcases q3 with h | h
      · exact Nat.le_trans hs.ext.size h
      · exact (List.not_mem_nil h).elim
    · obtain ⟨q1, q2, q3⟩ := hs.own n o h b hb
      refine ⟨Nat.lt_of_lt_of_le q1 he.size, fun hb' => ?_, q3⟩
      rcases hA' b hb' with h | h
      · exact q2 h
      · omega
  · rcases List.mem_append.1 h with h | h
    · rcases hs'.neg n o h hn with h | h
      · exact .inl fun h' => h (hF _ (.inr h'))
      · exact (List.not_mem_nil h).elim
    · exact hs.neg n o h hn
  · obtain ⟨v, hv, hr⟩ := hs.frame i p hp
    exact ⟨v, hv, hr.ext he hA hm⟩

theorem keeps_of_sim {w' : World} {A1 A' : Nat → Prop} {Hout : Heap} {F : List Int} (hs' : Sim G ⟨w, A1, [], F⟩ A' ⟨[], Hout⟩ ⟨#[], []⟩ w') : Keeps w w' :=
  fun b hb => hs'.ext.block b hb (fun h => (List.not_mem_nil h).elim)

/-- A call by contract: the arguments as they are. -/
theorem pcall_plain {fn : FuncId} {args : List PV} {R : PV → Heap → Prop} {d : Option Tmp} {K : PState → Prop} (hc : PCalls P G fn args [] R)
    (hk : ∀ res Hout, R res Hout → (∀ n ∈ names Hout, n ∉ names σ.heap) → K (PState.put ⟨σ.frame, Hout ++ σ.heap⟩ d res)) : pcall q P G σ d fn args K := by
  intro E A a w vals hs hsz hvals
  refine (hc w A (names σ.heap ++ E.F) vals hs.lt hs.globs (by simp) (by simp) (by simp) hsz hvals).mono ?_
  rintro e w' ⟨v, A', res, Hout, rfl, hR, hr, hs'⟩
  obtain ⟨hdis, hsim⟩ := hs.called (fun n h => List.mem_append.2 h) hs' hs'.a0 hs'.a1
  exact ⟨v, _, A', rfl, hk res Hout hR hdis, hsim.put d hr, fun _ => keeps_of_sim hs'⟩

/-- nothing in it lies in memory that nobody turns -/
inductive Flat : PV → Prop
  | val (v : Value) : Flat (.val v)
  | agg (cs : List PV) (h : ∀ c ∈ cs, Flat c) : Flat (.agg cs)
  | tuple (cs : List PV) (h : ∀ c ∈ cs, Flat c) : Flat (.tuple cs)
  | row (n : Int) (es len : Nat) : Flat (.row n es len)
  | ptr (n : Int) (off : Nat) : Flat (.ptr n off)
  | junk : Flat .junk

theorem Flat.rep {p : PV} (h : Flat p) : ∀ {v : Value} {A' : Nat → Prop}, Rep w A p v → Rep w A' p v := by
  induction h with
  | val u => intro v A' hr; rw [hr.val_eq]; exact .val u
  | agg cs h ih =>
    intro v A' hr
    obtain ⟨f, rfl, h2⟩ := hr.agg_inv
    exact .agg cs f fun j u hu => ih u (List.mem_of_getElem? hu) (h2 j u hu)
  | tuple cs h ih =>
    intro v A' hr
    obtain ⟨f, rfl, h2⟩ := hr.tuple_inv
    exact .tuple cs f fun j u hu => ih u (List.mem_of_getElem? hu) (h2 j u hu)
  | row n es len =>
    intro v A' hr
    cases hr with
    | rownil n es hn => exact .rownil n es hn
    | row b es len c N t hs hN hl hm => exact .row b es len c N t hs hN hl hm
  | ptr n off =>
    intro v A' hr
    cases hr with | ptr b off => exact .ptr b off
  | junk => intro v A' _; exact .junk v
end
end Go.PM
