/- Joined texts (Pnd Tf Tg Th Ti Qr Qo Qs Qf Qh Tj Tk): the machine, the contracts, the laws. Conditions: none but those that each names. -/
import Derived.Test.YteblfgeonobmjaaDoorJc
import Derived.RangeFuncLeaves
set_option linter.unusedSimpArgs false
set_option linter.unusedVariables false
namespace Go.PM
open Go.RowKit
section
variable {P : Program} {G : Globs} {E : Amb} {A : Nat → Prop} {σ τ : PState} {a : Act} {w : World} {I : List Int} {c x y : Code}
/-- The mark of the block for a loop's deferred calls. -/
@[reducible] def markD (D : Nat) : Deferred := { target := .collected D, args := #[] }
@[reducible] def Amb.mk' (E : Amb) (m : Option Nat) : Amb := ⟨E.w0, E.A0, E.I, ⟨E.T.l, match m with | none => [] | some D => [markD D]⟩⟩
theorem Amb.mk_none (hD : E.T.D = []) : E.mk' none = E := by
  obtain ⟨w0, A0, I, ⟨l, D⟩⟩ := E
  simp only at hD
  subst hD
  rfl
/-- The judgement on code that may range over a function once: at its end no mark stands, or that of block D. -/
def WM (P : Program) (G : Globs) (I : List Int) (c : Code) (σ : PState) (K : Option Nat → Exit → PState → Prop) : Prop :=
  ∀ E : Amb, E.I = I → E.T.D = [] → ∀ A a w, Sim G E A σ a w → ∀ Q : Exit → Act → World → Prop, (∀ m e σ' a' w' A', K m e σ' → Sim G (E.mk' m) A' σ' a' w' → Q e a' w') → c.wp P Q a w
variable {K : Option Nat → Exit → PState → Prop}
theorem WM_of_W (h : W P G I c σ (K none)) : WM P G I c σ K := fun E hE hD A a w hs Q hq =>
  h E hE A a w hs Q fun e σ' a' w' A' hk hs' => hq none e σ' a' w' A' hk (by rw [Amb.mk_none hD]; exact hs')
/-- What follows, with a mark or without. -/
def WMm (P : Program) (G : Globs) (I : List Int) (c : Code) (σ : PState) (K : Option Nat → Exit → PState → Prop) : Option Nat → Prop
  | none => WM P G I c σ K
  | some D => W P G I c σ (K (some D))
theorem WM_seq (h : WM P G I x σ (fun m => seqK (fun σ' => WMm P G I y σ' K m) (K m))) : WM P G I (.seq x y) σ K := by
  intro E hE hD A a w hs Q hq
  refine wp_seq (h E hE hD A a w hs _ ?_)
  intro m e σ' a' w' A' hk hs'
  cases e with
  | normal =>
    cases m with
    | none => exact hk (E.mk' none) hE rfl A' a' w' hs' Q fun m e σ'' a'' w'' A'' hk hs => hq m e _ _ _ _ hk hs
    | some D => exact hk (E.mk' (some D)) hE A' a' w' hs' Q fun e σ'' a'' w'' A'' hk hs => hq (some D) e _ _ _ _ hk hs
  | _ => exact hq m _ _ _ _ _ hk hs'
theorem WM_block {id : Nat} (h : WM P G I c σ (fun m => blockK id (K m))) : WM P G I (.block id c) σ K := by
  intro E hE hD A a w hs Q hq
  refine wp_block (h E hE hD A a w hs _ ?_)
  intro m e σ' a' w' A' hk hs'
  cases e with
  | exit i =>
    simp only [blockK] at hk
    simp only [Exit.inBlock]
    split
    · rename_i hi; rw [if_pos hi] at hk; exact hq _ _ _ _ _ _ hk hs'
    · rename_i hi; rw [if_neg hi] at hk; exact hq _ _ _ _ _ _ hk hs'
  | _ => exact hq _ _ _ _ _ _ hk hs'
/-- The loop's record as it is laid. -/
@[reducible] def rec0 (fn : FuncId) (tmps : Array Value) (ps : Array Tmp) (assign body : Code) (D : Nat) : Loop := { state := .ready, pending := none, fn, tmps, params := ps, assign, body, defers := D }
theorem WM_range {g : Operand} {ps : Array Tmp} {assign body : Code} {gf : FuncId} {caps : List PV} (hg : opnd G σ.frame g = .func gf caps) (hc : callable P gf = true)
    (h : ∀ (fn : FuncId) (tmps : Array Value) (D l : Nat), (D : Int) ∉ names σ.heap → (l : Int) ∉ names σ.heap → D ≠ l →
      ∃ R, PCalls P G gf (yv l :: caps) (((l : Int), rawO (.loop (rec0 fn tmps ps assign body D)) σ.frame) :: ((D : Int), rawO (.deferred (some [])) []) :: σ.heap) R ∧
        ∀ res Hout, R res Hout → ∃ r' ps2 H1, Sub (((l : Int), rawO (.loop r') ps2) :: H1) Hout ∧ r'.state ≠ .busy ∧
          match r'.pending with
          | none => K (some D) .normal ⟨σ.frame, H1⟩
          | some .ret => K (some D) .ret ⟨σ.frame, H1⟩
          | some (.exit id) => K (some D) (.exit id) ⟨σ.frame, H1⟩
          | _ => False) : WM P G I (.rangeFunc g ps assign body) σ K := by
  intro E hE hD A a w hs Q hq
  refine (wpIn_wide (n := 0)).1 (wpIn_rangeFunc fun fn _ => ?_)
  have h1 := hs.newRaw (x := .deferred (some [])) (ps := []) rfl rfl (fun j u hu => by simp at hu)
  have h2 := h1.2.newRaw (x := .loop (rec0 fn a.tmps ps assign body w.heap.size)) (ps := σ.frame) rfl hs.size.symm (fun j u hu => h1.2.frame j u hu)
  rw [World.size_alloc] at h2
  obtain ⟨hl1, hs2⟩ := h2
  have hl : ((w.heap.size + 1 : Nat) : Int) ∉ names σ.heap := fun hm => hl1 (List.mem_cons_of_mem _ hm)
  obtain ⟨R, hpc, hout⟩ := h fn a.tmps w.heap.size (w.heap.size + 1) h1.1 hl (by omega)
  have hgv := hs.opnd g
  rw [hg] at hgv
  obtain ⟨f, hv, hf⟩ : ∃ f : Nat → Value, a.eval g = .func (.func gf) #[] ((List.range caps.length).map f).toArray ∧ ∀ (j : Nat) (u : PV), caps[j]? = some u → Rep w A u (f j) := by
    cases hq : a.eval g with
    | func fn' first cap =>
      rw [hq] at hgv
      cases hgv with
      | func fn caps f h2 => exact ⟨f, rfl, h2⟩
    | _ => rw [hq] at hgv; cases hgv
  have hs3 : Sim G (E.mk' (some w.heap.size)) A ⟨σ.frame, (((w.heap.size + 1 : Nat) : Int), rawO (.loop (rec0 fn a.tmps ps assign body w.heap.size)) σ.frame) :: ((w.heap.size : Int), rawO (.deferred (some [])) []) :: σ.heap⟩
      { a with defers := [markD w.heap.size] ++ a.defers } ((w.alloc (.deferred (some []))).alloc (.loop (rec0 fn a.tmps ps assign body w.heap.size))) :=
    ⟨hs2.ext, hs2.lt, hs2.a0, hs2.a1, hs2.globs, hs2.nodup, hs2.objs, hs2.own, hs2.neg, by simp [hs.defers, hD], hs2.size, hs2.frame⟩
  have hext : Ext (fun _ => False) w ((w.alloc (.deferred (some []))).alloc (.loop (rec0 fn a.tmps ps assign body w.heap.size))) := (Ext.alloc _ _ _).trans (Ext.alloc (fun _ => False) _ _) (fun _ _ h => h)
  refine ⟨w.heap.size + 1, [markD w.heap.size], (w.alloc (.deferred (some []))).alloc (.loop (rec0 fn a.tmps ps assign body w.heap.size)),
    { target := .fn (.func gf) ((List.range caps.length).map f).toArray, args := #[.func (.yield (w.heap.size + 1)) #[] #[]] },
    (w.alloc (.deferred (some []))).alloc (.loop (rec0 fn a.tmps ps assign body w.heap.size)), gf, #[.func (.yield (w.heap.size + 1)) #[] #[]] ++ ((List.range caps.length).map f).toArray,
    (w.alloc (.deferred (some []))).alloc (.loop (rec0 fn a.tmps ps assign body w.heap.size)), run_enterLoop_outer fn a.tmps ps assign body, ?_, fun _ _ => trivial, ?_, fun h => by (cases h), ?_⟩
  · simp only [resolve, rangeCall, hv, Deferred.ofValue, Sem.run_pure]
    simp [Act.eval]
  · simp only [invoke, callable_run hc]
  · refine (callsIn_wide (n := 0 - 1)).2 ?_
    have hcall := hpc _ A (names ((((w.heap.size + 1 : Nat) : Int), rawO (.loop (rec0 fn a.tmps ps assign body w.heap.size)) σ.frame) :: ((w.heap.size : Int), rawO (.deferred (some [])) []) :: σ.heap) ++ E.F)
      (#[.func (.yield (w.heap.size + 1)) #[] #[]] ++ ((List.range caps.length).map f).toArray) hs3.lt hs3.globs hs3.nodup hs3.objs (fun n o h b hb => ⟨(hs3.own n o h b hb).1, (hs3.own n o h b hb).2.1⟩) (by simp) (fun i p hp => by
        cases i with
        | zero =>
          cases hp
          exact ⟨.func (.yield (w.heap.size + 1)) #[] #[], by rw [Array.getElem?_append_left (by simp)]; rfl, .val _⟩
        | succ i =>
          have hp2 : caps[i]? = some p := by simpa using hp
          have hlt : i < caps.length := (List.getElem?_eq_some_iff.1 hp2).1
          refine ⟨f i, ?_, (hf i p hp2).ext hext (fun _ h => h) (fun _ _ h => h)⟩
          rw [Array.getElem?_append_right (by simp)]
          simp [hlt])
    refine Calls.mono hcall fun e w' he => ?_
    obtain ⟨v, A', res, Hout, rfl, hR, hr, hs'⟩ := he
    obtain ⟨r', ps2, H1, hsub, hb, hK⟩ := hout _ _ hR
    obtain ⟨_, hsim⟩ := hs3.calledI (rest := []) (fun n h => List.mem_append.2 h) (fun x h => h) (fun x h => by simp at h) List.nodup_nil hs'
    rw [List.append_nil] at hsim
    have hs4 := hsim.sub hsub
    obtain ⟨b', hb', g1, _⟩ := (hs4.objs _ _ List.mem_cons_self).raw_inv
    have eb : b' = w.heap.size + 1 := by omega
    subst eb
    have hs5 := (hs4.putRaw (x := .loop r') (x' := .loop { r' with state := .exhausted }) rfl rfl).sub (H := H1) ⟨fun x h => List.mem_cons_of_mem _ h, (List.nodup_cons.1 hs4.nodup).2⟩
    refine ⟨r'.pending, _, run_endLoop g1 hb, ?_⟩
    generalize World.putObj w' (w.heap.size + 1) _ = w5 at hs5 ⊢
    generalize r'.pending = pend at hK ⊢
    cases pend with
    | none => exact hq (some w.heap.size) .normal ⟨σ.frame, H1⟩ _ _ A' hK hs5
    | some c =>
      cases c <;> first | exact hK.elim | skip
      · exact wpIn_exit (hq (some w.heap.size) _ ⟨σ.frame, H1⟩ _ _ A' hK hs5)
      · exact wpIn_ret (hq (some w.heap.size) _ ⟨σ.frame, H1⟩ _ _ A' hK hs5)
theorem WM_nd (h : (names σ.heap).Nodup → WM P G I c σ K) : WM P G I c σ K := fun E hE hD A a w hs => h hs.nodup E hE hD A a w hs
theorem WM_wk {τ : PState} (h : Wk σ τ) (hw : WM P G I c τ K) : WM P G I c σ K := fun E hE hD A a w hs => hw E hE hD A a w (hs.wk h)
theorem WM_seq_k (h : ∀ next : PState → Prop, (∀ σ', WM P G I y σ' K → next σ') → W P G I x σ (seqK next (K none))) : WM P G I (.seq x y) σ K := by
  refine WM_seq (WM_of_W ?_)
  exact h _ fun _ h => h
theorem WM_seq_at {id : Nat} {ops : Array Oper} {d : Bool} (h : WM P G I (.seq (.region id ops d) x) σ (fun m => seqK (fun σ' => WMm P G I y σ' K m) (K m))) : WM P G I (.seq (.seq (.region id ops d) x) y) σ K := WM_seq h
theorem WM_adopt_c (m : Int) (j : Nat) (e : TypeId) (es : Nat) {o : PObj} (hl : look σ.heap m = some o) (hj : o.cells[j]? = some pnil)
    (h : ∀ n : Int, n ∉ names σ.heap → WM P G I c ⟨σ.frame, (n, ⟨e, true, es, []⟩) :: upd σ.heap m { o with cells := o.cells.set j (.row n es 0) }⟩ K) : WM P G I c σ K := by
  intro E hE hD A a w hs Q hq
  obtain ⟨A', τ, ⟨n, hn, rfl⟩, hs'⟩ := Wxs.adopt_c (G := G) (I := I) (T := fun τ => ∃ n, n ∉ names σ.heap ∧ τ = ⟨σ.frame, (n, ⟨e, true, es, []⟩) :: upd σ.heap m { o with cells := o.cells.set j (.row n es 0) }⟩) m j e es hl hj (fun n hn => .of (Wx.refl _) ⟨n, hn, rfl⟩) E hE A a w hs
  exact h n hn E hE hD A' a w hs' Q hq
theorem Sim.unmark {m : Option Nat} (hs : Sim G (E.mk' m) A σ a w) : Sim G (E.mk' none) A ⟨[], σ.heap⟩ ⟨#[], []⟩ w :=
  ⟨hs.ext, hs.lt, hs.a0, hs.a1, hs.globs, hs.nodup, hs.objs, hs.own, hs.neg, rfl, rfl, fun i p h => by simp at h⟩
/-- A function's body is left, with a mark or without. -/
def FinM (P : Program) (rs : List ResultVar) (R : PV → Heap → Prop) : Option Nat → Exit → PState → Prop
  | none, e, σ => Fin P rs R e σ
  | some D, e, σ => ∃ H1, Sub (((D : Int), rawO (.deferred (some [])) []) :: H1) σ.heap ∧ Fin P rs R e ⟨σ.frame, H1⟩
theorem PCalls_of_WM {f : FuncId} {fn : Func} {c : Code} {n : Nat} {rs : List ResultVar} {args : List PV} {Hin : Heap} {R : PV → Heap → Prop} (hf : P.funcs[f]? = some fn) (hb : fn.body = some c) (hn : fn.ntmps = n) (hrs : fn.results = rs.toArray)
    (h : WM P G (Hin.map (·.1)) c ⟨args ++ List.replicate (n - args.length) .junk, Hin⟩ (FinM P rs R)) : PCalls P G f args Hin R := by
  intro w A F vals hA hG hnd hobj hown hsz hvals
  refine (callsIn_wide (n := 0)).1 (callsIn_of_wp_marks hf hb trivial ?_)
  have hs : Sim G ⟨w, A, Hin.map (·.1), F⟩ A ⟨args ++ List.replicate (n - args.length) .junk, Hin⟩ { tmps := vals ++ Array.replicate (fn.ntmps - vals.size) undef, defers := [] } w := by
    refine ⟨Ext.refl _ _, hA, fun _ h => h, fun _ h => .inl h, hG, hnd, hobj, fun m o h b hb => ?_, fun m o h _ => .inr (List.mem_map.2 ⟨_, h, rfl⟩), rfl, by simp [hsz, hn], fun i p hp => ?_⟩
    · obtain ⟨h1, h2⟩ := hown m o h b hb
      exact ⟨h1, h2, .inr (List.mem_map.2 ⟨_, h, hb⟩)⟩
    · by_cases hi : i < args.length
      · rw [List.getElem?_append_left hi] at hp
        obtain ⟨v, hv, hr⟩ := hvals i p hp
        refine ⟨v, ?_, hr⟩
        rw [Array.getElem?_append_left (by rw [hsz]; exact hi)]
        exact hv
      · rw [List.getElem?_append_right (by omega), List.getElem?_replicate] at hp
        split at hp
        · rename_i hlt
          cases hp
          refine ⟨undef, ?_, .junk _⟩
          rw [Array.getElem?_append_right (by rw [hsz]; omega), Array.getElem?_replicate, if_pos (by rw [hsz, hn]; exact hlt)]
        · cases hp
  refine wpIn_wide.2 (h _ rfl rfl A _ w hs _ ?_)
  intro m e σ' a' w' A' hfin hs'
  cases m with
  | none =>
    obtain ⟨he, res, H, hres, hH, hR⟩ := hfin
    obtain ⟨v, hr, hrun⟩ := results_sound (P := P) hs' hrs hres
    have post := (hs'.sub hH).unmark
    have hD : a'.defers = [] := hs'.defers
    cases e with
    | normal => simp only [bodyPostM, hD, LeavesInM, LeavesIn]; exact ⟨v, hrun, v, A', res, H, rfl, hR, hr, post⟩
    | ret => simp only [bodyPostM, hD, LeavesInM, LeavesIn]; exact ⟨v, hrun, v, A', res, H, rfl, hR, hr, post⟩
    | _ => exact he.elim
  | some D =>
    obtain ⟨H1, hsub, he, res, H, hres, hH, hR⟩ := hfin
    have hs1 := hs'.sub hsub
    obtain ⟨b', hb', g1, _⟩ := (hs1.objs _ _ List.mem_cons_self).raw_inv
    have eb : b' = D := by omega
    subst eb
    have hs2 := (hs1.putRaw (x := .deferred (some [])) (x' := .deferred none) rfl rfl).sub (H := H1) ⟨fun x h => List.mem_cons_of_mem _ h, (List.nodup_cons.1 hs1.nodup).2⟩
    obtain ⟨v, hr, hrun⟩ := results_sound (P := P) hs2 hrs hres
    have post := (hs2.sub hH).unmark
    have hD : a'.defers = [markD b'] := hs'.defers
    cases e with
    | normal => simp only [bodyPostM, hD, LeavesInM]; exact ⟨by simp, .inl ⟨b', _, rfl, run_takeDeferred g1, v, hrun, v, A', res, H, rfl, hR, hr, post⟩⟩
    | ret => simp only [bodyPostM, hD, LeavesInM]; exact ⟨by simp, .inl ⟨b', _, rfl, run_takeDeferred g1, v, hrun, v, A', res, H, rfl, hR, hr, post⟩⟩
    | _ => exact he.elim
theorem PCalls_M {f : FuncId} {fn : Func} {c : Code} {n : Nat} {rs : List ResultVar} {args : List PV} {Hin : Heap} {R : PV → Heap → Prop} (hf : P.funcs[f]? = some fn) (hb : fn.body = some c) (hn : fn.ntmps = n) (hrs : fn.results = rs.toArray) (ha : args.length ≤ n)
    (h : ∀ fin : Option Nat → Exit → PState → Prop, (∀ m e σ, FinM P rs R m e σ → fin m e σ) → WM P G (Hin.map (·.1)) c ⟨fr n (layFrom 0 args), Hin⟩ fin) : PCalls P G f args Hin R := by
  refine PCalls_of_WM hf hb hn hrs ?_
  rw [fr_args ha]
  exact h _ fun _ _ _ h => h
end
end Go.PM

namespace Go.PM
open Go.Proofs
theorem PCalls.perm {P : Program} {G : Globs} {f : FuncId} {args : List PV} {Hin Hin' : Heap} {R : PV → Heap → Prop} (h : PCalls P G f args Hin R) (hp : Hin'.Perm Hin) : PCalls P G f args Hin' R := by
  intro w A F vals h1 h2 h3 h4 h5 h6 h7
  have hn : (Hin'.map (·.1)).Perm (Hin.map (·.1)) := hp.map _
  refine (h w A F vals h1 h2 (hn.nodup_iff.1 h3) (fun n o h => h4 n o (hp.mem_iff.2 h)) (fun n o h => h5 n o (hp.mem_iff.2 h)) h6 h7).mono ?_
  rintro e w' ⟨v, A', res, Hout, he, hR, hr, hs⟩
  exact ⟨v, A', res, Hout, he, hR, hr, ⟨hs.ext.mono fun x hx => hn.mem_iff.2 hx, hs.lt, hs.a0, hs.a1, hs.globs, hs.nodup, hs.objs, fun n o h b hb => by
    obtain ⟨q1, q2, q3⟩ := hs.own n o h b hb
    exact ⟨q1, q2, q3.imp id fun x => hn.mem_iff.2 x⟩, fun n o h hlt => (hs.neg n o h hlt).imp id fun x => hn.mem_iff.2 x, hs.defers, hs.size, hs.frame⟩⟩
attribute [local irreducible] W PCalls pcall pcallI WL
theorem charsF_pos (a : List Ltr) (f : Font) (s : List UInt8) (h : s ≠ []) : 0 < (charsF a f s).length := by
  rw [charsF_cons a f s h]
  simp
theorem charsF_next {a : List Ltr} {f : Font} {s r : List UInt8} {i : Nat} (h : charsF a f r = (charsF a f s).drop i) (hr : r ≠ []) :
    ∃ hi : i < (charsF a f s).length, (charsF a f s)[i] = (r.take (charF a f r).1, (charF a f r).2) ∧ charsF a f (r.drop (charF a f r).1) = (charsF a f s).drop (i + 1) := by
  have hp := charsF_pos a f r hr
  rw [h, List.length_drop] at hp
  have hi : i < (charsF a f s).length := by omega
  rw [charsF_cons a f r hr, List.drop_eq_getElem_cons hi] at h
  injection h with h1 h2
  exact ⟨hi, h1.symm, h2⟩
theorem charsF_end {a : List Ltr} {f : Font} {s : List UInt8} {i : Nat} (h : charsF a f [] = (charsF a f s).drop i) (hi : i ≤ (charsF a f s).length) : i = (charsF a f s).length := by
  have := congrArg List.length h
  rw [charsF_nil, List.length_drop, List.length_nil] at this
  omega
@[reducible] def stO (s : List UInt8) : PObj := ⟨9, false, 0, [pstr s]⟩
@[reducible] def ltO (a : List Ltr) : PObj := ⟨23, false, 0, [ltsP a]⟩
theorem Fin_none {P : Program} {R : PV → Heap → Prop} {σ : PState} {H : Heap} {e : Exit} (he : e = .normal ∨ e = .ret) (h2 : Sub H σ.heap) (h3 : R (.tuple []) H) : Fin P [] R e σ := by
  rcases he with rfl | rfl
  · exact Fin_normal (res := .tuple []) ⟨[], trivial, rfl⟩ h2 h3
  · exact Fin_ret (res := .tuple []) ⟨[], trivial, rfl⟩ h2 h3
theorem foldC_zero (a : List Ltr) (f : Font) (s : List UInt8) : foldC a f s 0 = (0, 1, singleF f (s.getD 0 0)) := rfl
theorem sub3 {x y z : Int × PObj} {H : Heap} (h : (names (x :: y :: z :: H)).Nodup) : Sub H (x :: y :: z :: H) := by
  simp only [names, List.map_cons, List.nodup_cons] at h
  exact ⟨fun u hu => by simp [hu], h.2.2.2⟩
set_option maxRecDepth 100000
set_option maxHeartbeats 8000000
theorem characters_c (G : Globs) (a : List Ltr) (f : Font) (s : List UInt8) : PCalls Tryd.prog G 65 [ltsP a, foP f, pstr s] [] (fun res H => ∃ sN fN aN : Int, res = .func 72 [.ptr sN 0, .ptr fN 0, .ptr aN 0] ∧ H = [(sN, stO s), (fN, foC f), (aN, ltO a)]) := by
  (refine PCalls_f Tryd.func65 rfl Tryd.ntmps65 Tryd.results65 (by simp) fun fin hfin => ?_; have hnm : True := trivial; simp (maxSteps := 2000000) (disch := omega) only [evb, evd, eve, constPV, seqK, blockK, scopeK, pbound, pelems, PV.mem?, PV.one, PV.cells, peqs, peq1, pkeys, pkeyt, List.set, Value.cells, ↓popG_eq, ↓pop.eq_1, ↓List.getElem?_map, ↓List.getElem?_cons_zero, ↓List.getElem?_cons_succ, Value.oneCell', Nat.reduceAdd, Nat.reduceMul, Nat.reduceSub, Nat.reduceLeDiff, Nat.reduceEqDiff, ↓reduceIte, ne_eq, reduceCtorEq, forall_const, exists_and_left, exists_eq_left', eq_self, Nat.reduceLT, Int.reduceLT, Int.reduceLE, Int.reduceToNat, Int.reduceAdd, Int.reduceSub, Int.reduceNeg, hnm, Tryd.tf0, Tryd.tf9, Tryd.tf23, Tryd.tf27, Tryd.tf60, Tryd.tf101, Tryd.tf102])
  repeat' (first
    | (with_reducible apply W_seq_k; intro nx hnx)
    | (with_reducible first | apply W_block | apply W_scope)
    | (with_reducible refine W_prune 127 ?_; simp only [prb, Nat.reducePow, Nat.reduceDiv, Nat.reduceMod, Nat.reduceBEq]; with_reducible apply W_region_l)
    | ((first | (with_reducible apply WL_op; intro nx hnx) | with_reducible refine Ev_out ?_ | (with_reducible refine pfresh_k hnm fun nm hnm => ?_; (try simp only [fmb] at hnm)) | (with_reducible refine pborn_mu hnm fun nm hnm => ?_; (try simp only [fmb] at hnm))); try (simp (maxSteps := 2000000) (disch := omega) only [evb, evd, eve, constPV, seqK, blockK, scopeK, pbound, pelems, PV.mem?, PV.one, PV.cells, peqs, peq1, pkeys, pkeyt, List.set, Value.cells, ↓popG_eq, ↓pop.eq_1, ↓List.getElem?_map, ↓List.getElem?_cons_zero, ↓List.getElem?_cons_succ, Value.oneCell', Nat.reduceAdd, Nat.reduceMul, Nat.reduceSub, Nat.reduceLeDiff, Nat.reduceEqDiff, ↓reduceIte, ne_eq, reduceCtorEq, forall_const, exists_and_left, exists_eq_left', eq_self, Nat.reduceLT, Int.reduceLT, Int.reduceLE, Int.reduceToNat, Int.reduceAdd, Int.reduceSub, Int.reduceNeg, hnm, Tryd.tf0, Tryd.tf9, Tryd.tf23, Tryd.tf27, Tryd.tf60, Tryd.tf101, Tryd.tf102]); repeat (refine And.intro (by omega) ?_))
    | ((with_reducible first | apply WL_nil | apply W_label | apply W_skip | apply W_exit | apply W_ret); try simp only [seqK, blockK, scopeK, ↓reduceIte, Nat.reduceEqDiff])
    | (with_reducible apply W_cond_k; intro _ _ ea eb; (simp only [condK, cob, opnd, constPV, Nat.reduceEqDiff, Nat.reduceLT, ↓reduceIte, hcb, reduceCtorEq, forall_const, ne_eq]); subst ea eb; first | (refine ⟨fun hc => ?_, fun hc => ?_⟩ <;> first | (exfalso; omega) | (exfalso; exact hc trivial) | skip) | skip)
    | (with_reducible apply hnx; clear hnx nx)
    | (with_reducible refine And.intro (by omega) ?_)
    | (with_reducible refine And.intro ?_ ?_)
    | (clear hnx nx; with_reducible apply hnx; clear hnx nx)
    | (clear hnx nx; clear hnx nx; with_reducible apply hnx; clear hnx nx))
  refine hfin _ _ (Fin_ret1 rfl (Sub_refl (by simp [names, hnm])) ?_)
  simp only [fr_getD_cons, fr_getD_nil, Nat.reduceEqDiff, Nat.reduceLT, ↓reduceIte]
  exact ⟨_, _, _, rfl, rfl⟩
theorem iter_c (G : Globs) (a : List Ltr) (f : Font) (s : List UInt8) (ha : HA a) (hf : HF f) (hs : s.length ≤ 65536) (l : Nat) (sN fN aN : Int) (J : Nat → Heap → Prop) (Jx : Heap → Prop)
    (hY : ∀ (i : Nat) (h : i < (charsF a f s).length) (H : Heap), J i H → PYields Tryd.prog G l [pstr (charsF a f s)[i].1, pint .i64 (charsF a f s)[i].2] H (fun res H' => (res = pbool true ∧ J (i + 1) H') ∨ (res = pbool false ∧ Jx H')))
    (H0 : Heap) (h0 : J 0 H0) : PCalls Tryd.prog G 72 [yv l, .ptr sN 0, .ptr fN 0, .ptr aN 0] ((sN, stO s) :: (fN, foC f) :: (aN, ltO a) :: H0)
      (fun res H => ∃ H', Sub H' H ∧ (J (charsF a f s).length H' ∨ Jx H')) := by
  refine PCalls.nd fun hnd => ?_
  have hnd0 : (sN :: fN :: aN :: names H0).Nodup := hnd
  simp only [names, List.map_cons, List.nodup_cons, List.mem_cons, not_or] at hnd
  obtain ⟨⟨n1, n2, n3⟩, ⟨n4, n5⟩, n6, n7⟩ := hnd
  have n1' : (fN = sN) = False := eq_false fun e => n1 e.symm
  have n2' : (aN = sN) = False := eq_false fun e => n2 e.symm
  have n4' : (aN = fN) = False := eq_false fun e => n4 e.symm
  have n1 : (sN = fN) = False := eq_false n1
  have n2 : (sN = aN) = False := eq_false n2
  have n4 : (fN = aN) = False := eq_false n4
  (refine PCalls_f Tryd.func72 rfl Tryd.ntmps72 Tryd.results72 (by simp) fun fin hfin => ?_; have hnm : True := trivial; simp (maxSteps := 2000000) (disch := omega) only [evb, evd, eve, constPV, seqK, blockK, scopeK, pbound, pelems, PV.mem?, PV.one, PV.cells, peqs, peq1, pkeys, pkeyt, List.set, Value.cells, ↓popG_eq, ↓pop.eq_1, ↓List.getElem?_map, ↓List.getElem?_cons_zero, ↓List.getElem?_cons_succ, Value.oneCell', Nat.reduceAdd, Nat.reduceMul, Nat.reduceSub, Nat.reduceLeDiff, Nat.reduceEqDiff, ↓reduceIte, ne_eq, reduceCtorEq, forall_const, exists_and_left, exists_eq_left', eq_self, Nat.reduceLT, Int.reduceLT, Int.reduceLE, Int.reduceToNat, Int.reduceAdd, Int.reduceSub, Int.reduceNeg, hnm, Tryd.tf0, Tryd.tf3, Tryd.tf4, Tryd.tf5, Tryd.tf9, Tryd.tf23, Tryd.tf27, Tryd.tf60, Tryd.tf110, Tryd.call73])
  repeat' (first
    | (with_reducible apply W_seq_k; intro nx hnx)
    | (with_reducible first | apply W_block | apply W_scope)
    | (with_reducible refine W_prune 1836783 ?_; simp only [prb, Nat.reducePow, Nat.reduceDiv, Nat.reduceMod, Nat.reduceBEq]; first | (with_reducible apply W_region_l) | with_reducible refine W_region_draw (id := 1) 2 (.op 0 true (.op 1 true (.op 2 true (.op 3 false (.op 4 true (.op 5 true (.done))))))) (by kernel_rfl) ?_ | with_reducible refine W_region_draw (id := 7) 1 (.op 0 true (.op 1 true (.op 2 true (.op 3 true (.op 4 true (.op 5 true (.op 6 true (.op 7 true (.op 8 true (.op 9 true (.op 10 true (.op 11 true (.op 12 true (.op 13 true (.op 14 true (.op 15 true (.op 16 true (.done)))))))))))))))))) (by kernel_rfl) ?_ | with_reducible refine W_region_draw (id := 9) 1 (.op 0 true (.op 1 true (.op 2 true (.op 3 true (.op 4 true (.done)))))) (by kernel_rfl) ?_)
    | ((first | (with_reducible apply WL_op; intro nx hnx) | with_reducible refine Ev_out ?_ | (with_reducible apply popsD_op; intro nx hnx) | (with_reducible refine popsD_alt ?_ ?_; intro nx hnx) | (with_reducible refine pfresh_k hnm fun nm hnm => ?_; (try simp only [fmb] at hnm)) | (with_reducible refine pborn_mu hnm fun nm hnm => ?_; (try simp only [fmb] at hnm))); try (simp (maxSteps := 2000000) (disch := omega) only [evb, evd, eve, constPV, seqK, blockK, scopeK, pbound, pelems, PV.mem?, PV.one, PV.cells, peqs, peq1, pkeys, pkeyt, List.set, Value.cells, ↓popG_eq, ↓pop.eq_1, ↓List.getElem?_map, ↓List.getElem?_cons_zero, ↓List.getElem?_cons_succ, Value.oneCell', Nat.reduceAdd, Nat.reduceMul, Nat.reduceSub, Nat.reduceLeDiff, Nat.reduceEqDiff, ↓reduceIte, ne_eq, reduceCtorEq, forall_const, exists_and_left, exists_eq_left', eq_self, Nat.reduceLT, Int.reduceLT, Int.reduceLE, Int.reduceToNat, Int.reduceAdd, Int.reduceSub, Int.reduceNeg, hnm, Tryd.tf0, Tryd.tf3, Tryd.tf4, Tryd.tf5, Tryd.tf9, Tryd.tf23, Tryd.tf27, Tryd.tf60, Tryd.tf110, Tryd.call73]); repeat (refine And.intro (by omega) ?_))
    | ((with_reducible first | apply WL_nil | apply W_label | apply W_skip | apply W_exit | apply W_ret | apply popsD_done); try simp only [seqK, blockK, scopeK, ↓reduceIte, Nat.reduceEqDiff])
    | with_reducible exact popsD_stop
    | (with_reducible apply pguard_intro <;> (intro hc; (try simp only [hcb, reduceCtorEq, forall_const, ne_eq] at hc); first | (exfalso; omega) | (exfalso; exact hc trivial) | refine Ev_in ?_))
    | (with_reducible apply W_cond_k; intro _ _ ea eb; (simp only [condK, cob, opnd, constPV, Nat.reduceEqDiff, Nat.reduceLT, ↓reduceIte, hcb, reduceCtorEq, forall_const, ne_eq]); subst ea eb; first | (refine ⟨fun hc => ?_, fun hc => ?_⟩ <;> first | (exfalso; omega) | (exfalso; exact hc trivial) | skip) | skip)
    | (with_reducible apply hnx; clear hnx nx)
    | (with_reducible refine And.intro (by omega) ?_)
    | (with_reducible refine And.intro ?_ ?_)
    | (clear hnx nx; with_reducible apply hnx; clear hnx nx)
    | (clear hnx nx; clear hnx nx; with_reducible apply hnx; clear hnx nx))
  refine W_loop_k (fun z τ => ∃ (i : Nat) (r : List UInt8) (H : Heap), z = r.length ∧ r.length ≤ s.length ∧ i ≤ (charsF a f s).length ∧ charsF a f r = (charsF a f s).drop i ∧ J i H ∧ (sN :: fN :: aN :: names H).Nodup ∧ τ = ⟨fr 59 [(3, .ptr aN 0), (2, .ptr fN 0), (1, .ptr sN 0), (0, yv l)], (sN, stO r) :: (fN, foC f) :: (aN, ltO a) :: H⟩) s.length
    ⟨fr 59 [(3, .ptr aN 0), (2, .ptr fN 0), (1, .ptr sN 0), (0, yv l)], (sN, stO s) :: (fN, foC f) :: (aN, ltO a) :: H0⟩ (by
    refine Wk_fr (by simp only [wkb, Nat.reduceEqDiff, Nat.reduceLT, ↓reduceIte]) ?_
    exact Sub_refl hnd0) ⟨0, s, H0, rfl, Nat.le_refl _, by omega, by simp, h0, hnd0, rfl⟩ ?_
  rintro z τ ⟨i, r, H, rfl, hrs, hi, hch, hJ, hndH, rfl⟩ lp hlp
  by_cases hr : r = []
  · subst hr
    have hend := charsF_end hch hi
    repeat' (first
    | (with_reducible apply W_seq_k; intro nx hnx)
    | (with_reducible first | apply W_block | apply W_scope)
    | (with_reducible refine W_prune 1836783 ?_; simp only [prb, Nat.reducePow, Nat.reduceDiv, Nat.reduceMod, Nat.reduceBEq]; first | (with_reducible apply W_region_l) | with_reducible refine W_region_draw (id := 1) 2 (.op 0 true (.op 1 true (.op 2 true (.op 3 false (.op 4 true (.op 5 true (.done))))))) (by kernel_rfl) ?_ | with_reducible refine W_region_draw (id := 7) 1 (.op 0 true (.op 1 true (.op 2 true (.op 3 true (.op 4 true (.op 5 true (.op 6 true (.op 7 true (.op 8 true (.op 9 true (.op 10 true (.op 11 true (.op 12 true (.op 13 true (.op 14 true (.op 15 true (.op 16 true (.done)))))))))))))))))) (by kernel_rfl) ?_ | with_reducible refine W_region_draw (id := 9) 1 (.op 0 true (.op 1 true (.op 2 true (.op 3 true (.op 4 true (.done)))))) (by kernel_rfl) ?_)
    | ((first | (with_reducible apply WL_op; intro nx hnx) | with_reducible refine Ev_out ?_ | (with_reducible apply popsD_op; intro nx hnx) | (with_reducible refine popsD_alt ?_ ?_; intro nx hnx) | (with_reducible refine pfresh_k hnm fun nm hnm => ?_; (try simp only [fmb] at hnm)) | (with_reducible refine pborn_mu hnm fun nm hnm => ?_; (try simp only [fmb] at hnm))); try (simp (maxSteps := 2000000) (disch := omega) only [evb, evd, eve, constPV, seqK, blockK, scopeK, pbound, pelems, PV.mem?, PV.one, PV.cells, peqs, peq1, pkeys, pkeyt, List.set, Value.cells, ↓popG_eq, ↓pop.eq_1, ↓List.getElem?_map, ↓List.getElem?_cons_zero, ↓List.getElem?_cons_succ, Value.oneCell', Nat.reduceAdd, Nat.reduceMul, Nat.reduceSub, Nat.reduceLeDiff, Nat.reduceEqDiff, ↓reduceIte, ne_eq, reduceCtorEq, forall_const, exists_and_left, exists_eq_left', eq_self, Nat.reduceLT, Int.reduceLT, Int.reduceLE, Int.reduceToNat, Int.reduceAdd, Int.reduceSub, Int.reduceNeg, hnm, Tryd.tf0, Tryd.tf3, Tryd.tf4, Tryd.tf5, Tryd.tf9, Tryd.tf23, Tryd.tf27, Tryd.tf60, Tryd.tf110, Tryd.call73, n1, n1', n2, n2', n4, n4']); repeat (refine And.intro (by omega) ?_))
    | ((with_reducible first | apply WL_nil | apply W_label | apply W_skip | apply W_exit | apply W_ret | apply popsD_done); try simp only [seqK, blockK, scopeK, ↓reduceIte, Nat.reduceEqDiff])
    | with_reducible exact popsD_stop
    | (with_reducible apply pguard_intro <;> (intro hc; (try simp only [hcb, reduceCtorEq, forall_const, ne_eq] at hc); first | (exfalso; omega) | (exfalso; exact hc trivial) | refine Ev_in ?_))
    | (with_reducible apply W_cond_k; intro _ _ ea eb; (simp only [condK, cob, opnd, constPV, Nat.reduceEqDiff, Nat.reduceLT, ↓reduceIte, hcb, reduceCtorEq, forall_const, ne_eq]); subst ea eb; first | (refine ⟨fun hc => ?_, fun hc => ?_⟩ <;> first | (exfalso; omega) | (exfalso; exact hc trivial) | skip) | skip)
    | (with_reducible apply hnx; clear hnx nx)
    | (with_reducible refine And.intro (by omega) ?_)
    | (with_reducible refine And.intro ?_ ?_)
    | (clear hnx nx; with_reducible apply hnx; clear hnx nx)
    | (clear hnx nx; clear hnx nx; with_reducible apply hnx; clear hnx nx))
    exact hfin _ _ (Fin_none (.inl rfl) (Sub_refl hndH) ⟨H, sub3 hndH, .inl (hend ▸ hJ)⟩)
  · have hr0 : 0 < r.length := List.length_pos_iff.2 hr
    obtain ⟨hi2, hci, hnext⟩ := charsF_next hch hr
    have hclen := charF_len (a := a) (f := f) hr
    have hY2 := hY i hi2 H hJ
    rw [hci] at hY2
    have hc1 := single_c G f (r.getD 0 0)
    repeat' (first
    | (with_reducible apply W_seq_k; intro nx hnx)
    | (with_reducible first | apply W_block | apply W_scope)
    | (with_reducible refine W_prune 1836783 ?_; simp only [prb, Nat.reducePow, Nat.reduceDiv, Nat.reduceMod, Nat.reduceBEq]; first | (with_reducible apply W_region_l) | with_reducible refine W_region_draw (id := 1) 2 (.op 0 true (.op 1 true (.op 2 true (.op 3 false (.op 4 true (.op 5 true (.done))))))) (by kernel_rfl) ?_ | with_reducible refine W_region_draw (id := 7) 1 (.op 0 true (.op 1 true (.op 2 true (.op 3 true (.op 4 true (.op 5 true (.op 6 true (.op 7 true (.op 8 true (.op 9 true (.op 10 true (.op 11 true (.op 12 true (.op 13 true (.op 14 true (.op 15 true (.op 16 true (.done)))))))))))))))))) (by kernel_rfl) ?_ | with_reducible refine W_region_draw (id := 9) 1 (.op 0 true (.op 1 true (.op 2 true (.op 3 true (.op 4 true (.done)))))) (by kernel_rfl) ?_)
    | ((first | (with_reducible apply WL_op; intro nx hnx) | with_reducible refine Ev_out ?_ | (with_reducible apply popsD_op; intro nx hnx) | (with_reducible refine popsD_alt ?_ ?_; intro nx hnx) | (with_reducible refine pfresh_k hnm fun nm hnm => ?_; (try simp only [fmb] at hnm)) | (with_reducible refine pborn_mu hnm fun nm hnm => ?_; (try simp only [fmb] at hnm))); try (simp (maxSteps := 2000000) (disch := omega) only [evb, evd, eve, constPV, seqK, blockK, scopeK, pbound, pelems, PV.mem?, PV.one, PV.cells, peqs, peq1, pkeys, pkeyt, List.set, Value.cells, ↓popG_eq, ↓pop.eq_1, ↓List.getElem?_map, ↓List.getElem?_cons_zero, ↓List.getElem?_cons_succ, Value.oneCell', Nat.reduceAdd, Nat.reduceMul, Nat.reduceSub, Nat.reduceLeDiff, Nat.reduceEqDiff, ↓reduceIte, ne_eq, reduceCtorEq, forall_const, exists_and_left, exists_eq_left', eq_self, Nat.reduceLT, Int.reduceLT, Int.reduceLE, Int.reduceToNat, Int.reduceAdd, Int.reduceSub, Int.reduceNeg, hnm, Tryd.tf0, Tryd.tf3, Tryd.tf4, Tryd.tf5, Tryd.tf9, Tryd.tf23, Tryd.tf27, Tryd.tf60, Tryd.tf110, Tryd.call73, n1, n1', n2, n2', n4, n4']); repeat (refine And.intro (by omega) ?_))
    | ((with_reducible first | apply WL_nil | apply W_label | apply W_skip | apply W_exit | apply W_ret | apply popsD_done); try simp only [seqK, blockK, scopeK, ↓reduceIte, Nat.reduceEqDiff])
    | with_reducible exact popsD_stop
    | (with_reducible apply pguard_intro <;> (intro hc; (try simp only [hcb, reduceCtorEq, forall_const, ne_eq] at hc); first | (exfalso; omega) | (exfalso; exact hc trivial) | refine Ev_in ?_))
    | (with_reducible apply W_cond_k; intro _ _ ea eb; (simp only [condK, cob, opnd, constPV, Nat.reduceEqDiff, Nat.reduceLT, ↓reduceIte, hcb, reduceCtorEq, forall_const, ne_eq]); subst ea eb; first | (refine ⟨fun hc => ?_, fun hc => ?_⟩ <;> first | (exfalso; omega) | (exfalso; exact hc trivial) | skip) | skip)
    | (with_reducible apply hnx; clear hnx nx)
    | (with_reducible refine And.intro (by omega) ?_)
    | (with_reducible refine And.intro ?_ ?_)
    | (with_reducible refine pcall_k (hc1) ?_; rintro _ _ ⟨rfl, rfl⟩ -; refine Ev_in ?_)
    | (clear hnx nx; with_reducible apply hnx; clear hnx nx)
    | (clear hnx nx; clear hnx nx; with_reducible apply hnx; clear hnx nx))
    all_goals first | exact absurd trivial hc | contradiction | exact fun h => False.elim h | (exfalso; omega) | (exfalso; have hc := of_decide_eq_false hc; omega) | (exfalso; simp only [Bool.not_false, Bool.not_true, decide_eq_true_eq, decide_eq_false_iff_not] at *; omega) | skip
    refine W_loop_k (fun z τ => ∃ j : Nat, j ≤ a.length ∧ z = a.length - j ∧ τ = ⟨fr 59 [(20, pn j), (19, pint .i64 a.length), (18, ltsP a), (7, pn (foldC a f r j).1), (6, pint .i64 (foldC a f r j).2.2), (5, pn (foldC a f r j).2.1), (3, .ptr aN 0), (2, .ptr fN 0), (1, .ptr sN 0), (0, yv l)], (sN, stO r) :: (fN, foC f) :: (aN, ltO a) :: H⟩) a.length
      ⟨fr 59 [(20, pn 0), (19, pint .i64 a.length), (18, ltsP a), (7, pn (foldC a f r 0).1), (6, pint .i64 (foldC a f r 0).2.2), (5, pn (foldC a f r 0).2.1), (3, .ptr aN 0), (2, .ptr fN 0), (1, .ptr sN 0), (0, yv l)], (sN, stO r) :: (fN, foC f) :: (aN, ltO a) :: H⟩ (by
      rw [foldC_zero]
      refine Wk_fr (by simp only [wkb, Nat.reduceEqDiff, Nat.reduceLT, ↓reduceIte, pn]) ?_
      exact Sub_refl hndH) ⟨0, by omega, by omega, rfl⟩ ?_
    rintro z τ ⟨j, hj, rfl, rfl⟩ lp2 hlp2
    by_cases hja : j < a.length
    · obtain ⟨t1, t2, t3⟩ := ha.2 a[j] (List.getElem_mem hja)
      have hget : a[j]? = some a[j] := List.getElem?_eq_getElem hja
      have hal := ha.1
      have hst := foldC_step (f := f) (s := r) hja
      have hfl := (foldC_len (a := a) (f := f) hr j (by omega))
      generalize foldC a f r j = b at *
      repeat' (first
    | (with_reducible apply W_seq_k; intro nx hnx)
    | (with_reducible first | apply W_block | apply W_scope)
    | (with_reducible refine W_prune 1836783 ?_; simp only [prb, Nat.reducePow, Nat.reduceDiv, Nat.reduceMod, Nat.reduceBEq]; first | (with_reducible apply W_region_l) | with_reducible refine W_region_draw (id := 1) 2 (.op 0 true (.op 1 true (.op 2 true (.op 3 false (.op 4 true (.op 5 true (.done))))))) (by kernel_rfl) ?_ | with_reducible refine W_region_draw (id := 7) 1 (.op 0 true (.op 1 true (.op 2 true (.op 3 true (.op 4 true (.op 5 true (.op 6 true (.op 7 true (.op 8 true (.op 9 true (.op 10 true (.op 11 true (.op 12 true (.op 13 true (.op 14 true (.op 15 true (.op 16 true (.done)))))))))))))))))) (by kernel_rfl) ?_ | with_reducible refine W_region_draw (id := 9) 1 (.op 0 true (.op 1 true (.op 2 true (.op 3 true (.op 4 true (.done)))))) (by kernel_rfl) ?_)
    | ((first | (with_reducible apply WL_op; intro nx hnx) | with_reducible refine Ev_out ?_ | (with_reducible apply popsD_op; intro nx hnx) | (with_reducible refine popsD_alt ?_ ?_; intro nx hnx) | (with_reducible refine pfresh_k hnm fun nm hnm => ?_; (try simp only [fmb] at hnm)) | (with_reducible refine pborn_mu hnm fun nm hnm => ?_; (try simp only [fmb] at hnm))); try (simp (maxSteps := 2000000) (disch := omega) only [evb, evd, eve, constPV, seqK, blockK, scopeK, pbound, pelems, PV.mem?, PV.one, PV.cells, peqs, peq1, pkeys, pkeyt, List.set, Value.cells, ↓popG_eq, ↓pop.eq_1, ↓List.getElem?_map, ↓List.getElem?_cons_zero, ↓List.getElem?_cons_succ, Value.oneCell', Nat.reduceAdd, Nat.reduceMul, Nat.reduceSub, Nat.reduceLeDiff, Nat.reduceEqDiff, ↓reduceIte, ne_eq, reduceCtorEq, forall_const, exists_and_left, exists_eq_left', eq_self, Nat.reduceLT, Int.reduceLT, Int.reduceLE, Int.reduceToNat, Int.reduceAdd, Int.reduceSub, Int.reduceNeg, hnm, Tryd.tf0, Tryd.tf3, Tryd.tf4, Tryd.tf5, Tryd.tf9, Tryd.tf23, Tryd.tf27, Tryd.tf60, Tryd.tf110, Tryd.call73, n1, n1', n2, n2', n4, n4', hget]); repeat (refine And.intro (by omega) ?_))
    | ((with_reducible first | apply WL_nil | apply W_label | apply W_skip | apply W_exit | apply W_ret | apply popsD_done); try simp only [seqK, blockK, scopeK, ↓reduceIte, Nat.reduceEqDiff])
    | with_reducible exact popsD_stop
    | (with_reducible apply pguard_intro <;> (intro hc; (try simp only [hcb, reduceCtorEq, forall_const, ne_eq] at hc); first | (exfalso; omega) | (exfalso; exact hc trivial) | refine Ev_in ?_))
    | (with_reducible apply W_cond_k; intro _ _ ea eb; (simp only [condK, cob, opnd, constPV, Nat.reduceEqDiff, Nat.reduceLT, ↓reduceIte, hcb, reduceCtorEq, forall_const, ne_eq]); subst ea eb; first | (refine ⟨fun hc => ?_, fun hc => ?_⟩ <;> first | (exfalso; omega) | (exfalso; exact hc trivial) | skip) | skip)
    | (with_reducible apply hnx; clear hnx nx)
    | (with_reducible refine And.intro (by omega) ?_)
    | (with_reducible refine And.intro ?_ ?_)
    | (clear hnx nx; with_reducible apply hnx; clear hnx nx)
    | (clear hnx nx; clear hnx nx; with_reducible apply hnx; clear hnx nx))
      all_goals first | exact absurd trivial hc | contradiction | exact fun h => False.elim h | (exfalso; omega) | (exfalso; have hc := of_decide_eq_false hc; omega) | (exfalso; simp only [Bool.not_false, Bool.not_true, decide_eq_true_eq, decide_eq_false_iff_not] at *; omega) | skip
      all_goals
        refine hlp2 _ (a.length - (j + 1)) ⟨fr 59 [(20, pn (j + 1)), (19, pint .i64 a.length), (18, ltsP a), (7, pn (foldC a f r (j + 1)).1), (6, pint .i64 (foldC a f r (j + 1)).2.2), (5, pn (foldC a f r (j + 1)).2.1), (3, .ptr aN 0), (2, .ptr fN 0), (1, .ptr sN 0), (0, yv l)], (sN, stO r) :: (fN, foC f) :: (aN, ltO a) :: H⟩ (by omega) ?_ ⟨j + 1, by omega, rfl, rfl⟩
        rw [hst]
        first
          | (rw [stepC, if_pos ⟨by omega, by simp only [fits, Bool.and_eq_true, decide_eq_true_eq]; exact ⟨by omega, hc⟩⟩]
             refine Wk_fr (by simp only [wkb, Nat.reduceEqDiff, Nat.reduceLT, ↓reduceIte, pn]) ?_
             exact ⟨fun x hx => List.mem_cons_of_mem _ hx, hndH⟩)
          | (rw [stepC, if_neg (fun h => by
               simp only [fits, Bool.and_eq_true, decide_eq_true_eq] at h
               first
                 | exact hc h.2.2
                 | omega)]
             refine Wk_fr (by simp only [wkb, Nat.reduceEqDiff, Nat.reduceLT, ↓reduceIte, pn]) ?_
             exact ⟨fun x hx => List.mem_cons_of_mem _ hx, hndH⟩)
    · have hj2 : j = a.length := by omega
      subst hj2
      have hcF : charF a f r = (foldC a f r a.length).2 := rfl
      rw [hcF] at hci hnext hclen hY2
      generalize foldC a f r a.length = b at *
      repeat' (first
    | (with_reducible refine W_region_y (id := 11) ?_)
    | (with_reducible refine WLY_yield l rfl rfl (by simp only [opnd, fr_getD_cons, fr_getD_nil, Nat.reduceEqDiff, Nat.reduceLT, ↓reduceIte]) ?_; intro nx hnx; simp only [List.map_cons, List.map_nil, opnd, fr_getD_cons, fr_getD_nil, Nat.reduceEqDiff, Nat.reduceLT, ↓reduceIte]; refine pyield_mid [(sN, stO r), (fN, foC f), (aN, ltO a)] H [] (by simp) hY2 ?_; rintro res Hout hR hnd2; simp only [PState.put, fr_set, List.cons_append, List.nil_append, List.append_nil] at hnd2 ⊢; rcases hR with ⟨rfl, hJ2⟩ | ⟨rfl, hJ2⟩)
    | (with_reducible apply W_seq_k; intro nx hnx)
    | (with_reducible first | apply W_block | apply W_scope)
    | (with_reducible refine W_prune 1836783 ?_; simp only [prb, Nat.reducePow, Nat.reduceDiv, Nat.reduceMod, Nat.reduceBEq]; first | (with_reducible apply W_region_l) | with_reducible refine W_region_draw (id := 1) 2 (.op 0 true (.op 1 true (.op 2 true (.op 3 false (.op 4 true (.op 5 true (.done))))))) (by kernel_rfl) ?_ | with_reducible refine W_region_draw (id := 7) 1 (.op 0 true (.op 1 true (.op 2 true (.op 3 true (.op 4 true (.op 5 true (.op 6 true (.op 7 true (.op 8 true (.op 9 true (.op 10 true (.op 11 true (.op 12 true (.op 13 true (.op 14 true (.op 15 true (.op 16 true (.done)))))))))))))))))) (by kernel_rfl) ?_ | with_reducible refine W_region_draw (id := 9) 1 (.op 0 true (.op 1 true (.op 2 true (.op 3 true (.op 4 true (.done)))))) (by kernel_rfl) ?_)
    | ((first | (with_reducible apply WL_op; intro nx hnx) | (with_reducible apply WLY_op; intro nx hnx) | with_reducible refine Ev_out ?_ | (with_reducible apply popsD_op; intro nx hnx) | (with_reducible refine popsD_alt ?_ ?_; intro nx hnx) | (with_reducible refine pfresh_k hnm fun nm hnm => ?_; (try simp only [fmb] at hnm)) | (with_reducible refine pborn_mu hnm fun nm hnm => ?_; (try simp only [fmb] at hnm))); try (simp (maxSteps := 2000000) (disch := omega) only [evb, evd, eve, constPV, seqK, blockK, scopeK, pbound, pelems, PV.mem?, PV.one, PV.cells, peqs, peq1, pkeys, pkeyt, List.set, Value.cells, ↓popG_eq, ↓pop.eq_1, ↓List.getElem?_map, ↓List.getElem?_cons_zero, ↓List.getElem?_cons_succ, Value.oneCell', Nat.reduceAdd, Nat.reduceMul, Nat.reduceSub, Nat.reduceLeDiff, Nat.reduceEqDiff, ↓reduceIte, ne_eq, reduceCtorEq, forall_const, exists_and_left, exists_eq_left', eq_self, Nat.reduceLT, Int.reduceLT, Int.reduceLE, Int.reduceToNat, Int.reduceAdd, Int.reduceSub, Int.reduceNeg, hnm, Tryd.tf0, Tryd.tf3, Tryd.tf4, Tryd.tf5, Tryd.tf9, Tryd.tf23, Tryd.tf27, Tryd.tf60, Tryd.tf110, Tryd.call73, n1, n1', n2, n2', n4, n4']); repeat (refine And.intro (by omega) ?_))
    | ((with_reducible first | apply WL_nil | apply WLY_nil | apply W_label | apply W_skip | apply W_exit | apply W_ret | apply popsD_done); try simp only [seqK, blockK, scopeK, ↓reduceIte, Nat.reduceEqDiff])
    | with_reducible exact popsD_stop
    | (with_reducible apply pguard_intro <;> (intro hc; (try simp only [hcb, reduceCtorEq, forall_const, ne_eq] at hc); first | (exfalso; omega) | (exfalso; exact hc trivial) | refine Ev_in ?_))
    | (with_reducible apply W_cond_k; intro _ _ ea eb; (simp only [condK, cob, opnd, constPV, Nat.reduceEqDiff, Nat.reduceLT, ↓reduceIte, hcb, reduceCtorEq, forall_const, ne_eq]); subst ea eb; first | (refine ⟨fun hc => ?_, fun hc => ?_⟩ <;> first | (exfalso; omega) | (exfalso; exact hc trivial) | skip) | skip)
    | (with_reducible apply hnx; clear hnx nx)
    | (with_reducible refine And.intro (by omega) ?_)
    | (with_reducible refine And.intro ?_ ?_)
    | (clear hnx nx; with_reducible apply hnx; clear hnx nx)
    | (clear hnx nx; clear hnx nx; with_reducible apply hnx; clear hnx nx))
      · rw [List.take_length]
        refine hlp _ (r.drop b.2.1).length ⟨fr 59 [(3, .ptr aN 0), (2, .ptr fN 0), (1, .ptr sN 0), (0, yv l)], (sN, stO (r.drop b.2.1)) :: (fN, foC f) :: (aN, ltO a) :: Hout⟩ (by rw [List.length_drop]; omega) ?_
          ⟨i + 1, r.drop b.2.1, Hout, rfl, by rw [List.length_drop]; omega, by omega, hnext, hJ2, hnd2, rfl⟩
        refine Wk_fr (by simp only [wkb, Nat.reduceEqDiff, Nat.reduceLT, ↓reduceIte]) ?_
        exact Sub_refl hnd2
      · exact hfin _ _ (Fin_none (.inr rfl) (Sub_refl hnd2) ⟨Hout, sub3 hnd2, .inr hJ2⟩)
end Go.PM

namespace Go.PM
open Go.Proofs
attribute [local irreducible] W PCalls pcall pcallI WL WR WM PYields
theorem dis_cons {n a : Int} {l : List Int} : (n ∉ a :: l) ↔ ((n = a) = False ∧ (a = n) = False) ∧ n ∉ l := by
  rw [List.mem_cons, not_or]
  refine and_congr_left fun _ => ?_
  constructor
  · exact fun h => ⟨eq_false h, eq_false fun e => h e.symm⟩
  · exact fun h e => by rw [e] at h; simp at h
theorem dis_nil {n : Int} : (n ∉ ([] : List Int)) ↔ True := by simp
/-- The objects of measure while the characters come, but for the loop's record. -/
@[reducible] def JU (D w n la su at_ pr M wi en e3 e2 e1 bo fo : Int) (f : Font) (bold : Bool) (st : Nat × Int × List UInt8 × List (Nat × Int)) (v3 : Int) : Heap :=
  [(D, rawO (.deferred (some [])) []), (n, ⟨3, true, 1, st.2.2.2.map fun x => pn x.1⟩), (w, ⟨3, true, 1, st.2.2.2.map fun x => pint .i64 x.2⟩), (la, stO st.2.2.1), (su, ⟨3, false, 0, [pint .i64 st.2.1]⟩), (at_, ⟨3, false, 0, [pn st.1]⟩),
    (pr, ⟨72, false, 0, [.mp M]⟩), (M, ⟨72, false, 0, memK f.kerns⟩), (wi, ⟨22, false, 0, [.row w 1 st.2.2.2.length]⟩), (en, ⟨22, false, 0, [.row n 1 st.2.2.2.length]⟩), (e3, ⟨37, false, 0, [pint .i64 v3]⟩), (e2, ⟨22, false, 0, [pnil]⟩), (e1, ⟨22, false, 0, [pnil]⟩),
    (bo, ⟨4, false, 0, [pbool bold]⟩), (fo, foC f)]
@[reducible] def JT (r D : Int) (ro : PObj) (w n la su at_ pr M wi en e3 e2 e1 bo fo : Int) (f : Font) (bold : Bool) (st : Nat × Int × List UInt8 × List (Nat × Int)) (v3 : Int) : Heap :=
  (r, ro) :: JU D w n la su at_ pr M wi en e3 e2 e1 bo fo f bold st v3
theorem PYields.mono {P : Program} {G : Globs} {l : Nat} {args : List PV} {Hin : Heap} {R R' : PV → Heap → Prop} (h : PYields P G l args Hin R) (hr : ∀ p H, R p H → R' p H) : PYields P G l args Hin R' := by
  unfold PYields at h ⊢
  intro w A F vals h1 h2 h3 h4 h5 h6 h7
  refine (h w A F vals h1 h2 h3 h4 h5 h6 h7).mono ?_
  rintro e w' ⟨v, A', res, Hout, he, hR, hrest⟩
  exact ⟨v, A', res, Hout, he, hr _ _ hR, hrest⟩
theorem foldM_fits {a : List Ltr} {f : Font} {bold : Bool} {s : List UInt8} {i : Nat} (h : i < (charsF a f s).length) : (foldM f bold (charsF a f s) i).1 + (charsF a f s)[i].1.length ≤ s.length := by
  rw [foldM_at i (by omega)]
  have h1 := congrArg List.length (charsF_flat a f s)
  have h2 : (charsF a f s).flatMap (·.1) = ((charsF a f s).take i).flatMap (·.1) ++ ((charsF a f s)[i].1 ++ ((charsF a f s).drop (i + 1)).flatMap (·.1)) := by
    conv => lhs; rw [← List.take_append_drop i (charsF a f s), List.drop_eq_getElem_cons h]
    rw [List.flatMap_append, List.flatMap_cons]
  rw [h2, List.length_append, List.length_append] at h1
  omega
theorem kernF_nn {f : Font} (hok : okFont f = true) (l r : List UInt8) : 0 ≤ kernF f.kerns l r := by
  unfold kernF
  split
  · rename_i k hk
    have h1 := ((okFont_iff f).1 hok).2.2.2.2.2.1
    have h2 := List.all_eq_true.1 h1 k (List.mem_of_find?_eq_some hk)
    have := ((okKern_iff k).1 h2).2.2
    omega
  · omega
theorem kernF_le {f : Font} (hok : okFont f = true) (l r : List UInt8) : kernF f.kerns l r ≤ 1000 := by
  unfold kernF
  split
  · rename_i k hk
    have h1 := ((okFont_iff f).1 hok).2.2.2.2.2.1
    have h2 := List.all_eq_true.1 h1 k (List.mem_of_find?_eq_some hk)
    have := ((okKern_iff k).1 h2).2.2
    omega
  · omega
theorem charsN_wid {a : List Ltr} {f : Font} (hok : okFont f = true) (hw : ∀ x ∈ a, 0 ≤ x.width ∧ x.width ≤ 1000) : ∀ (k : Nat) (s : List UInt8), ∀ c ∈ charsN a f k s, 0 ≤ c.2 ∧ c.2 ≤ 1000
  | 0, _, c, h => by cases h
  | k + 1, s, c, h => by
    unfold charsN at h
    split at h
    · cases h
    · rename_i hs
      rcases List.mem_cons.1 h with rfl | h
      · obtain ⟨h1, h2, h3, h4, _⟩ := (okFont_iff f).1 hok
        simp only
        rcases (foldC_len (a := a) (f := f) hs a.length (Nat.le_refl _)).2.2 with ⟨_, e⟩ | ⟨_, _, x, hx, e⟩
        · unfold charF
          rw [e]
          simp only
          unfold singleF
          repeat' split
          all_goals omega
        · unfold charF
          rw [e]
          exact hw x hx
      · exact charsN_wid hok hw k _ c h
theorem chars_low {a : List Ltr} {f : Font} (bold : Bool) (hok : okFont f = true) (hw : ∀ x ∈ a, 0 ≤ x.width ∧ x.width ≤ 1000) (s : List UInt8) : lowW f bold (charsF a f s) := by
  intro c hc
  obtain ⟨h1, h2⟩ := charsN_wid hok hw _ _ c hc
  obtain ⟨_, _, _, h4, _⟩ := (okFont_iff f).1 hok
  unfold boldF
  cases bold with
  | false => simpa using ⟨h1, by omega⟩
  | true =>
    have m1 : 0 ≤ c.2 * f.bold := Int.mul_nonneg h1 (by omega)
    have m2 : c.2 * f.bold ≤ 1000 * 400 := Int.mul_le_mul h2 h4.2 (by omega) (by omega)
    simp only [if_true]
    rw [Int.tdiv_eq_ediv_of_nonneg (by omega)]
    omega
theorem charsN_len {a : List Ltr} {f : Font} : ∀ (k : Nat) (s : List UInt8), (charsN a f k s).length ≤ k
  | 0, _ => Nat.le_refl _
  | k + 1, s => by
    unfold charsN
    split
    · simp
    · have := charsN_len (a := a) (f := f) k (s.drop (charF a f s).1)
      simpa using this
theorem charsF_len (a : List Ltr) (f : Font) (s : List UInt8) : (charsF a f s).length ≤ s.length := charsN_len _ _
end Go.PM

namespace Go.PM
open Go.Proofs
attribute [local irreducible] W PCalls pcall pcallI WL WR WM PYields
def rfA : Code → Code
  | .rangeFunc _ _ x _ => x
  | _ => .skip
def rfB : Code → Code
  | .rangeFunc _ _ _ y => y
  | _ => .skip
/-- What lies in measure's slots while the characters come. -/
@[reducible] def frM (sN fN aN la su at_ pr wi en e3 e2 e1 bo fo : Int) : List (Nat × PV) :=
  [(27, .func 72 [.ptr sN 0, .ptr fN 0, .ptr aN 0]), (16, .ptr la 0), (15, .ptr su 0), (14, .ptr at_ 0), (13, .ptr pr 0), (12, .ptr wi 0), (11, .ptr en 0), (10, .ptr e3 0), (9, .ptr e2 0), (8, .ptr e1 0), (7, .ptr bo 0), (5, .ptr fo 0)]
@[reducible] def mRec (cA cB : Code) (fn : FuncId) (tmps : Array Value) (D : Nat) : Loop := rec0 fn tmps #[28, 29] cA cB D
/-- What a round leaves. -/
@[reducible] def mR (cA cB : Code) (l D : Nat) (fn : FuncId) (tmps : Array Value) (ps : List PV) (w n la su at_ pr M wi en e3 e2 e1 bo fo : Int) (f : Font) (bold : Bool) (st : Nat × Int × List UInt8 × List (Nat × Int)) (c : List UInt8 × Int) (res : PV) (H : Heap) : Prop :=
  (c.2 ≠ 0 ∧ res = pbool true ∧ ∃ w' n' : Int, H = JT l D (rawO (.loop (mRec cA cB fn tmps D)) ps) w' n' la su at_ pr M wi en e3 e2 e1 bo fo f bold (stepM f bold st c) 0 ∧ (names H).Nodup) ∨
  (c.2 = 0 ∧ res = pbool false ∧ H = JT l D (rawO (.loop (left (mRec cA cB fn tmps D) .ret)) ps) w n la su at_ pr M wi en e3 e2 e1 bo fo f bold st 2)
set_option maxRecDepth 100000
set_option maxHeartbeats 8000000
theorem round_c (G : Globs) (cA cB : Code) (hcA : cA = rfA (nav (Tryd.f43.body.getD .skip) [1, 1, 1, 1, 1, 0, 1, 0])) (hcB : cB = rfB (nav (Tryd.f43.body.getD .skip) [1, 1, 1, 1, 1, 0, 1, 0])) (f : Font) (hok : okFont f = true) (bold : Bool) (l D : Nat) (fn : FuncId) (tmps : Array Value) (sN fN aN w n la su at_ pr M wi en e3 e2 e1 bo fo : Int) (st : Nat × Int × List UInt8 × List (Nat × Int)) (c : List UInt8) (wd : Int)
    (hs1 : 0 ≤ st.2.1 ∧ st.2.1 ≤ 300000000) (hs2 : st.1 + c.length ≤ 65536) (hs3 : st.2.2.2.length ≤ 65536) (hwd : 0 ≤ wd ∧ wd ≤ 1000)
    (hnd : (names (JT l D (rawO (.loop (mRec cA cB fn tmps D)) (fr 64 (frM sN fN aN la su at_ pr wi en e3 e2 e1 bo fo))) w n la su at_ pr M wi en e3 e2 e1 bo fo f bold st 0)).Nodup) :
    PYields Tryd.prog G l [pstr c, pint .i64 wd] (JT l D (rawO (.loop (mRec cA cB fn tmps D)) (fr 64 (frM sN fN aN la su at_ pr wi en e3 e2 e1 bo fo))) w n la su at_ pr M wi en e3 e2 e1 bo fo f bold st 0)
      (mR cA cB l D fn tmps (fr 64 (frM sN fN aN la su at_ pr wi en e3 e2 e1 bo fo)) w n la su at_ pr M wi en e3 e2 e1 bo fo f bold st (c, wd)) := by
  have hnm := hnd
  simp only [names, List.map_cons, List.map_nil, List.nodup_cons, dis_cons, dis_nil, List.nodup_nil, and_true] at hnm
  generalize hps : fr 64 (frM sN fN aN la su at_ pr wi en e3 e2 e1 bo fo) = ps
  have hset : setAll ps [28, 29] [pstr c, pint .i64 wd] = fr 64 ((29, pint .i64 wd) :: (28, pstr c) :: frM sN fN aN la su at_ pr wi en e3 e2 e1 bo fo) := by
    rw [← hps]
    simp only [setAll, List.zip_cons_cons, List.zip_nil_left, List.foldl_cons, List.foldl_nil, fr_set]
  unfold mR
  have r1 : (mRec cA cB fn tmps D).state = .ready := rfl
  have r2 : (mRec cA cB fn tmps D).params = #[28, 29] := rfl
  have r3 : (mRec cA cB fn tmps D).assign = cA := rfl
  have r4 : (mRec cA cB fn tmps D).body = cB := rfl
  have r5 : ready (mRec cA cB fn tmps D) = mRec cA cB fn tmps D := rfl
  generalize mRec cA cB fn tmps D = r at *
  refine PYields_of_WR r1 (by rw [r2]; rfl) ?_
  rw [r2, hset, r3, hcA]
  generalize hA : assignK Tryd.prog G l r ps _ _ = KA
  simp only [Tryd.f43, nav, rfA, Option.getD_some]
  repeat' (first
    | (with_reducible apply WR_seq_k; intro nx hnx)
    | (with_reducible first | apply WR_block)
    | (first | (with_reducible refine WR_region_l (by kernel_rfl) ?_) | with_reducible refine WR_region_draw (id := 13) 1 (.op 0 true (.op 1 true (.op 2 true (.op 3 true (.op 4 true (.op 5 true (.op 6 true (.op 7 true (.op 8 true (.op 9 true (.op 10 false (.done)))))))))))) (by kernel_rfl) ?_ | with_reducible refine WR_region_draw (id := 18) 1 (.op 0 true (.alt 1 true (.op 2 false (.op 3 false (.op 4 false (.done)))) (.alt 2 false (.alt 1 true (.op 3 false (.op 4 false (.done))) .stop) .stop))) (by kernel_rfl) ?_)
    | ((first | (with_reducible apply WL_op; intro nx hnx) | with_reducible refine Ev_out ?_ | (with_reducible apply popsD_op; intro nx hnx) | (with_reducible refine popsD_alt ?_ ?_; intro nx hnx) | (with_reducible refine pfresh_k hnm fun nm hnm => ?_; (try simp only [fmb] at hnm)) | (with_reducible refine pborn_mu hnm fun nm hnm => ?_; (try simp only [fmb] at hnm)) | (with_reducible refine pmaybe_k ?_; intro bn hbn)); try (simp (maxSteps := 2000000) (disch := omega) only [evb, evd, eve, constPV, seqK, blockK, scopeK, pbound, pelems, PV.mem?, PV.one, PV.cells, peqs, peq1, pkeys, pkeyt, List.set, Value.cells, ↓popG_eq, ↓pop.eq_1, ↓List.getElem?_map, ↓List.getElem?_cons_zero, ↓List.getElem?_cons_succ, Value.oneCell', Nat.reduceAdd, Nat.reduceMul, Nat.reduceSub, Nat.reduceLeDiff, Nat.reduceEqDiff, ↓reduceIte, ne_eq, reduceCtorEq, forall_const, exists_and_left, exists_eq_left', eq_self, Nat.reduceLT, Int.reduceLT, Int.reduceLE, Int.reduceToNat, Int.reduceAdd, Int.reduceSub, Int.reduceNeg, hnm, Tryd.tf0, Tryd.tf1, Tryd.tf3, Tryd.tf4, Tryd.tf9, Tryd.tf22, Tryd.tf23, Tryd.tf27, Tryd.tf37, Tryd.tf60, Tryd.tf72, Tryd.tf97, Tryd.tf102, Tryd.call41, Tryd.call65]); repeat (refine And.intro (by omega) ?_))
    | ((with_reducible first | apply WL_nil | apply WR_label | apply WR_skip | apply WR_exit | apply WR_ret | apply popsD_done); try simp only [seqK, blockK, scopeK, ↓reduceIte, Nat.reduceEqDiff])
    | with_reducible exact popsD_stop
    | (with_reducible apply WR_cond_k; intro _ _ ea eb; (simp only [condK, cob, opnd, constPV, Nat.reduceEqDiff, Nat.reduceLT, ↓reduceIte, hcb, reduceCtorEq, forall_const, ne_eq]); subst ea eb; first | (refine ⟨fun hc => ?_, fun hc => ?_⟩ <;> first | (exfalso; omega) | (exfalso; exact hc trivial) | skip) | skip)
    | (with_reducible apply hnx; clear hnx nx)
    | (with_reducible refine And.intro (by omega) ?_)
    | (with_reducible refine And.intro ?_ ?_)
    | (clear hnx nx; with_reducible apply hnx; clear hnx nx)
    | (clear hnx nx; clear hnx nx; with_reducible apply hnx; clear hnx nx))
  rw [← hA]
  refine ⟨rfl, rfl, ?_⟩
  rw [r4, hcB]
  generalize hB : roundK l r ps _ = KB
  simp only [Tryd.f43, nav, rfB, Option.getD_some]
  obtain ⟨_, _, _, h4, _⟩ := (okFont_iff f).1 hok
  have m1 : 0 ≤ wd * f.bold := Int.mul_nonneg hwd.1 (by omega)
  have m2 : wd * f.bold ≤ 1000 * 400 := Int.mul_le_mul hwd.2 h4.2 (by omega) (by omega)
  have m3 : 0 ≤ (wd * f.bold + 50).tdiv 100 ∧ (wd * f.bold + 50).tdiv 100 ≤ 4001 := by
    rw [Int.tdiv_eq_ediv_of_nonneg (by omega)]
    omega
  have hk0 := kernF_nn hok st.2.2.1 c
  have hk1 := kernF_le hok st.2.2.1 c
  obtain ⟨st1, st2, st3, st4⟩ := st
  simp only at hs1 hs2 hs3 hk0 hk1
  generalize hkn : kernF f.kerns st3 c = kn at *
  have hstep1 : stepM f true (st1, st2, st3, st4) (c, wd) = (st1 + c.length, st2 + max 0 ((wd * f.bold + 50).tdiv 100 - kn), c, st4 ++ [(st1 + c.length, st2 + max 0 ((wd * f.bold + 50).tdiv 100 - kn))]) := by
    simp only [stepM, boldF, if_true, hkn]
  have hstep2 : stepM f false (st1, st2, st3, st4) (c, wd) = (st1 + c.length, st2 + max 0 (wd - kn), c, st4 ++ [(st1 + c.length, st2 + max 0 (wd - kn))]) := by
    simp only [stepM, boldF, Bool.false_eq_true, if_false, hkn]
  generalize hbw : (wd * f.bold + 50).tdiv 100 = bw at *
  unfold kernF at hkn
  rcases mfindK st3 c f.kerns 0 with ⟨g1, g2, g3⟩ | ⟨j, v, g1, g2, g3⟩
  all_goals
    rw [g2] at hkn
    simp only at hkn
    subst hkn
  · cases bold with
    | true =>
      rw [hstep1] at hB
      clear hstep1 hstep2
      repeat' (first
    | (with_reducible apply WR_seq_k; intro nx hnx)
    | (with_reducible first | apply WR_block)
    | (first | (with_reducible refine WR_region_l (by kernel_rfl) ?_) | with_reducible refine WR_region_draw (id := 13) 1 (.op 0 true (.op 1 true (.op 2 true (.op 3 true (.op 4 true (.op 5 true (.op 6 true (.op 7 true (.op 8 true (.op 9 true (.op 10 false (.done)))))))))))) (by kernel_rfl) ?_ | with_reducible refine WR_region_draw (id := 18) 1 (.op 0 true (.alt 1 true (.op 2 false (.op 3 false (.op 4 false (.done)))) (.alt 2 false (.alt 1 true (.op 3 false (.op 4 false (.done))) .stop) .stop))) (by kernel_rfl) ?_)
    | ((first | (with_reducible apply WL_op; intro nx hnx) | with_reducible refine Ev_out ?_ | (with_reducible apply popsD_op; intro nx hnx) | (with_reducible refine popsD_alt ?_ ?_; intro nx hnx) | (with_reducible refine pfresh_k hnm fun nm hnm => ?_; (try simp only [fmb] at hnm)) | (with_reducible refine pborn_mu hnm fun nm hnm => ?_; (try simp only [fmb] at hnm)) | (with_reducible refine pmaybe_k ?_; intro bn hbn)); try (simp (maxSteps := 2000000) (disch := omega) only [evb, evd, eve, constPV, seqK, blockK, scopeK, pbound, pelems, PV.mem?, PV.one, PV.cells, peqs, peq1, pkeys, pkeyt, List.set, Value.cells, ↓popG_eq, ↓pop.eq_1, ↓List.getElem?_map, ↓List.getElem?_cons_zero, ↓List.getElem?_cons_succ, Value.oneCell', Nat.reduceAdd, Nat.reduceMul, Nat.reduceSub, Nat.reduceLeDiff, Nat.reduceEqDiff, ↓reduceIte, ne_eq, reduceCtorEq, forall_const, exists_and_left, exists_eq_left', eq_self, Nat.reduceLT, Int.reduceLT, Int.reduceLE, Int.reduceToNat, Int.reduceAdd, Int.reduceSub, Int.reduceNeg, hnm, Tryd.tf0, Tryd.tf1, Tryd.tf3, Tryd.tf4, Tryd.tf9, Tryd.tf22, Tryd.tf23, Tryd.tf27, Tryd.tf37, Tryd.tf60, Tryd.tf72, Tryd.tf97, Tryd.tf102, Tryd.call41, Tryd.call65, hbw, g3]); repeat (refine And.intro (by omega) ?_))
    | ((with_reducible first | apply WL_nil | apply WR_label | apply WR_skip | apply WR_exit | apply WR_ret | apply popsD_done); try simp only [seqK, blockK, scopeK, ↓reduceIte, Nat.reduceEqDiff])
    | with_reducible exact popsD_stop
    | (with_reducible apply WR_cond_k; intro _ _ ea eb; (simp only [condK, cob, opnd, constPV, Nat.reduceEqDiff, Nat.reduceLT, ↓reduceIte, hcb, reduceCtorEq, forall_const, ne_eq]); subst ea eb; first | (refine ⟨fun hc => ?_, fun hc => ?_⟩ <;> first | (exfalso; omega) | (exfalso; exact hc trivial) | skip) | skip)
    | (with_reducible apply hnx; clear hnx nx)
    | (with_reducible refine And.intro (by omega) ?_)
    | (with_reducible refine And.intro ?_ ?_)
    | (clear hnx nx; with_reducible apply hnx; clear hnx nx)
    | (clear hnx nx; clear hnx nx; with_reducible apply hnx; clear hnx nx))
      all_goals first | exact absurd trivial hc | contradiction | exact fun h => False.elim h | (exfalso; omega) | (exfalso; have hc := of_decide_eq_false hc; omega) | (exfalso; simp only [Bool.not_false, Bool.not_true, decide_eq_true_eq, decide_eq_false_iff_not] at *; omega) | skip
      · rw [← hB]
        exact ⟨JU D w n la su at_ pr M wi en e3 e2 e1 bo fo f true (st1, st2, st3, st4) 2, ⟨by simp, hnd⟩, .inr ⟨hc, rfl, rfl⟩⟩
      · rename_i a2 ha2 a1 ha1 a0 ha0
        have hnn : [(l : Int), D, a1, nm, la, su, at_, pr, M, wi, en, e3, e2, e1, bo, fo].Nodup := by simp [hnm]
        rw [← hB]
        refine ⟨JU D nm a1 la su at_ pr M wi en e3 e2 e1 bo fo f true (st1 + c.length, st2 + max 0 (bw - 0), c, st4 ++ [(st1 + c.length, st2 + max 0 (bw - 0))]) 0, ⟨?_, hnn⟩, .inl ⟨hc, rfl, nm, a1, by rw [r5], hnn⟩⟩
        simp
    | false =>
      rw [hstep2] at hB
      clear hstep1 hstep2
      repeat' (first
    | (with_reducible apply WR_seq_k; intro nx hnx)
    | (with_reducible first | apply WR_block)
    | (first | (with_reducible refine WR_region_l (by kernel_rfl) ?_) | with_reducible refine WR_region_draw (id := 13) 1 (.op 0 true (.op 1 true (.op 2 true (.op 3 true (.op 4 true (.op 5 true (.op 6 true (.op 7 true (.op 8 true (.op 9 true (.op 10 false (.done)))))))))))) (by kernel_rfl) ?_ | with_reducible refine WR_region_draw (id := 18) 1 (.op 0 true (.alt 1 true (.op 2 false (.op 3 false (.op 4 false (.done)))) (.alt 2 false (.alt 1 true (.op 3 false (.op 4 false (.done))) .stop) .stop))) (by kernel_rfl) ?_)
    | ((first | (with_reducible apply WL_op; intro nx hnx) | with_reducible refine Ev_out ?_ | (with_reducible apply popsD_op; intro nx hnx) | (with_reducible refine popsD_alt ?_ ?_; intro nx hnx) | (with_reducible refine pfresh_k hnm fun nm hnm => ?_; (try simp only [fmb] at hnm)) | (with_reducible refine pborn_mu hnm fun nm hnm => ?_; (try simp only [fmb] at hnm)) | (with_reducible refine pmaybe_k ?_; intro bn hbn)); try (simp (maxSteps := 2000000) (disch := omega) only [evb, evd, eve, constPV, seqK, blockK, scopeK, pbound, pelems, PV.mem?, PV.one, PV.cells, peqs, peq1, pkeys, pkeyt, List.set, Value.cells, ↓popG_eq, ↓pop.eq_1, ↓List.getElem?_map, ↓List.getElem?_cons_zero, ↓List.getElem?_cons_succ, Value.oneCell', Nat.reduceAdd, Nat.reduceMul, Nat.reduceSub, Nat.reduceLeDiff, Nat.reduceEqDiff, ↓reduceIte, ne_eq, reduceCtorEq, forall_const, exists_and_left, exists_eq_left', eq_self, Nat.reduceLT, Int.reduceLT, Int.reduceLE, Int.reduceToNat, Int.reduceAdd, Int.reduceSub, Int.reduceNeg, hnm, Tryd.tf0, Tryd.tf1, Tryd.tf3, Tryd.tf4, Tryd.tf9, Tryd.tf22, Tryd.tf23, Tryd.tf27, Tryd.tf37, Tryd.tf60, Tryd.tf72, Tryd.tf97, Tryd.tf102, Tryd.call41, Tryd.call65, hbw, g3]); repeat (refine And.intro (by omega) ?_))
    | ((with_reducible first | apply WL_nil | apply WR_label | apply WR_skip | apply WR_exit | apply WR_ret | apply popsD_done); try simp only [seqK, blockK, scopeK, ↓reduceIte, Nat.reduceEqDiff])
    | with_reducible exact popsD_stop
    | (with_reducible apply WR_cond_k; intro _ _ ea eb; (simp only [condK, cob, opnd, constPV, Nat.reduceEqDiff, Nat.reduceLT, ↓reduceIte, hcb, reduceCtorEq, forall_const, ne_eq]); subst ea eb; first | (refine ⟨fun hc => ?_, fun hc => ?_⟩ <;> first | (exfalso; omega) | (exfalso; exact hc trivial) | skip) | skip)
    | (with_reducible apply hnx; clear hnx nx)
    | (with_reducible refine And.intro (by omega) ?_)
    | (with_reducible refine And.intro ?_ ?_)
    | (clear hnx nx; with_reducible apply hnx; clear hnx nx)
    | (clear hnx nx; clear hnx nx; with_reducible apply hnx; clear hnx nx))
      all_goals first | exact absurd trivial hc | contradiction | exact fun h => False.elim h | (exfalso; omega) | (exfalso; have hc := of_decide_eq_false hc; omega) | (exfalso; simp only [Bool.not_false, Bool.not_true, decide_eq_true_eq, decide_eq_false_iff_not] at *; omega) | skip
      · rw [← hB]
        exact ⟨JU D w n la su at_ pr M wi en e3 e2 e1 bo fo f false (st1, st2, st3, st4) 2, ⟨by simp, hnd⟩, .inr ⟨hc, rfl, rfl⟩⟩
      · rename_i a2 ha2 a1 ha1 a0 ha0
        have hnn : [(l : Int), D, a1, nm, la, su, at_, pr, M, wi, en, e3, e2, e1, bo, fo].Nodup := by simp [hnm]
        rw [← hB]
        refine ⟨JU D nm a1 la su at_ pr M wi en e3 e2 e1 bo fo f false (st1 + c.length, st2 + max 0 (wd - 0), c, st4 ++ [(st1 + c.length, st2 + max 0 (wd - 0))]) 0, ⟨?_, hnn⟩, .inl ⟨hc, rfl, nm, a1, by rw [r5], hnn⟩⟩
        simp
  · cases bold with
    | true =>
      rw [hstep1] at hB
      clear hstep1 hstep2
      repeat' (first
    | (with_reducible apply WR_seq_k; intro nx hnx)
    | (with_reducible first | apply WR_block)
    | (first | (with_reducible refine WR_region_l (by kernel_rfl) ?_) | with_reducible refine WR_region_draw (id := 13) 1 (.op 0 true (.op 1 true (.op 2 true (.op 3 true (.op 4 true (.op 5 true (.op 6 true (.op 7 true (.op 8 true (.op 9 true (.op 10 false (.done)))))))))))) (by kernel_rfl) ?_ | with_reducible refine WR_region_draw (id := 18) 1 (.op 0 true (.alt 1 true (.op 2 false (.op 3 false (.op 4 false (.done)))) (.alt 2 false (.alt 1 true (.op 3 false (.op 4 false (.done))) .stop) .stop))) (by kernel_rfl) ?_)
    | ((first | (with_reducible apply WL_op; intro nx hnx) | with_reducible refine Ev_out ?_ | (with_reducible apply popsD_op; intro nx hnx) | (with_reducible refine popsD_alt ?_ ?_; intro nx hnx) | (with_reducible refine pfresh_k hnm fun nm hnm => ?_; (try simp only [fmb] at hnm)) | (with_reducible refine pborn_mu hnm fun nm hnm => ?_; (try simp only [fmb] at hnm)) | (with_reducible refine pmaybe_k ?_; intro bn hbn)); try (simp (maxSteps := 2000000) (disch := omega) only [evb, evd, eve, constPV, seqK, blockK, scopeK, pbound, pelems, PV.mem?, PV.one, PV.cells, peqs, peq1, pkeys, pkeyt, List.set, Value.cells, ↓popG_eq, ↓pop.eq_1, ↓List.getElem?_map, ↓List.getElem?_cons_zero, ↓List.getElem?_cons_succ, Value.oneCell', Nat.reduceAdd, Nat.reduceMul, Nat.reduceSub, Nat.reduceLeDiff, Nat.reduceEqDiff, ↓reduceIte, ne_eq, reduceCtorEq, forall_const, exists_and_left, exists_eq_left', eq_self, Nat.reduceLT, Int.reduceLT, Int.reduceLE, Int.reduceToNat, Int.reduceAdd, Int.reduceSub, Int.reduceNeg, hnm, Tryd.tf0, Tryd.tf1, Tryd.tf3, Tryd.tf4, Tryd.tf9, Tryd.tf22, Tryd.tf23, Tryd.tf27, Tryd.tf37, Tryd.tf60, Tryd.tf72, Tryd.tf97, Tryd.tf102, Tryd.call41, Tryd.call65, hbw, g3]); repeat (refine And.intro (by omega) ?_))
    | ((with_reducible first | apply WL_nil | apply WR_label | apply WR_skip | apply WR_exit | apply WR_ret | apply popsD_done); try simp only [seqK, blockK, scopeK, ↓reduceIte, Nat.reduceEqDiff])
    | with_reducible exact popsD_stop
    | (with_reducible apply WR_cond_k; intro _ _ ea eb; (simp only [condK, cob, opnd, constPV, Nat.reduceEqDiff, Nat.reduceLT, ↓reduceIte, hcb, reduceCtorEq, forall_const, ne_eq]); subst ea eb; first | (refine ⟨fun hc => ?_, fun hc => ?_⟩ <;> first | (exfalso; omega) | (exfalso; exact hc trivial) | skip) | skip)
    | (with_reducible apply hnx; clear hnx nx)
    | (with_reducible refine And.intro (by omega) ?_)
    | (with_reducible refine And.intro ?_ ?_)
    | (clear hnx nx; with_reducible apply hnx; clear hnx nx)
    | (clear hnx nx; clear hnx nx; with_reducible apply hnx; clear hnx nx))
      all_goals first | exact absurd trivial hc | contradiction | exact fun h => False.elim h | (exfalso; omega) | (exfalso; have hc := of_decide_eq_false hc; omega) | (exfalso; simp only [Bool.not_false, Bool.not_true, decide_eq_true_eq, decide_eq_false_iff_not] at *; omega) | skip
      · rw [← hB]
        exact ⟨JU D w n la su at_ pr M wi en e3 e2 e1 bo fo f true (st1, st2, st3, st4) 2, ⟨by simp, hnd⟩, .inr ⟨hc, rfl, rfl⟩⟩
      · rename_i a2 ha2 a1 ha1 a0 ha0
        have hnn : [(l : Int), D, a1, nm, la, su, at_, pr, M, wi, en, e3, e2, e1, bo, fo].Nodup := by simp [hnm]
        rw [← hB]
        refine ⟨JU D nm a1 la su at_ pr M wi en e3 e2 e1 bo fo f true (st1 + c.length, st2 + max 0 (bw - v.by_), c, st4 ++ [(st1 + c.length, st2 + max 0 (bw - v.by_))]) 0, ⟨?_, hnn⟩, .inl ⟨hc, rfl, nm, a1, by rw [r5], hnn⟩⟩
        simp
    | false =>
      rw [hstep2] at hB
      clear hstep1 hstep2
      repeat' (first
    | (with_reducible apply WR_seq_k; intro nx hnx)
    | (with_reducible first | apply WR_block)
    | (first | (with_reducible refine WR_region_l (by kernel_rfl) ?_) | with_reducible refine WR_region_draw (id := 13) 1 (.op 0 true (.op 1 true (.op 2 true (.op 3 true (.op 4 true (.op 5 true (.op 6 true (.op 7 true (.op 8 true (.op 9 true (.op 10 false (.done)))))))))))) (by kernel_rfl) ?_ | with_reducible refine WR_region_draw (id := 18) 1 (.op 0 true (.alt 1 true (.op 2 false (.op 3 false (.op 4 false (.done)))) (.alt 2 false (.alt 1 true (.op 3 false (.op 4 false (.done))) .stop) .stop))) (by kernel_rfl) ?_)
    | ((first | (with_reducible apply WL_op; intro nx hnx) | with_reducible refine Ev_out ?_ | (with_reducible apply popsD_op; intro nx hnx) | (with_reducible refine popsD_alt ?_ ?_; intro nx hnx) | (with_reducible refine pfresh_k hnm fun nm hnm => ?_; (try simp only [fmb] at hnm)) | (with_reducible refine pborn_mu hnm fun nm hnm => ?_; (try simp only [fmb] at hnm)) | (with_reducible refine pmaybe_k ?_; intro bn hbn)); try (simp (maxSteps := 2000000) (disch := omega) only [evb, evd, eve, constPV, seqK, blockK, scopeK, pbound, pelems, PV.mem?, PV.one, PV.cells, peqs, peq1, pkeys, pkeyt, List.set, Value.cells, ↓popG_eq, ↓pop.eq_1, ↓List.getElem?_map, ↓List.getElem?_cons_zero, ↓List.getElem?_cons_succ, Value.oneCell', Nat.reduceAdd, Nat.reduceMul, Nat.reduceSub, Nat.reduceLeDiff, Nat.reduceEqDiff, ↓reduceIte, ne_eq, reduceCtorEq, forall_const, exists_and_left, exists_eq_left', eq_self, Nat.reduceLT, Int.reduceLT, Int.reduceLE, Int.reduceToNat, Int.reduceAdd, Int.reduceSub, Int.reduceNeg, hnm, Tryd.tf0, Tryd.tf1, Tryd.tf3, Tryd.tf4, Tryd.tf9, Tryd.tf22, Tryd.tf23, Tryd.tf27, Tryd.tf37, Tryd.tf60, Tryd.tf72, Tryd.tf97, Tryd.tf102, Tryd.call41, Tryd.call65, hbw, g3]); repeat (refine And.intro (by omega) ?_))
    | ((with_reducible first | apply WL_nil | apply WR_label | apply WR_skip | apply WR_exit | apply WR_ret | apply popsD_done); try simp only [seqK, blockK, scopeK, ↓reduceIte, Nat.reduceEqDiff])
    | with_reducible exact popsD_stop
    | (with_reducible apply WR_cond_k; intro _ _ ea eb; (simp only [condK, cob, opnd, constPV, Nat.reduceEqDiff, Nat.reduceLT, ↓reduceIte, hcb, reduceCtorEq, forall_const, ne_eq]); subst ea eb; first | (refine ⟨fun hc => ?_, fun hc => ?_⟩ <;> first | (exfalso; omega) | (exfalso; exact hc trivial) | skip) | skip)
    | (with_reducible apply hnx; clear hnx nx)
    | (with_reducible refine And.intro (by omega) ?_)
    | (with_reducible refine And.intro ?_ ?_)
    | (clear hnx nx; with_reducible apply hnx; clear hnx nx)
    | (clear hnx nx; clear hnx nx; with_reducible apply hnx; clear hnx nx))
      all_goals first | exact absurd trivial hc | contradiction | exact fun h => False.elim h | (exfalso; omega) | (exfalso; have hc := of_decide_eq_false hc; omega) | (exfalso; simp only [Bool.not_false, Bool.not_true, decide_eq_true_eq, decide_eq_false_iff_not] at *; omega) | skip
      · rw [← hB]
        exact ⟨JU D w n la su at_ pr M wi en e3 e2 e1 bo fo f false (st1, st2, st3, st4) 2, ⟨by simp, hnd⟩, .inr ⟨hc, rfl, rfl⟩⟩
      · rename_i a2 ha2 a1 ha1 a0 ha0
        have hnn : [(l : Int), D, a1, nm, la, su, at_, pr, M, wi, en, e3, e2, e1, bo, fo].Nodup := by simp [hnm]
        rw [← hB]
        refine ⟨JU D nm a1 la su at_ pr M wi en e3 e2 e1 bo fo f false (st1 + c.length, st2 + max 0 (wd - v.by_), c, st4 ++ [(st1 + c.length, st2 + max 0 (wd - v.by_))]) 0, ⟨?_, hnn⟩, .inl ⟨hc, rfl, nm, a1, by rw [r5], hnn⟩⟩
        simp
end Go.PM

namespace Go.PM
open Go.Proofs
attribute [local irreducible] W PCalls pcall pcallI WL WR WM PYields
/-- What holds before the character with the number i. -/
@[reducible] def mJ (cA cB : Code) (l D : Nat) (fn : FuncId) (tmps : Array Value) (ps : List PV) (la su at_ pr M wi en e3 e2 e1 bo fo : Int) (f : Font) (bold : Bool) (cs : List (List UInt8 × Int)) (i : Nat) (H : Heap) : Prop :=
  (∀ c ∈ cs.take i, c.2 ≠ 0) ∧ ∃ w n : Int, H = JT l D (rawO (.loop (mRec cA cB fn tmps D)) ps) w n la su at_ pr M wi en e3 e2 e1 bo fo f bold (foldM f bold cs i) 0 ∧ (names H).Nodup
/-- What holds where a byte was no character. -/
@[reducible] def mX (cA cB : Code) (l D : Nat) (fn : FuncId) (tmps : Array Value) (ps : List PV) (la su at_ pr M wi en e3 e2 e1 bo fo : Int) (f : Font) (bold : Bool) (cs : List (List UInt8 × Int)) (H : Heap) : Prop :=
  (∃ c ∈ cs, c.2 = 0) ∧ ∃ (w n : Int) (i : Nat), H = JT l D (rawO (.loop (left (mRec cA cB fn tmps D) .ret)) ps) w n la su at_ pr M wi en e3 e2 e1 bo fo f bold (foldM f bold cs i) 2 ∧ (names H).Nodup
set_option maxRecDepth 100000
set_option maxHeartbeats 8000000
theorem range_c (G : Globs) (a : List Ltr) (f : Font) (s : List UInt8) (bold : Bool) (ha : HA a) (hw : ∀ x ∈ a, 0 ≤ x.width ∧ x.width ≤ 1000) (hf : HF f) (hok : okFont f = true) (hsl : s.length ≤ 65536)
    (sN fN aN la su at_ pr M wi en e3 e2 e1 bo fo : Int) (K : Option Nat → Exit → PState → Prop)
    (hnd : [sN, fN, aN, la, su, at_, pr, M, wi, en, e3, e2, e1, bo, fo].Nodup)
    (hK1 : (∀ c ∈ charsF a f s, c.2 ≠ 0) → ∀ (D : Nat) (w n : Int), (names (JU D w n la su at_ pr M wi en e3 e2 e1 bo fo f bold (foldM f bold (charsF a f s) (charsF a f s).length) 0)).Nodup →
      K (some D) .normal ⟨fr 64 (frM sN fN aN la su at_ pr wi en e3 e2 e1 bo fo), JU D w n la su at_ pr M wi en e3 e2 e1 bo fo f bold (foldM f bold (charsF a f s) (charsF a f s).length) 0⟩)
    (hK2 : (∃ c ∈ charsF a f s, c.2 = 0) → ∀ (D : Nat) (w n : Int) (i : Nat), (names (JU D w n la su at_ pr M wi en e3 e2 e1 bo fo f bold (foldM f bold (charsF a f s) i) 2)).Nodup →
      K (some D) .ret ⟨fr 64 (frM sN fN aN la su at_ pr wi en e3 e2 e1 bo fo), JU D w n la su at_ pr M wi en e3 e2 e1 bo fo f bold (foldM f bold (charsF a f s) i) 2⟩) :
    WM Tryd.prog G [] (nav (Tryd.f43.body.getD .skip) [1, 1, 1, 1, 1, 0, 1, 0]) ⟨fr 64 (frM sN fN aN la su at_ pr wi en e3 e2 e1 bo fo),
      [(sN, stO s), (fN, foC f), (aN, ltO a), (la, stO []), (su, ⟨3, false, 0, [pint .i64 0]⟩), (at_, ⟨3, false, 0, [pint .i64 0]⟩), (pr, ⟨72, false, 0, [.mp M]⟩), (M, ⟨72, false, 0, memK f.kerns⟩), (wi, ⟨22, false, 0, [pnil]⟩), (en, ⟨22, false, 0, [pnil]⟩),
        (e3, ⟨37, false, 0, [pint .i64 0]⟩), (e2, ⟨22, false, 0, [pnil]⟩), (e1, ⟨22, false, 0, [pnil]⟩), (bo, ⟨4, false, 0, [pbool bold]⟩), (fo, foC f)]⟩ K := by
  have hnm := hnd
  simp only [List.nodup_cons, dis_cons, dis_nil, List.nodup_nil, and_true] at hnm
  obtain ⟨cA, hcA⟩ : ∃ x, x = rfA (nav (Tryd.f43.body.getD .skip) [1, 1, 1, 1, 1, 0, 1, 0]) := ⟨_, rfl⟩
  obtain ⟨cB, hcB⟩ : ∃ x, x = rfB (nav (Tryd.f43.body.getD .skip) [1, 1, 1, 1, 1, 0, 1, 0]) := ⟨_, rfl⟩
  have hcode : nav (Tryd.f43.body.getD .skip) [1, 1, 1, 1, 1, 0, 1, 0] = .rangeFunc (.tmp 27) #[28, 29] cA cB := by
    rw [hcA, hcB]
    rfl
  rw [hcode]
  refine WM_adopt_c wi 0 3 1 (o := ⟨22, false, 0, [pnil]⟩) (by simp only [look, hnm, ↓reduceIte]) rfl fun w hw1 => ?_
  simp only [names, List.map_cons, List.map_nil, dis_cons, dis_nil, and_true] at hw1
  simp only [upd, hnm, ↓reduceIte, List.set_cons_zero]
  refine WM_adopt_c en 0 3 1 (o := ⟨22, false, 0, [pnil]⟩) (by simp only [look, hnm, hw1, ↓reduceIte]) rfl fun n hn1 => ?_
  simp only [names, List.map_cons, List.map_nil, dis_cons, dis_nil, and_true] at hn1
  simp only [upd, hnm, hw1, ↓reduceIte, List.set_cons_zero]
  obtain ⟨cs, hcs⟩ : ∃ cs, cs = charsF a f s := ⟨_, rfl⟩
  have hlen : cs.length ≤ 65536 := by rw [hcs]; exact Nat.le_trans (charsF_len a f s) hsl
  refine WM_range (gf := 72) (caps := [.ptr sN 0, .ptr fN 0, .ptr aN 0]) (by simp only [opnd, fr_getD_cons, fr_getD_nil, Nat.reduceEqDiff, Nat.reduceLT, ↓reduceIte]) Tryd.call72 fun fn tmps D l hD hl hDl => ?_
  simp only [names, List.map_cons, List.map_nil, dis_cons, dis_nil, and_true] at hD hl
  generalize hps : fr 64 (frM sN fN aN la su at_ pr wi en e3 e2 e1 bo fo) = ps
  have hDl2 : ((l : Int) = D) = False := eq_false (by omega)
  have hnd0 : (names (JT l D (rawO (.loop (mRec cA cB fn tmps D)) ps) w n la su at_ pr M wi en e3 e2 e1 bo fo f bold (foldM f bold cs 0) 0)).Nodup := by
    simp [names, hnm, hw1, hn1, hD, hl, hDl2]
  have hit := iter_c G a f s ha hf hsl l sN fN aN (mJ cA cB l D fn tmps ps la su at_ pr M wi en e3 e2 e1 bo fo f bold cs) (mX cA cB l D fn tmps ps la su at_ pr M wi en e3 e2 e1 bo fo f bold cs) (by
    rw [← hcs]
    rintro i hi H ⟨h1, w', n', rfl, hn'⟩
    have b1 := foldM_sum (f := f) (bold := bold) (cs := cs) (by rw [hcs]; exact chars_low bold hok hw s) (kernF_nn hok) i (by omega)
    have b2 : (foldM f bold cs i).1 + cs[i].1.length ≤ s.length := by
      subst hcs
      exact foldM_fits hi
    have b3 := foldM_len (f := f) (bold := bold) (cs := cs) i (by omega)
    have b4 := charsN_wid hok hw s.length s cs[i] (by
      have : cs[i] ∈ charsF a f s := by rw [← hcs]; exact List.getElem_mem hi
      exact this)
    have hr := round_c G cA cB hcA hcB f hok bold l D fn tmps sN fN aN w' n' la su at_ pr M wi en e3 e2 e1 bo fo (foldM f bold cs i) cs[i].1 cs[i].2 (by omega) (by omega) (by omega) b4 (by rw [hps]; exact hn')
    rw [hps] at hr
    refine hr.mono ?_
    rintro res H' (⟨hc, rfl, w2, n2, rfl, hnn⟩ | ⟨hc, rfl, rfl⟩)
    · refine .inl ⟨rfl, ?_, w2, n2, ?_, hnn⟩
      · rw [List.take_succ_eq_append_getElem hi]
        intro c hm
        rcases List.mem_append.1 hm with h | h
        · exact h1 c h
        · simp only [List.mem_singleton] at h
          subst h
          exact hc
      · rw [foldM_step hi]
    · exact .inr ⟨rfl, ⟨cs[i], List.getElem_mem hi, hc⟩, w', n', i, rfl, hn'⟩) _ ⟨by simp, w, n, rfl, hnd0⟩
  rw [← hcs] at hit
  refine ⟨_, hit.perm ?_, ?_⟩
  · exact List.perm_append_comm_assoc [_, _, _, _] [_, _, _] _
  · rintro res Hout ⟨H', hsub, ⟨h1, w', n', rfl, hn'⟩ | ⟨h1, w', n', i, rfl, hn'⟩⟩
    · rw [List.take_length] at h1
      refine ⟨_, _, _, hsub, by simp, ?_⟩
      rw [hcs] at h1 hn' ⊢
      have hk := hK1 h1 D w' n' (List.nodup_cons.1 hn').2
      rw [hps] at hk
      exact hk
    · refine ⟨_, _, _, hsub, by simp, ?_⟩
      rw [hcs] at h1 hn' ⊢
      have hk := hK2 h1 D w' n' i (List.nodup_cons.1 hn').2
      rw [hps] at hk
      exact hk
/-- What measure hands back: rows of its own, or nothing and an error. -/
@[reducible] def mRes (m : List (Nat × Int) × Int) (res : PV) (H : Heap) : Prop :=
  (m.1 = [] ∧ m.2 ≠ 0 ∧ res = .tuple [pnil, pnil, pint .i64 m.2] ∧ H = []) ∨
  (m.2 = 0 ∧ ∃ n w : Int, res = .tuple [.row n 1 m.1.length, .row w 1 m.1.length, pint .i64 m.2] ∧ H = [(n, ⟨3, true, 1, m.1.map fun x => pn x.1⟩), (w, ⟨3, true, 1, m.1.map fun x => pint .i64 x.2⟩)])
theorem pres22 {σ : PState} {x : Tmp} {n : Int} {p : PV} (hx : σ.frame.getD x .junk = .ptr n 0) (hl : look σ.heap n = some ⟨22, false, 0, [p]⟩) : PRes Tryd.prog σ (.cell x 22) p := by
  simp only [PRes, Tryd.tf22, hx, hl, pload]
  simp
theorem pres37 {σ : PState} {x : Tmp} {n : Int} {p : PV} (hx : σ.frame.getD x .junk = .ptr n 0) (hl : look σ.heap n = some ⟨37, false, 0, [p]⟩) : PRes Tryd.prog σ (.cell x 37) p := by
  simp only [PRes, Tryd.tf37, hx, hl, pload]
  simp
theorem measF_bad {a : List Ltr} {f : Font} {s : List UInt8} {bold : Bool} (hs : s.length ≤ 65536) (h : ∃ c ∈ charsF a f s, c.2 = 0) : measF a f s bold = ([], 2) := by
  unfold measF
  rw [if_neg (by omega), if_pos]
  obtain ⟨c, hc, h0⟩ := h
  exact List.any_eq_true.2 ⟨c, hc, by simp [h0]⟩
theorem measF_ok {a : List Ltr} {f : Font} {s : List UInt8} {bold : Bool} (hs : s.length ≤ 65536) (h : ∀ c ∈ charsF a f s, c.2 ≠ 0) : measF a f s bold = ((foldM f bold (charsF a f s) (charsF a f s).length).2.2.2, 0) := by
  unfold measF
  rw [if_neg (by omega), if_neg]
  intro hany
  obtain ⟨c, hc, h0⟩ := List.any_eq_true.1 hany
  exact h c hc (by simpa using h0)
theorem measure_r (G : Globs) (a : List Ltr) (f : Font) (s : List UInt8) (bold : Bool) (ha : HA a) (hw : ∀ x ∈ a, 0 ≤ x.width ∧ x.width ≤ 1000) (hf : HF f) (hok : okFont f = true) (hsl : (s.length : Int) ≤ 9223372036854775807) :
    PCalls Tryd.prog G 43 [ltsP a, foP f, pstr s, pbool bold] [] (mRes (measF a f s bold)) := by
  have c1 := kerns_c G f hf
  have c2 := characters_c G a f s
  have hp := ((okFont_iff f).1 hok).2.2.2.2.2.2
  refine PCalls_M Tryd.func43 rfl Tryd.ntmps43 Tryd.results43 (by simp) fun fin hfin => ?_
  have hnm : True := trivial
  simp (maxSteps := 2000000) (disch := omega) only [evb, evd, eve, constPV, seqK, blockK, scopeK, pbound, pelems, PV.mem?, PV.one, PV.cells, peqs, peq1, pkeys, pkeyt, List.set, Value.cells, ↓popG_eq, ↓pop.eq_1, ↓List.getElem?_map, ↓List.getElem?_cons_zero, ↓List.getElem?_cons_succ, Value.oneCell', Nat.reduceAdd, Nat.reduceMul, Nat.reduceSub, Nat.reduceLeDiff, Nat.reduceEqDiff, ↓reduceIte, ne_eq, reduceCtorEq, forall_const, exists_and_left, exists_eq_left', eq_self, Nat.reduceLT, Int.reduceLT, Int.reduceLE, Int.reduceToNat, Int.reduceAdd, Int.reduceSub, Int.reduceNeg, hnm, Tryd.tf0, Tryd.tf1, Tryd.tf2, Tryd.tf3, Tryd.tf4, Tryd.tf5, Tryd.tf6, Tryd.tf7, Tryd.tf8, Tryd.tf9, Tryd.tf10, Tryd.tf11, Tryd.tf12, Tryd.tf13, Tryd.tf14, Tryd.tf15, Tryd.tf16, Tryd.tf17, Tryd.tf18, Tryd.tf19, Tryd.tf20, Tryd.tf21, Tryd.tf22, Tryd.tf23, Tryd.tf24, Tryd.tf25, Tryd.tf26, Tryd.tf27, Tryd.tf28, Tryd.tf29, Tryd.tf30, Tryd.tf31, Tryd.tf32, Tryd.tf33, Tryd.tf34, Tryd.tf35, Tryd.tf36, Tryd.tf37, Tryd.tf38, Tryd.tf39, Tryd.tf40, Tryd.tf41, Tryd.tf42, Tryd.tf43, Tryd.tf44, Tryd.tf45, Tryd.tf46, Tryd.tf47, Tryd.tf48, Tryd.tf49, Tryd.tf50, Tryd.tf51, Tryd.tf52, Tryd.tf53, Tryd.tf54, Tryd.tf55, Tryd.tf56, Tryd.tf57, Tryd.tf58, Tryd.tf59, Tryd.tf60, Tryd.teq60, Tryd.tf61, Tryd.tf62, Tryd.tf63, Tryd.teq63, Tryd.tf64, Tryd.tf65, Tryd.tf66, Tryd.tf67, Tryd.tf68, Tryd.teq68, Tryd.tf69, Tryd.tf70, Tryd.tf71, Tryd.tf72, Tryd.tf73, Tryd.tf74, Tryd.tf75, Tryd.tf76, Tryd.tf77, Tryd.tf78, Tryd.tf79, Tryd.tf80, Tryd.tf81, Tryd.tf82, Tryd.tf83, Tryd.tf84, Tryd.tf85, Tryd.tf86, Tryd.tf87, Tryd.tf88, Tryd.tf89, Tryd.tf90, Tryd.tf91, Tryd.tf92, Tryd.tf93, Tryd.tf94, Tryd.tf95, Tryd.tf96, Tryd.tf97, Tryd.teq97, Tryd.tf98, Tryd.tf99, Tryd.tf100, Tryd.tf101, Tryd.tf102, Tryd.tf103, Tryd.tf104, Tryd.tf105, Tryd.tf106, Tryd.tf107, Tryd.tf108, Tryd.tf109, Tryd.teq109, Tryd.tf110, Tryd.tf111, Tryd.tf112, Tryd.tf113, Tryd.tf114, Tryd.tf115, Tryd.tf116, Tryd.tf117, Tryd.teq117, Tryd.tf118, Tryd.tf119, Tryd.tf120, Tryd.tf121, Tryd.tf122, Tryd.tf123, Tryd.tf124, Tryd.teq124, Tryd.tf125, Tryd.tf126, Tryd.tf127, Tryd.tf128, Tryd.tf129, Tryd.tf130, Tryd.tf131, Tryd.teq131, Tryd.tf132, Tryd.teq132, Tryd.tf133, Tryd.tf134, Tryd.tf135, Tryd.tf136, Tryd.tf137, Tryd.tf138, Tryd.tf139, Tryd.tf140, Tryd.tf141, Tryd.tf142, Tryd.tf143, Tryd.tf144, Tryd.tf145, Tryd.call3, Tryd.call4, Tryd.call5, Tryd.call6, Tryd.call7, Tryd.call8, Tryd.call9, Tryd.call10, Tryd.call11, Tryd.call12, Tryd.call13, Tryd.call14, Tryd.call15, Tryd.call16, Tryd.call17, Tryd.call18, Tryd.call19, Tryd.call20, Tryd.call21, Tryd.call22, Tryd.call23, Tryd.call24, Tryd.call25, Tryd.call26, Tryd.call27, Tryd.call28, Tryd.call29, Tryd.call30, Tryd.call31, Tryd.call32, Tryd.call33, Tryd.call34, Tryd.call35, Tryd.call36, Tryd.call37, Tryd.call38, Tryd.call39, Tryd.call40, Tryd.call41, Tryd.call42, Tryd.call43, Tryd.call44, Tryd.call45, Tryd.call46, Tryd.call47, Tryd.call48, Tryd.call49, Tryd.call50, Tryd.call51, Tryd.call52, Tryd.call53, Tryd.call54, Tryd.call55, Tryd.call56, Tryd.call57, Tryd.call58, Tryd.call59, Tryd.call60, Tryd.call61, Tryd.call62, Tryd.call63, Tryd.call64, Tryd.call65, Tryd.call66, Tryd.call67, Tryd.call69, Tryd.call70, Tryd.call71, Tryd.call72, Tryd.call73, Tryd.call74, Tryd.call77, Tryd.call82, Tryd.call84, Tryd.call87, Tryd.call89, Tryd.call90]
  repeat' (first
    | (with_reducible refine WM_seq_at (id := 6) ?_)
    | ((with_reducible apply WM_seq_k; intro nx hnx))
    | (with_reducible apply W_seq_k; intro nx hnx)
    | (with_reducible first | apply W_block | apply W_scope)
    | (with_reducible refine W_prune 524207 ?_; simp only [prb, Nat.reducePow, Nat.reduceDiv, Nat.reduceMod, Nat.reduceBEq]; first | (with_reducible apply W_region_l) | with_reducible refine W_region_draw (id := 13) 1 (.op 0 true (.op 1 true (.op 2 true (.op 3 true (.op 4 true (.op 5 true (.op 6 true (.op 7 true (.op 8 true (.op 9 true (.op 10 false (.done)))))))))))) (by kernel_rfl) ?_ | with_reducible refine W_region_draw (id := 18) 1 (.op 0 true (.alt 1 true (.op 2 false (.op 3 false (.op 4 false (.done)))) (.alt 2 false (.alt 1 true (.op 3 false (.op 4 false (.done))) .stop) .stop))) (by kernel_rfl) ?_)
    | ((first | (with_reducible apply WL_op; intro nx hnx) | with_reducible refine Ev_out ?_ | (with_reducible apply popsD_op; intro nx hnx) | (with_reducible refine popsD_alt ?_ ?_; intro nx hnx) | (with_reducible refine pfresh_k hnm fun nm hnm => ?_; (try simp only [fmb] at hnm)) | (with_reducible refine pborn_mu hnm fun nm hnm => ?_; (try simp only [fmb] at hnm)) | (with_reducible refine pmaybe_k ?_; intro bn hbn)); try (simp (maxSteps := 2000000) (disch := omega) only [evb, evd, eve, constPV, seqK, blockK, scopeK, pbound, pelems, PV.mem?, PV.one, PV.cells, peqs, peq1, pkeys, pkeyt, List.set, Value.cells, ↓popG_eq, ↓pop.eq_1, ↓List.getElem?_map, ↓List.getElem?_cons_zero, ↓List.getElem?_cons_succ, Value.oneCell', Nat.reduceAdd, Nat.reduceMul, Nat.reduceSub, Nat.reduceLeDiff, Nat.reduceEqDiff, ↓reduceIte, ne_eq, reduceCtorEq, forall_const, exists_and_left, exists_eq_left', eq_self, Nat.reduceLT, Int.reduceLT, Int.reduceLE, Int.reduceToNat, Int.reduceAdd, Int.reduceSub, Int.reduceNeg, hnm, Tryd.tf0, Tryd.tf1, Tryd.tf3, Tryd.tf4, Tryd.tf9, Tryd.tf22, Tryd.tf23, Tryd.tf27, Tryd.tf37, Tryd.tf60, Tryd.tf72, Tryd.tf97, Tryd.tf102, Tryd.call41, Tryd.call65]); repeat (refine And.intro (by omega) ?_))
    | ((with_reducible first | apply WL_nil | apply W_label | apply W_skip | apply W_exit | apply W_ret | apply popsD_done); try simp only [seqK, blockK, scopeK, ↓reduceIte, Nat.reduceEqDiff])
    | with_reducible exact popsD_stop
    | (with_reducible apply W_cond_k; intro _ _ ea eb; (simp only [condK, cob, opnd, constPV, Nat.reduceEqDiff, Nat.reduceLT, ↓reduceIte, hcb, reduceCtorEq, forall_const, ne_eq]); subst ea eb; first | (refine ⟨fun hc => ?_, fun hc => ?_⟩ <;> first | (exfalso; omega) | (exfalso; exact hc trivial) | skip) | skip)
    | (with_reducible apply hnx; clear hnx nx)
    | (with_reducible refine And.intro (by omega) ?_)
    | (with_reducible refine And.intro ?_ ?_)
    | ((with_reducible refine pcall_k c1 ?_; rintro _ _ (⟨hv, n, rfl, rfl⟩ | ⟨hv, rfl, rfl⟩) hdis; first | (exact absurd hp hv) | (have hdis := hdis n (by simp [names]); simp only [names, List.map_cons, List.map_nil, dis_cons, dis_nil, and_true] at hdis; have hnm := And.intro hnm hdis; clear hdis; refine Ev_in ?_)))
    | ((with_reducible refine pcall_k c2 ?_; rintro _ _ ⟨sN, fN, aN, rfl, rfl⟩ -; refine Ev_in ?_))
    | (clear hnx nx; with_reducible apply hnx; clear hnx nx)
    | (clear hnx nx; clear hnx nx; with_reducible apply hnx; clear hnx nx))
  all_goals first | exact absurd trivial hc | contradiction | exact fun h => False.elim h | (exfalso; omega) | (exfalso; have hc := of_decide_eq_false hc; omega) | (exfalso; simp only [Bool.not_false, Bool.not_true, decide_eq_true_eq, decide_eq_false_iff_not] at *; omega) | skip
  · refine hfin none .ret _ (Fin_ret (H := []) (res := .tuple [pnil, pnil, pint .i64 4]) ⟨[pnil, pnil, pint .i64 4], ?_, rfl⟩ (Sub_nil _) (.inl ?_))
    · exact ⟨pres22 (n := _) (by (try simp only [fr_getD_cons, fr_getD_nil, Nat.reduceEqDiff, Nat.reduceLT, ↓reduceIte]); first | done | rfl) (by (try simp only [look, hnm, ↓reduceIte]); first | done | rfl), pres22 (by (try simp only [fr_getD_cons, fr_getD_nil, Nat.reduceEqDiff, Nat.reduceLT, ↓reduceIte]); first | done | rfl) (by (try simp only [look, hnm, ↓reduceIte]); first | done | rfl), pres37 (by (try simp only [fr_getD_cons, fr_getD_nil, Nat.reduceEqDiff, Nat.reduceLT, ↓reduceIte]); first | done | rfl) (by (try simp only [look, hnm, ↓reduceIte]); first | done | rfl), trivial⟩
    · have : 65536 < s.length := by omega
      simp [measF, this]
  have hsl2 : s.length ≤ 65536 := by omega
  refine WM_nd fun hnd => ?_
  refine WM_block ?_
  have rc := fun la su at_ pr M wi en e3 e2 e1 bo fo K => range_c G a f s bold ha hw hf hok hsl2 sN fN aN la su at_ pr M wi en e3 e2 e1 bo fo K
  simp only [Tryd.f43, nav, Option.getD_some] at rc
  refine WM_wk ?_ (rc _ _ _ _ _ _ _ _ _ _ _ _ _ hnd ?_ ?_)
  · refine Wk_fr ?_ (Sub_refl hnd)
    simp only [wkb, Nat.reduceEqDiff, Nat.reduceLT, ↓reduceIte]
  · intro h1 D w n2 hnn
    have hm := measF_ok (bold := bold) hsl2 h1
    obtain ⟨st, hst⟩ : ∃ st, st = foldM f bold (charsF a f s) (charsF a f s).length := ⟨_, rfl⟩
    rw [← hst] at hnn hm ⊢
    rw [hm] at hfin
    obtain ⟨st1, st2, st3, st4⟩ := st
    clear hnm
    have hnm := hnn
    simp only [names, List.map_cons, List.map_nil, List.nodup_cons, dis_cons, dis_nil, List.nodup_nil, and_true] at hnm
    refine (show W Tryd.prog G [] _ _ (fin (some D)) from ?_)
    repeat' (first
    | (with_reducible apply W_seq_k; intro nx hnx)
    | (with_reducible first | apply W_block | apply W_scope)
    | (with_reducible refine W_prune 524207 ?_; simp only [prb, Nat.reducePow, Nat.reduceDiv, Nat.reduceMod, Nat.reduceBEq]; first | (with_reducible apply W_region_l) | with_reducible refine W_region_draw (id := 13) 1 (.op 0 true (.op 1 true (.op 2 true (.op 3 true (.op 4 true (.op 5 true (.op 6 true (.op 7 true (.op 8 true (.op 9 true (.op 10 false (.done)))))))))))) (by kernel_rfl) ?_ | with_reducible refine W_region_draw (id := 18) 1 (.op 0 true (.alt 1 true (.op 2 false (.op 3 false (.op 4 false (.done)))) (.alt 2 false (.alt 1 true (.op 3 false (.op 4 false (.done))) .stop) .stop))) (by kernel_rfl) ?_)
    | ((first | (with_reducible apply WL_op; intro nx hnx) | with_reducible refine Ev_out ?_ | (with_reducible apply popsD_op; intro nx hnx) | (with_reducible refine popsD_alt ?_ ?_; intro nx hnx) | (with_reducible refine pfresh_k hnm fun nm hnm => ?_; (try simp only [fmb] at hnm)) | (with_reducible refine pborn_mu hnm fun nm hnm => ?_; (try simp only [fmb] at hnm)) | (with_reducible refine pmaybe_k ?_; intro bn hbn)); try (simp (maxSteps := 2000000) (disch := omega) only [evb, evd, eve, constPV, seqK, blockK, scopeK, pbound, pelems, PV.mem?, PV.one, PV.cells, peqs, peq1, pkeys, pkeyt, List.set, Value.cells, ↓popG_eq, ↓pop.eq_1, ↓List.getElem?_map, ↓List.getElem?_cons_zero, ↓List.getElem?_cons_succ, Value.oneCell', Nat.reduceAdd, Nat.reduceMul, Nat.reduceSub, Nat.reduceLeDiff, Nat.reduceEqDiff, ↓reduceIte, ne_eq, reduceCtorEq, forall_const, exists_and_left, exists_eq_left', eq_self, Nat.reduceLT, Int.reduceLT, Int.reduceLE, Int.reduceToNat, Int.reduceAdd, Int.reduceSub, Int.reduceNeg, hnm, Tryd.tf0, Tryd.tf1, Tryd.tf3, Tryd.tf4, Tryd.tf9, Tryd.tf22, Tryd.tf23, Tryd.tf27, Tryd.tf37, Tryd.tf60, Tryd.tf72, Tryd.tf97, Tryd.tf102, Tryd.call41, Tryd.call65]); repeat (refine And.intro (by omega) ?_))
    | ((with_reducible first | apply WL_nil | apply W_label | apply W_skip | apply W_exit | apply W_ret | apply popsD_done); try simp only [seqK, blockK, scopeK, ↓reduceIte, Nat.reduceEqDiff])
    | with_reducible exact popsD_stop
    | (with_reducible apply W_cond_k; intro _ _ ea eb; (simp only [condK, cob, opnd, constPV, Nat.reduceEqDiff, Nat.reduceLT, ↓reduceIte, hcb, reduceCtorEq, forall_const, ne_eq]); subst ea eb; first | (refine ⟨fun hc => ?_, fun hc => ?_⟩ <;> first | (exfalso; omega) | (exfalso; exact hc trivial) | skip) | skip)
    | (with_reducible apply hnx; clear hnx nx)
    | (with_reducible refine And.intro (by omega) ?_)
    | (with_reducible refine And.intro ?_ ?_)
    | (clear hnx nx; with_reducible apply hnx; clear hnx nx)
    | (clear hnx nx; clear hnx nx; with_reducible apply hnx; clear hnx nx))
    all_goals first | exact absurd trivial hc | contradiction | exact fun h => False.elim h | (exfalso; omega) | (exfalso; have hc := of_decide_eq_false hc; omega) | (exfalso; simp only [Bool.not_false, Bool.not_true, decide_eq_true_eq, decide_eq_false_iff_not] at *; omega) | skip
    all_goals
      refine hfin (some D) .ret _ ⟨_, Sub_refl hnn, Fin_ret (H := [(n2, ⟨3, true, 1, st4.map fun x => pn x.1⟩), (w, ⟨3, true, 1, st4.map fun x => pint .i64 x.2⟩)]) (res := .tuple [.row n2 1 st4.length, .row w 1 st4.length, pint .i64 0]) ⟨[.row n2 1 st4.length, .row w 1 st4.length, pint .i64 0], ?_, rfl⟩ ⟨by simp, by simp [names, hnm]⟩ (.inr ⟨rfl, n2, w, rfl, rfl⟩)⟩
      exact ⟨pres22 (n := _) (by (try simp only [fr_getD_cons, fr_getD_nil, Nat.reduceEqDiff, Nat.reduceLT, ↓reduceIte]); first | done | rfl) (by (try simp only [look, hnm, ↓reduceIte]); first | done | rfl), pres22 (by (try simp only [fr_getD_cons, fr_getD_nil, Nat.reduceEqDiff, Nat.reduceLT, ↓reduceIte]); first | done | rfl) (by (try simp only [look, hnm, ↓reduceIte]); first | done | rfl), pres37 (by (try simp only [fr_getD_cons, fr_getD_nil, Nat.reduceEqDiff, Nat.reduceLT, ↓reduceIte]); first | done | rfl) (by (try simp only [look, hnm, ↓reduceIte]); first | done | rfl), trivial⟩
  · intro h1 D w n2 i hnn
    have hm := measF_bad (bold := bold) hsl2 h1
    rw [hm] at hfin
    generalize foldM f bold (charsF a f s) i = st at *
    clear hnm
    have hnm := hnn
    simp only [names, List.map_cons, List.map_nil, List.nodup_cons, dis_cons, dis_nil, List.nodup_nil, and_true] at hnm
    refine (show fin (some D) .ret _ from ?_)
    refine hfin (some D) .ret _ ⟨_, Sub_refl hnn, Fin_ret (H := []) (res := .tuple [pnil, pnil, pint .i64 2]) ⟨[pnil, pnil, pint .i64 2], ?_, rfl⟩ (Sub_nil _) (.inl ⟨rfl, by simp, rfl, rfl⟩)⟩
    exact ⟨pres22 (n := _) (by (try simp only [fr_getD_cons, fr_getD_nil, Nat.reduceEqDiff, Nat.reduceLT, ↓reduceIte]); first | done | rfl) (by (try simp only [look, hnm, ↓reduceIte]); first | done | rfl), pres22 (by (try simp only [fr_getD_cons, fr_getD_nil, Nat.reduceEqDiff, Nat.reduceLT, ↓reduceIte]); first | done | rfl) (by (try simp only [look, hnm, ↓reduceIte]); first | done | rfl), pres37 (by (try simp only [fr_getD_cons, fr_getD_nil, Nat.reduceEqDiff, Nat.reduceLT, ↓reduceIte]); first | done | rfl) (by (try simp only [look, hnm, ↓reduceIte]); first | done | rfl), trivial⟩
end Go.PM

namespace Go.PM
open Go.Proofs
/-- The five cells of a letter. -/
@[reducible] def cellL (x : Ltr) : List PV := [pstr x.text, pint .i64 x.base, pint .i64 x.mark, pint .i64 x.case_, pint .i64 x.width]
/-- The cells of letters, one after the other. -/
def flatL (l : List Ltr) : List PV := l.flatMap cellL
theorem flatL_cons (x : Ltr) (l : List Ltr) : flatL (x :: l) = cellL x ++ flatL l := by simp [flatL]
theorem flatL_len : ∀ l : List Ltr, (flatL l).length = l.length * 5
  | [] => rfl
  | c :: l => by
    have := flatL_len l
    rw [flatL_cons, List.length_append, this]
    simp only [List.length_cons, List.length_nil]
    omega
theorem flatL_app (l m : List Ltr) : flatL (l ++ m) = flatL l ++ flatL m := by simp [flatL]
theorem flatL_snoc (l : List Ltr) (x : Ltr) : flatL (l ++ [x]) = flatL l ++ cellL x := by simp [flatL]
theorem flatL_drop : ∀ (l : List Ltr) (i : Nat), (flatL l).drop (i * 5) = flatL (l.drop i)
  | [], i => by simp [flatL]
  | x :: l, 0 => by simp
  | x :: l, i + 1 => by
    rw [flatL_cons, show (i + 1) * 5 = 5 + i * 5 by omega, List.drop_succ_cons, ← flatL_drop l i, ← List.drop_drop]
    rfl
theorem flatL_at {l : List Ltr} {i : Nat} (h : i < l.length) : ((flatL l).drop (i * 5)).take 5 = cellL l[i] := by
  rw [flatL_drop, List.drop_eq_getElem_cons h, flatL_cons]
  rfl
theorem flatL_get {l : List Ltr} {i : Nat} (h : i < l.length) (j : Nat) (hj : j < 5) : (flatL l)[i * 5 + j]? = (cellL l[i])[j]? := by
  have := congrArg (fun q : List PV => q[j]?) (flatL_at h)
  simp only [List.getElem?_take, List.getElem?_drop, hj, if_true] at this
  exact this
theorem flatL_set {l : List Ltr} {i : Nat} (h : i < l.length) (x : Ltr) : flatL (l.set i x) = (flatL l).take (i * 5) ++ cellL x ++ (flatL l).drop ((i + 1) * 5) := by
  have h1 : (flatL l).take (i * 5) = flatL (l.take i) := by
    have h2 : flatL l = flatL (l.take i) ++ flatL (l.drop i) := by rw [← flatL_app, List.take_append_drop]
    rw [h2, List.take_left' (by rw [flatL_len, List.length_take, Nat.min_eq_left (by omega)])]
  rw [h1, flatL_drop, List.set_eq_take_append_cons_drop, if_pos h, flatL_app, flatL_cons, List.append_assoc]
theorem elems_flatL : ∀ (l : List Ltr), (List.range l.length).map (fun i => PV.agg (((flatL l).drop (i * 5)).take 5)) = l.map ltP
  | [] => rfl
  | c :: l => by
    rw [List.length_cons, List.range_succ_eq_map, List.map_cons, List.map_cons, List.map_map]
    congr 1
    rw [← elems_flatL l]
    refine List.map_congr_left fun i _ => ?_
    simp only [Function.comp_apply, Nat.succ_eq_add_one]
    rw [show (i + 1) * 5 = i * 5 + 5 by omega]
    show PV.agg (List.take 5 (List.drop (i * 5 + 5) (cellL c ++ flatL l))) = _
    rw [List.drop_append]
    simp
theorem frz_lts (n : Int) (l : List Ltr) : frz n (flatL l) (.row n 5 l.length) = ltsP l := by
  simp only [frz, frz1, if_true, elemsOf]
  rw [if_pos (by rw [flatL_len]; omega), if_neg (by omega), elems_flatL]
/-- Letters in a row, or none. -/
@[reducible] def CRL (l : List Ltr) (res : PV) (H : Heap) : Prop := (l = [] ∧ res = pnil ∧ H = []) ∨ (∃ n : Int, res = .row n 5 l.length ∧ H = [(n, ⟨60, true, 5, flatL l⟩)])
/-- Letters in a row are turned no more. -/
theorem Px_lts {G : Globs} {O : Int} {t1 : TypeId} (l : List Ltr) : Px G (.row O 5 l.length) [(O, ⟨t1, true, 5, flatL l⟩)] (ltsP l) [] := by
  have h := Px.freeze (G := G) (.row O 5 l.length) [(O, ⟨t1, true, 5, flatL l⟩)] O (o := ⟨t1, true, 5, flatL l⟩) (by simp only [look, if_true]) (by simp [frzOk, del])
  simp only [frz_lts] at h
  simpa [frzH, del] using h
theorem CRL.frz {G : Globs} {f : FuncId} {args : List PV} {b : List Ltr} (h : PCalls Tryd.prog G f args [] (CRL b)) : PCalls Tryd.prog G f args [] (fun res H => res = ltsP b ∧ H = []) := by
  refine h.px fun res H hR => ?_
  rcases hR with ⟨rfl, rfl, rfl⟩ | ⟨N, rfl, rfl⟩
  · exact ⟨_, _, Px.nil 5 _, rfl, rfl⟩
  · exact ⟨_, _, Px_lts b, rfl, rfl⟩
end Go.PM

namespace Go.PM
open Go.Proofs
attribute [local irreducible] W PCalls pcall pcallI WL
set_option maxRecDepth 100000
set_option maxHeartbeats 8000000
/-- A number of a machine. -/
@[reducible] def i64 (n : Int) : Prop := -9223372036854775808 ≤ n ∧ n ≤ 9223372036854775807
/-- a number from 0 to below another -/
def arF (n most : Int) : Int := (if n < 0 then -(n + 1) else n) % most
theorem arF_bound (n : Int) {most : Int} (h : 0 < most) : 0 ≤ arF n most ∧ arF n most < most := ⟨Int.emod_nonneg _ (by omega), Int.emod_lt_of_pos _ h⟩
theorem around_c (G : Globs) (n most : Int) (h : 0 < most) (hn : i64 n) (hm : most ≤ 9223372036854775807) : PCalls Tryd.prog G 24 [pint .i64 n, pint .i64 most] [] (fun res H => res = pint .i64 (arF n most) ∧ H = []) := by
  have hb := arF_bound n h
  unfold arF at hb ⊢
  have t1 : (0 - (n + 1)).tmod most = if n < 0 then (-(n + 1)) % most else (0 - (n + 1)).tmod most := by
    split
    · rw [show 0 - (n + 1) = -(n + 1) by omega]
      exact Int.tmod_eq_emod_of_nonneg (by omega)
    · rfl
  have t2 : n.tmod most = if n < 0 then n.tmod most else n % most := by
    split
    · rfl
    · exact Int.tmod_eq_emod_of_nonneg (by omega)
  by_cases h0 : n < 0
  · rw [if_pos h0] at t1 hb ⊢
    generalize (-(n + 1)) % most = r at *
    (refine PCalls_f Tryd.func24 rfl Tryd.ntmps24 Tryd.results24 (by simp) fun fin hfin => ?_; have hnm : True := trivial; simp (maxSteps := 2000000) (disch := omega) only [evb, evd, eve, constPV, seqK, blockK, scopeK, pbound, pelems, PV.mem?, PV.one, PV.cells, peqs, peq1, pkeys, pkeyt, List.set, Value.cells, ↓popG_eq, ↓pop.eq_1, ↓List.getElem?_map, ↓List.getElem?_cons_zero, ↓List.getElem?_cons_succ, Value.oneCell', Nat.reduceAdd, Nat.reduceMul, Nat.reduceSub, Nat.reduceLeDiff, Nat.reduceEqDiff, ↓reduceIte, ne_eq, reduceCtorEq, forall_const, exists_and_left, exists_eq_left', eq_self, Nat.reduceLT, Int.reduceLT, Int.reduceLE, Int.reduceToNat, Int.reduceAdd, Int.reduceSub, Int.reduceNeg, hnm, Tryd.tf3, Tryd.tf4])
    repeat' (first
    | (with_reducible apply W_seq_k; intro nx hnx)
    | (with_reducible first | apply W_block | apply W_scope)
    | (with_reducible refine W_prune 19 ?_; simp only [prb, Nat.reducePow, Nat.reduceDiv, Nat.reduceMod, Nat.reduceBEq]; with_reducible apply W_region_l)
    | ((first | (with_reducible apply WL_op; intro nx hnx) | with_reducible refine Ev_out ?_); try (simp (maxSteps := 2000000) (disch := omega) only [evb, evd, eve, constPV, seqK, blockK, scopeK, pbound, pelems, PV.mem?, PV.one, PV.cells, peqs, peq1, pkeys, pkeyt, List.set, Value.cells, ↓popG_eq, ↓pop.eq_1, ↓List.getElem?_map, ↓List.getElem?_cons_zero, ↓List.getElem?_cons_succ, Value.oneCell', Nat.reduceAdd, Nat.reduceMul, Nat.reduceSub, Nat.reduceLeDiff, Nat.reduceEqDiff, ↓reduceIte, ne_eq, reduceCtorEq, forall_const, exists_and_left, exists_eq_left', eq_self, Nat.reduceLT, Int.reduceLT, Int.reduceLE, Int.reduceToNat, Int.reduceAdd, Int.reduceSub, Int.reduceNeg, hnm, Tryd.tf3, Tryd.tf4, t1]); repeat (refine And.intro (by omega) ?_))
    | ((with_reducible first | apply WL_nil | apply W_label | apply W_skip | apply W_exit | apply W_ret); try simp only [seqK, blockK, scopeK, ↓reduceIte, Nat.reduceEqDiff])
    | (with_reducible apply W_cond_k; intro _ _ ea eb; (simp only [condK, cob, opnd, constPV, Nat.reduceEqDiff, Nat.reduceLT, ↓reduceIte, hcb, reduceCtorEq, forall_const, ne_eq]); subst ea eb; first | (refine ⟨fun hc => ?_, fun hc => ?_⟩ <;> first | (exfalso; omega) | (exfalso; exact hc trivial) | skip) | skip)
    | (with_reducible apply hnx; clear hnx nx)
    | (with_reducible refine And.intro (by omega) ?_)
    | (with_reducible refine And.intro ?_ ?_)
    | (clear hnx nx; with_reducible apply hnx; clear hnx nx)
    | (clear hnx nx; clear hnx nx; with_reducible apply hnx; clear hnx nx))
    all_goals first
      | (exfalso
         omega)
      | (refine hfin _ _ (Fin_ret1 rfl (Sub_nil _) ?_); simp only [List.getD_cons_zero, List.getD_cons_succ, fr_getD_cons, fr_getD_nil, Nat.reduceEqDiff, Nat.reduceLT, ↓reduceIte]; first | trivial | exact ⟨rfl, by trivial⟩ | (simp; done) | (simp; omega))
  · rw [if_neg h0] at t2 hb ⊢
    generalize n % most = r at *
    (refine PCalls_f Tryd.func24 rfl Tryd.ntmps24 Tryd.results24 (by simp) fun fin hfin => ?_; have hnm : True := trivial; simp (maxSteps := 2000000) (disch := omega) only [evb, evd, eve, constPV, seqK, blockK, scopeK, pbound, pelems, PV.mem?, PV.one, PV.cells, peqs, peq1, pkeys, pkeyt, List.set, Value.cells, ↓popG_eq, ↓pop.eq_1, ↓List.getElem?_map, ↓List.getElem?_cons_zero, ↓List.getElem?_cons_succ, Value.oneCell', Nat.reduceAdd, Nat.reduceMul, Nat.reduceSub, Nat.reduceLeDiff, Nat.reduceEqDiff, ↓reduceIte, ne_eq, reduceCtorEq, forall_const, exists_and_left, exists_eq_left', eq_self, Nat.reduceLT, Int.reduceLT, Int.reduceLE, Int.reduceToNat, Int.reduceAdd, Int.reduceSub, Int.reduceNeg, hnm, Tryd.tf3, Tryd.tf4])
    repeat' (first
    | (with_reducible apply W_seq_k; intro nx hnx)
    | (with_reducible first | apply W_block | apply W_scope)
    | (with_reducible refine W_prune 19 ?_; simp only [prb, Nat.reducePow, Nat.reduceDiv, Nat.reduceMod, Nat.reduceBEq]; with_reducible apply W_region_l)
    | ((first | (with_reducible apply WL_op; intro nx hnx) | with_reducible refine Ev_out ?_); try (simp (maxSteps := 2000000) (disch := omega) only [evb, evd, eve, constPV, seqK, blockK, scopeK, pbound, pelems, PV.mem?, PV.one, PV.cells, peqs, peq1, pkeys, pkeyt, List.set, Value.cells, ↓popG_eq, ↓pop.eq_1, ↓List.getElem?_map, ↓List.getElem?_cons_zero, ↓List.getElem?_cons_succ, Value.oneCell', Nat.reduceAdd, Nat.reduceMul, Nat.reduceSub, Nat.reduceLeDiff, Nat.reduceEqDiff, ↓reduceIte, ne_eq, reduceCtorEq, forall_const, exists_and_left, exists_eq_left', eq_self, Nat.reduceLT, Int.reduceLT, Int.reduceLE, Int.reduceToNat, Int.reduceAdd, Int.reduceSub, Int.reduceNeg, hnm, Tryd.tf3, Tryd.tf4, t2]); repeat (refine And.intro (by omega) ?_))
    | ((with_reducible first | apply WL_nil | apply W_label | apply W_skip | apply W_exit | apply W_ret); try simp only [seqK, blockK, scopeK, ↓reduceIte, Nat.reduceEqDiff])
    | (with_reducible apply W_cond_k; intro _ _ ea eb; (simp only [condK, cob, opnd, constPV, Nat.reduceEqDiff, Nat.reduceLT, ↓reduceIte, hcb, reduceCtorEq, forall_const, ne_eq]); subst ea eb; first | (refine ⟨fun hc => ?_, fun hc => ?_⟩ <;> first | (exfalso; omega) | (exfalso; exact hc trivial) | skip) | skip)
    | (with_reducible apply hnx; clear hnx nx)
    | (with_reducible refine And.intro (by omega) ?_)
    | (with_reducible refine And.intro ?_ ?_)
    | (clear hnx nx; with_reducible apply hnx; clear hnx nx)
    | (clear hnx nx; clear hnx nx; with_reducible apply hnx; clear hnx nx))
    all_goals first
      | (exfalso
         omega)
      | (refine hfin _ _ (Fin_ret1 rfl (Sub_nil _) ?_); simp only [List.getD_cons_zero, List.getD_cons_succ, fr_getD_cons, fr_getD_nil, Nat.reduceEqDiff, Nat.reduceLT, ↓reduceIte]; first | trivial | exact ⟨rfl, by trivial⟩ | (simp; done) | (simp; omega))
/-- a number of a list, from 0 to below another -/
def atF (l : List Int) (i : Nat) (most : Int) : Int := if i < l.length then arF (l.getD i 0) most else 0
theorem atF_bound (l : List Int) (i : Nat) {most : Int} (h : 0 < most) : 0 ≤ atF l i most ∧ atF l i most < most := by
  unfold atF
  split
  · exact arF_bound _ h
  · omega
/-- Numbers of a machine. -/
@[reducible] def okI (l : List Int) : Prop := (l.length : Int) ≤ 9223372036854775807 ∧ ∀ x ∈ l, i64 x
theorem okI_get {l : List Int} (hl : okI l) (i : Nat) : i64 (l.getD i 0) := by
  by_cases hi : i < l.length
  · have : l.getD i 0 = l[i] := by simp [hi]
    rw [this]
    exact hl.2 _ (List.getElem_mem hi)
  · have : l.getD i 0 = 0 := by simp [Nat.le_of_not_lt hi]
    rw [this]
    exact ⟨by omega, by omega⟩
theorem at_c (G : Globs) (l : List Int) (hl : okI l) (i : Nat) (most : Int) (h : 0 < most) (hm : most ≤ 9223372036854775807) :
    PCalls Tryd.prog G 36 [wP l, pn i, pint .i64 most] [] (fun res H => res = pint .i64 (atF l i most) ∧ H = []) := by
  by_cases hi : i < l.length
  · have c1 := around_c G (l.getD i 0) most h (okI_get hl i) hm
    have hg : l[i] = l.getD i 0 := by simp [hi]
    have hl1 := hl.1
    rw [atF, if_pos hi]
    generalize l.getD i 0 = x at *
    (refine PCalls_f Tryd.func36 rfl Tryd.ntmps36 Tryd.results36 (by simp) fun fin hfin => ?_; have hnm : True := trivial; simp (maxSteps := 2000000) (disch := omega) only [evb, evd, eve, constPV, seqK, blockK, scopeK, pbound, pelems, PV.mem?, PV.one, PV.cells, peqs, peq1, pkeys, pkeyt, List.set, Value.cells, ↓popG_eq, ↓pop.eq_1, ↓List.getElem?_map, ↓List.getElem?_cons_zero, ↓List.getElem?_cons_succ, Value.oneCell', Nat.reduceAdd, Nat.reduceMul, Nat.reduceSub, Nat.reduceLeDiff, Nat.reduceEqDiff, ↓reduceIte, ne_eq, reduceCtorEq, forall_const, exists_and_left, exists_eq_left', eq_self, Nat.reduceLT, Int.reduceLT, Int.reduceLE, Int.reduceToNat, Int.reduceAdd, Int.reduceSub, Int.reduceNeg, hnm, Tryd.tf0, Tryd.tf3, Tryd.tf4, Tryd.tf22, Tryd.call24])
    repeat' (first
    | (with_reducible apply W_seq_k; intro nx hnx)
    | (with_reducible first | apply W_block | apply W_scope)
    | (with_reducible refine W_prune 71 ?_; simp only [prb, Nat.reducePow, Nat.reduceDiv, Nat.reduceMod, Nat.reduceBEq]; with_reducible apply W_region_l)
    | ((first | (with_reducible apply WL_op; intro nx hnx) | with_reducible refine Ev_out ?_); try (simp (maxSteps := 2000000) (disch := omega) only [evb, evd, eve, constPV, seqK, blockK, scopeK, pbound, pelems, PV.mem?, PV.one, PV.cells, peqs, peq1, pkeys, pkeyt, List.set, Value.cells, ↓popG_eq, ↓pop.eq_1, ↓List.getElem?_map, ↓List.getElem?_cons_zero, ↓List.getElem?_cons_succ, Value.oneCell', Nat.reduceAdd, Nat.reduceMul, Nat.reduceSub, Nat.reduceLeDiff, Nat.reduceEqDiff, ↓reduceIte, ne_eq, reduceCtorEq, forall_const, exists_and_left, exists_eq_left', eq_self, Nat.reduceLT, Int.reduceLT, Int.reduceLE, Int.reduceToNat, Int.reduceAdd, Int.reduceSub, Int.reduceNeg, hnm, Tryd.tf0, Tryd.tf3, Tryd.tf4, Tryd.tf22, Tryd.call24, hg]); repeat (refine And.intro (by omega) ?_))
    | ((with_reducible first | apply WL_nil | apply W_label | apply W_skip | apply W_exit | apply W_ret); try simp only [seqK, blockK, scopeK, ↓reduceIte, Nat.reduceEqDiff])
    | (with_reducible apply pguard_intro <;> (intro hc; (try simp only [hcb, reduceCtorEq, forall_const, ne_eq] at hc); first | (exfalso; omega) | (exfalso; exact hc trivial) | refine Ev_in ?_))
    | (with_reducible apply W_cond_k; intro _ _ ea eb; (simp only [condK, cob, opnd, constPV, Nat.reduceEqDiff, Nat.reduceLT, ↓reduceIte, hcb, reduceCtorEq, forall_const, ne_eq]); subst ea eb; first | (refine ⟨fun hc => ?_, fun hc => ?_⟩ <;> first | (exfalso; omega) | (exfalso; exact hc trivial) | skip) | skip)
    | (with_reducible apply hnx; clear hnx nx)
    | (with_reducible refine And.intro (by omega) ?_)
    | (with_reducible refine And.intro ?_ ?_)
    | (with_reducible refine pcall_k (c1) ?_; rintro _ _ ⟨rfl, rfl⟩ -; refine Ev_in ?_)
    | (clear hnx nx; with_reducible apply hnx; clear hnx nx)
    | (clear hnx nx; clear hnx nx; with_reducible apply hnx; clear hnx nx))
    all_goals first
      | (exfalso
         omega)
      | (refine hfin _ _ (Fin_ret1 rfl (Sub_nil _) ?_); simp only [List.getD_cons_zero, List.getD_cons_succ, fr_getD_cons, fr_getD_nil, Nat.reduceEqDiff, Nat.reduceLT, ↓reduceIte]; first | trivial | exact ⟨rfl, by trivial⟩ | (simp; done) | (simp; omega))
  · rw [atF, if_neg hi]
    (refine PCalls_f Tryd.func36 rfl Tryd.ntmps36 Tryd.results36 (by simp) fun fin hfin => ?_; have hnm : True := trivial; simp (maxSteps := 2000000) (disch := omega) only [evb, evd, eve, constPV, seqK, blockK, scopeK, pbound, pelems, PV.mem?, PV.one, PV.cells, peqs, peq1, pkeys, pkeyt, List.set, Value.cells, ↓popG_eq, ↓pop.eq_1, ↓List.getElem?_map, ↓List.getElem?_cons_zero, ↓List.getElem?_cons_succ, Value.oneCell', Nat.reduceAdd, Nat.reduceMul, Nat.reduceSub, Nat.reduceLeDiff, Nat.reduceEqDiff, ↓reduceIte, ne_eq, reduceCtorEq, forall_const, exists_and_left, exists_eq_left', eq_self, Nat.reduceLT, Int.reduceLT, Int.reduceLE, Int.reduceToNat, Int.reduceAdd, Int.reduceSub, Int.reduceNeg, hnm, Tryd.tf0, Tryd.tf3, Tryd.tf4, Tryd.tf22, Tryd.call24])
    repeat' (first
    | (with_reducible apply W_seq_k; intro nx hnx)
    | (with_reducible first | apply W_block | apply W_scope)
    | (with_reducible refine W_prune 71 ?_; simp only [prb, Nat.reducePow, Nat.reduceDiv, Nat.reduceMod, Nat.reduceBEq]; with_reducible apply W_region_l)
    | ((first | (with_reducible apply WL_op; intro nx hnx) | with_reducible refine Ev_out ?_); try (simp (maxSteps := 2000000) (disch := omega) only [evb, evd, eve, constPV, seqK, blockK, scopeK, pbound, pelems, PV.mem?, PV.one, PV.cells, peqs, peq1, pkeys, pkeyt, List.set, Value.cells, ↓popG_eq, ↓pop.eq_1, ↓List.getElem?_map, ↓List.getElem?_cons_zero, ↓List.getElem?_cons_succ, Value.oneCell', Nat.reduceAdd, Nat.reduceMul, Nat.reduceSub, Nat.reduceLeDiff, Nat.reduceEqDiff, ↓reduceIte, ne_eq, reduceCtorEq, forall_const, exists_and_left, exists_eq_left', eq_self, Nat.reduceLT, Int.reduceLT, Int.reduceLE, Int.reduceToNat, Int.reduceAdd, Int.reduceSub, Int.reduceNeg, hnm, Tryd.tf0, Tryd.tf3, Tryd.tf4, Tryd.tf22, Tryd.call24]); repeat (refine And.intro (by omega) ?_))
    | ((with_reducible first | apply WL_nil | apply W_label | apply W_skip | apply W_exit | apply W_ret); try simp only [seqK, blockK, scopeK, ↓reduceIte, Nat.reduceEqDiff])
    | (with_reducible apply pguard_intro <;> (intro hc; (try simp only [hcb, reduceCtorEq, forall_const, ne_eq] at hc); first | (exfalso; omega) | (exfalso; exact hc trivial) | refine Ev_in ?_))
    | (with_reducible apply W_cond_k; intro _ _ ea eb; (simp only [condK, cob, opnd, constPV, Nat.reduceEqDiff, Nat.reduceLT, ↓reduceIte, hcb, reduceCtorEq, forall_const, ne_eq]); subst ea eb; first | (refine ⟨fun hc => ?_, fun hc => ?_⟩ <;> first | (exfalso; omega) | (exfalso; exact hc trivial) | skip) | skip)
    | (with_reducible apply hnx; clear hnx nx)
    | (with_reducible refine And.intro (by omega) ?_)
    | (with_reducible refine And.intro ?_ ?_)
    | (clear hnx nx; with_reducible apply hnx; clear hnx nx)
    | (clear hnx nx; clear hnx nx; with_reducible apply hnx; clear hnx nx))
    all_goals first
      | (exfalso
         omega)
      | (refine hfin _ _ (Fin_ret1 rfl (Sub_nil _) ?_); simp only [List.getD_cons_zero, List.getD_cons_succ, fr_getD_cons, fr_getD_nil, Nat.reduceEqDiff, Nat.reduceLT, ↓reduceIte]; first | trivial | exact ⟨rfl, by trivial⟩ | (simp; done) | (simp; omega))
/-- The texts of letters. -/
def poolL : List (List UInt8) := [[97], [98], [99], [101], [105], [110], [115], [116], [99, 104], [195, 169], [65], [115, 99, 104], [104], [108], [195, 182], [117]]
theorem pool_c (G : Globs) (n : Nat) (hn : n < 16) : PCalls Tryd.prog G 37 [pn n] [] (fun res H => res = pstr (poolL.getD n []) ∧ H = []) := by
  have hget : ([PV.val (.string ⟨#[97]⟩), PV.val (.string ⟨#[98]⟩), PV.val (.string ⟨#[99]⟩), PV.val (.string ⟨#[101]⟩), PV.val (.string ⟨#[105]⟩), PV.val (.string ⟨#[110]⟩), PV.val (.string ⟨#[115]⟩), PV.val (.string ⟨#[116]⟩), PV.val (.string ⟨#[99, 104]⟩), PV.val (.string ⟨#[195, 169]⟩), PV.val (.string ⟨#[65]⟩), PV.val (.string ⟨#[115, 99, 104]⟩), PV.val (.string ⟨#[104]⟩), PV.val (.string ⟨#[108]⟩), PV.val (.string ⟨#[195, 182]⟩), PV.val (.string ⟨#[117]⟩)] : List PV).getD n PV.junk = pstr (poolL.getD n []) := by
    show (poolL.map pstr).getD n PV.junk = pstr (poolL.getD n [])
    have hl : n < poolL.length := hn
    rw [List.getD_eq_getElem?_getD, List.getD_eq_getElem?_getD, List.getElem?_map, List.getElem?_eq_getElem hl]
    rfl
  generalize poolL.getD n [] = q at *
  (refine PCalls_f Tryd.func37 rfl Tryd.ntmps37 Tryd.results37 (by simp) fun fin hfin => ?_; have hnm : True := trivial; simp (maxSteps := 2000000) (disch := omega) only [evb, evd, eve, constPV, seqK, blockK, scopeK, pbound, pelems, PV.mem?, PV.one, PV.cells, peqs, peq1, pkeys, pkeyt, List.set, Value.cells, ↓popG_eq, ↓pop.eq_1, ↓List.getElem?_map, ↓List.getElem?_cons_zero, ↓List.getElem?_cons_succ, Value.oneCell', Nat.reduceAdd, Nat.reduceMul, Nat.reduceSub, Nat.reduceLeDiff, Nat.reduceEqDiff, ↓reduceIte, ne_eq, reduceCtorEq, forall_const, exists_and_left, exists_eq_left', eq_self, Nat.reduceLT, Int.reduceLT, Int.reduceLE, Int.reduceToNat, Int.reduceAdd, Int.reduceSub, Int.reduceNeg, hnm, Tryd.tf0, Tryd.tf3, Tryd.tf9, Tryd.tf16, Tryd.tf35, Tryd.tf137])
  repeat' (first
    | (with_reducible apply W_seq_k; intro nx hnx)
    | (with_reducible first | apply W_block | apply W_scope)
    | (with_reducible refine W_prune 5 ?_; simp only [prb, Nat.reducePow, Nat.reduceDiv, Nat.reduceMod, Nat.reduceBEq]; with_reducible apply W_region_l)
    | (with_reducible refine WL_born (by simp) rfl (by simp) ?_; simp only [elemsOf, nl, List.map_cons, List.map_nil, Nat.reduceEqDiff, ↓reduceIte, List.take_succ_cons, List.take_zero, List.range_succ, List.range_zero, List.nil_append, List.cons_append, List.map_append, List.drop_succ_cons, List.drop_zero, Nat.reduceMul, Nat.zero_mul, Nat.one_mul, Nat.reduceAdd])
    | ((first | (with_reducible apply WL_op; intro nx hnx) | with_reducible refine Ev_out ?_ | (with_reducible refine pfresh_k hnm fun nm hnm => ?_; (try simp only [fmb] at hnm)) | (with_reducible refine pborn_im ?_; simp only [elemsOf, nl, List.map_cons, List.map_nil, Nat.reduceEqDiff, ↓reduceIte, List.take_succ_cons, List.take_zero, List.range_succ, List.range_zero, List.nil_append, List.cons_append, List.map_append, List.drop_succ_cons, List.drop_zero, Nat.reduceMul, Nat.zero_mul, Nat.one_mul, Nat.reduceAdd])); try (simp (maxSteps := 2000000) (disch := omega) only [evb, evd, eve, constPV, seqK, blockK, scopeK, pbound, pelems, PV.mem?, PV.one, PV.cells, peqs, peq1, pkeys, pkeyt, List.set, Value.cells, ↓popG_eq, ↓pop.eq_1, ↓List.getElem?_map, ↓List.getElem?_cons_zero, ↓List.getElem?_cons_succ, Value.oneCell', Nat.reduceAdd, Nat.reduceMul, Nat.reduceSub, Nat.reduceLeDiff, Nat.reduceEqDiff, ↓reduceIte, ne_eq, reduceCtorEq, forall_const, exists_and_left, exists_eq_left', eq_self, Nat.reduceLT, Int.reduceLT, Int.reduceLE, Int.reduceToNat, Int.reduceAdd, Int.reduceSub, Int.reduceNeg, hnm, Tryd.tf0, Tryd.tf3, Tryd.tf9, Tryd.tf16, Tryd.tf35, Tryd.tf137, hget]); repeat (refine And.intro (by omega) ?_))
    | ((with_reducible first | apply WL_nil | apply W_label | apply W_skip | apply W_exit | apply W_ret); try simp only [seqK, blockK, scopeK, ↓reduceIte, Nat.reduceEqDiff])
    | (with_reducible apply W_cond_k; intro _ _ ea eb; (simp only [condK, cob, opnd, constPV, Nat.reduceEqDiff, Nat.reduceLT, ↓reduceIte, hcb, reduceCtorEq, forall_const, ne_eq]); subst ea eb; first | (refine ⟨fun hc => ?_, fun hc => ?_⟩ <;> first | (exfalso; omega) | (exfalso; exact hc trivial) | skip) | skip)
    | (with_reducible apply hnx; clear hnx nx)
    | (with_reducible refine And.intro (by omega) ?_)
    | (with_reducible refine And.intro ?_ ?_)
    | (clear hnx nx; with_reducible apply hnx; clear hnx nx)
    | (clear hnx nx; clear hnx nx; with_reducible apply hnx; clear hnx nx))
  all_goals first | exact absurd trivial hc | contradiction | exact fun h => False.elim h | (exfalso; omega) | (exfalso; have hc := of_decide_eq_false hc; omega) | (exfalso; simp only [Bool.not_false, Bool.not_true, decide_eq_true_eq, decide_eq_false_iff_not] at *; omega) | skip
  all_goals (refine hfin _ _ (Fin_ret1 rfl (Sub_nil _) ?_); simp only [List.getD_cons_zero, List.getD_cons_succ, fr_getD_cons, fr_getD_nil, Nat.reduceEqDiff, Nat.reduceLT, ↓reduceIte]; first | trivial | exact ⟨rfl, by trivial⟩ | (simp; done) | (simp; omega))
theorem pool_len (n : Nat) : (poolL.getD n []).length ≤ 3 := by
  have h : ∀ x ∈ poolL, x.length ≤ 3 := by decide
  by_cases hl : n < poolL.length
  · rw [List.getD_eq_getElem?_getD, List.getElem?_eq_getElem hl]
    exact h _ (List.getElem_mem hl)
  · rw [List.getD_eq_getElem?_getD, List.getElem?_eq_none (by omega)]
    simp
theorem short_c (G : Globs) (s : List UInt8) (m : Nat) (hm : (m : Int) ≤ 9223372036854775807) : PCalls Tryd.prog G 15 [pstr s, pn m] [] (fun res H => res = pstr (s.take m) ∧ H = []) := by
  (refine PCalls_f Tryd.func15 rfl Tryd.ntmps15 Tryd.results15 (by simp) fun fin hfin => ?_; have hnm : True := trivial; simp (maxSteps := 2000000) (disch := omega) only [evb, evd, eve, constPV, seqK, blockK, scopeK, pbound, pelems, PV.mem?, PV.one, PV.cells, peqs, peq1, pkeys, pkeyt, List.set, Value.cells, ↓popG_eq, ↓pop.eq_1, ↓List.getElem?_map, ↓List.getElem?_cons_zero, ↓List.getElem?_cons_succ, Value.oneCell', Nat.reduceAdd, Nat.reduceMul, Nat.reduceSub, Nat.reduceLeDiff, Nat.reduceEqDiff, ↓reduceIte, ne_eq, reduceCtorEq, forall_const, exists_and_left, exists_eq_left', eq_self, Nat.reduceLT, Int.reduceLT, Int.reduceLE, Int.reduceToNat, Int.reduceAdd, Int.reduceSub, Int.reduceNeg, hnm, Tryd.tf3, Tryd.tf4, Tryd.tf9])
  repeat' (first
    | (with_reducible apply W_seq_k; intro nx hnx)
    | (with_reducible first | apply W_block | apply W_scope)
    | (with_reducible refine W_prune 19 ?_; simp only [prb, Nat.reducePow, Nat.reduceDiv, Nat.reduceMod, Nat.reduceBEq]; with_reducible apply W_region_l)
    | ((first | (with_reducible apply WL_op; intro nx hnx) | with_reducible refine Ev_out ?_); try (simp (maxSteps := 2000000) (disch := omega) only [evb, evd, eve, constPV, seqK, blockK, scopeK, pbound, pelems, PV.mem?, PV.one, PV.cells, peqs, peq1, pkeys, pkeyt, List.set, Value.cells, ↓popG_eq, ↓pop.eq_1, ↓List.getElem?_map, ↓List.getElem?_cons_zero, ↓List.getElem?_cons_succ, Value.oneCell', Nat.reduceAdd, Nat.reduceMul, Nat.reduceSub, Nat.reduceLeDiff, Nat.reduceEqDiff, ↓reduceIte, ne_eq, reduceCtorEq, forall_const, exists_and_left, exists_eq_left', eq_self, Nat.reduceLT, Int.reduceLT, Int.reduceLE, Int.reduceToNat, Int.reduceAdd, Int.reduceSub, Int.reduceNeg, hnm, Tryd.tf3, Tryd.tf4, Tryd.tf9]); repeat (refine And.intro (by omega) ?_))
    | ((with_reducible first | apply WL_nil | apply W_label | apply W_skip | apply W_exit | apply W_ret); try simp only [seqK, blockK, scopeK, ↓reduceIte, Nat.reduceEqDiff])
    | (with_reducible apply W_cond_k; intro _ _ ea eb; (simp only [condK, cob, opnd, constPV, Nat.reduceEqDiff, Nat.reduceLT, ↓reduceIte, hcb, reduceCtorEq, forall_const, ne_eq]); subst ea eb; first | (refine ⟨fun hc => ?_, fun hc => ?_⟩ <;> first | (exfalso; omega) | (exfalso; exact hc trivial) | skip) | skip)
    | (with_reducible apply hnx; clear hnx nx)
    | (with_reducible refine And.intro (by omega) ?_)
    | (with_reducible refine And.intro ?_ ?_)
    | (clear hnx nx; with_reducible apply hnx; clear hnx nx)
    | (clear hnx nx; clear hnx nx; with_reducible apply hnx; clear hnx nx))
  all_goals first | exact absurd trivial hc | contradiction | exact fun h => False.elim h | (exfalso; omega) | (exfalso; have hc := of_decide_eq_false hc; omega) | (exfalso; simp only [Bool.not_false, Bool.not_true, decide_eq_true_eq, decide_eq_false_iff_not] at *; omega) | skip
  · (refine hfin _ _ (Fin_ret1 rfl (Sub_nil _) ?_); simp only [List.getD_cons_zero, List.getD_cons_succ, fr_getD_cons, fr_getD_nil, Nat.reduceEqDiff, Nat.reduceLT, ↓reduceIte]; first | trivial | exact ⟨rfl, by trivial⟩ | (simp; done) | (simp; omega))
  · refine hfin _ _ (Fin_ret1 rfl (Sub_nil _) ?_); simp only [List.getD_cons_zero, List.getD_cons_succ, fr_getD_cons, fr_getD_nil, Nat.reduceEqDiff, Nat.reduceLT, ↓reduceIte]
    exact ⟨by rw [List.take_of_length_le (by omega)], by trivial⟩
end Go.PM

namespace Go.PM
open Go.Proofs
attribute [local irreducible] W PCalls pcall pcallI WL
set_option maxRecDepth 100000
set_option maxHeartbeats 8000000
/-- The letter with the number i of the alphabet that l makes, behind the letters a. -/
def mkL (l : List Int) (i : Nat) (a : List Ltr) : Ltr :=
  if 0 < i ∧ atF l (10 + i) 3 = 1 then ⟨poolL.getD (((atF l 1 16).toNat + i) % 16) [], (a.getD (atF l (20 + i) i).toNat default).base, atF l (30 + i) 4, atF l (40 + i) 2, 1 + atF l (2 + i) 9⟩
  else ⟨poolL.getD (((atF l 1 16).toNat + i) % 16) [], i, 0, 0, 1 + atF l (2 + i) 9⟩
def mkA (l : List Int) : Nat → List Ltr
  | 0 => []
  | i + 1 => mkA l i ++ [mkL l i (mkA l i)]
def lettersF (l : List Int) : List Ltr := mkA l (3 + (atF l 0 6).toNat)
theorem mkA_len (l : List Int) : ∀ n, (mkA l n).length = n
  | 0 => rfl
  | n + 1 => by rw [mkA, List.length_append, mkA_len l n]; rfl
theorem letters_r (G : Globs) (l : List Int) (hl : okI l) : PCalls Tryd.prog G 10 [wP l] [] (fun res H => ∃ n : Int, res = .row n 5 (lettersF l).length ∧ H = [(n, ⟨60, true, 5, flatL (lettersF l)⟩)]) := by
  have b0 := atF_bound l 0 (most := 6) (by omega)
  have b1 := atF_bound l 1 (most := 16) (by omega)
  have c0 := at_c G l hl 0 6 (by omega) (by omega)
  have c1 := at_c G l hl 1 16 (by omega) (by omega)
  have c0 : PCalls Tryd.prog G 36 [wP l, .val (.int .i64 0), .val (.int .i64 6)] [] _ := c0
  have c1 : PCalls Tryd.prog G 36 [wP l, .val (.int .i64 1), .val (.int .i64 16)] [] _ := c1
  obtain ⟨n0, hn0⟩ : ∃ n : Nat, n = (atF l 0 6).toNat := ⟨_, rfl⟩
  obtain ⟨s0, hs0⟩ : ∃ n : Nat, n = (atF l 1 16).toNat := ⟨_, rfl⟩
  have e0 : atF l 0 6 = (n0 : Int) := by omega
  have e1 : atF l 1 16 = (s0 : Int) := by omega
  rw [e0] at c0
  rw [e1] at c1
  unfold lettersF
  rw [mkA_len, ← hn0]
  have hdef : ∀ i a, mkL l i a = if 0 < i ∧ atF l (10 + i) 3 = 1 then ⟨poolL.getD ((s0 + i) % 16) [], (a.getD (atF l (20 + i) i).toNat default).base, atF l (30 + i) 4, atF l (40 + i) 2, 1 + atF l (2 + i) 9⟩
      else ⟨poolL.getD ((s0 + i) % 16) [], i, 0, 0, 1 + atF l (2 + i) 9⟩ := fun i a => by rw [mkL, ← hs0]
  (refine PCalls_f Tryd.func10 rfl Tryd.ntmps10 Tryd.results10 (by simp) fun fin hfin => ?_; have hnm : True := trivial; simp (maxSteps := 2000000) (disch := omega) only [evb, evd, eve, constPV, seqK, blockK, scopeK, pbound, pelems, PV.mem?, PV.one, PV.cells, peqs, peq1, pkeys, pkeyt, List.set, Value.cells, ↓popG_eq, ↓pop.eq_1, ↓List.getElem?_map, ↓List.getElem?_cons_zero, ↓List.getElem?_cons_succ, Value.oneCell', Nat.reduceAdd, Nat.reduceMul, Nat.reduceSub, Nat.reduceLeDiff, Nat.reduceEqDiff, ↓reduceIte, ne_eq, reduceCtorEq, forall_const, exists_and_left, exists_eq_left', eq_self, Nat.reduceLT, Int.reduceLT, Int.reduceLE, Int.reduceToNat, Int.reduceAdd, Int.reduceSub, Int.reduceNeg, hnm, Tryd.tf0, Tryd.tf1, Tryd.tf2, Tryd.tf3, Tryd.tf4, Tryd.tf9, Tryd.tf22, Tryd.tf23, Tryd.tf60, Tryd.call36, Tryd.call37])
  repeat' (first
    | (with_reducible apply W_seq_k; intro nx hnx)
    | (with_reducible first | apply W_block | apply W_scope)
    | (with_reducible refine W_prune 253 ?_; simp only [prb, Nat.reducePow, Nat.reduceDiv, Nat.reduceMod, Nat.reduceBEq]; with_reducible apply W_region_l)
    | ((first | (with_reducible apply WL_op; intro nx hnx) | with_reducible refine Ev_out ?_ | (with_reducible refine pfresh_k hnm fun nm hnm => ?_; (try simp only [fmb] at hnm)) | (with_reducible refine pborn_mu hnm fun nm hnm => ?_; (try simp only [fmb] at hnm)) | (with_reducible refine pmaybe_k ?_; intro bn hbn)); try (simp (maxSteps := 2000000) (disch := omega) only [evb, evd, eve, constPV, seqK, blockK, scopeK, pbound, pelems, PV.mem?, PV.one, PV.cells, peqs, peq1, pkeys, pkeyt, List.set, Value.cells, ↓popG_eq, ↓pop.eq_1, ↓List.getElem?_map, ↓List.getElem?_cons_zero, ↓List.getElem?_cons_succ, Value.oneCell', Nat.reduceAdd, Nat.reduceMul, Nat.reduceSub, Nat.reduceLeDiff, Nat.reduceEqDiff, ↓reduceIte, ne_eq, reduceCtorEq, forall_const, exists_and_left, exists_eq_left', eq_self, Nat.reduceLT, Int.reduceLT, Int.reduceLE, Int.reduceToNat, Int.reduceAdd, Int.reduceSub, Int.reduceNeg, hnm, Tryd.tf0, Tryd.tf1, Tryd.tf2, Tryd.tf3, Tryd.tf4, Tryd.tf9, Tryd.tf22, Tryd.tf23, Tryd.tf60, Tryd.call36, Tryd.call37]); repeat (refine And.intro (by omega) ?_))
    | ((with_reducible first | apply WL_nil | apply W_label | apply W_skip | apply W_exit | apply W_ret); try simp only [seqK, blockK, scopeK, ↓reduceIte, Nat.reduceEqDiff])
    | (with_reducible apply pguard_intro <;> (intro hc; (try simp only [hcb, reduceCtorEq, forall_const, ne_eq] at hc); first | (exfalso; omega) | (exfalso; exact hc trivial) | refine Ev_in ?_))
    | (with_reducible apply W_cond_k; intro _ _ ea eb; (simp only [condK, cob, opnd, constPV, Nat.reduceEqDiff, Nat.reduceLT, ↓reduceIte, hcb, reduceCtorEq, forall_const, ne_eq]); subst ea eb; first | (refine ⟨fun hc => ?_, fun hc => ?_⟩ <;> first | (exfalso; omega) | (exfalso; exact hc trivial) | skip) | skip)
    | (with_reducible apply hnx; clear hnx nx)
    | (with_reducible refine And.intro (by omega) ?_)
    | (with_reducible refine And.intro ?_ ?_)
    | (with_reducible refine pcall_k (c0) ?_; rintro _ _ ⟨rfl, rfl⟩ -; refine Ev_in ?_)
    | (with_reducible refine pcall_k (c1) ?_; rintro _ _ ⟨rfl, rfl⟩ -; refine Ev_in ?_)
    | (clear hnx nx; with_reducible apply hnx; clear hnx nx)
    | (clear hnx nx; clear hnx nx; with_reducible apply hnx; clear hnx nx))
  all_goals first | exact absurd trivial hc | contradiction | exact fun h => False.elim h | (exfalso; omega) | (exfalso; have hc := of_decide_eq_false hc; omega) | (exfalso; simp only [Bool.not_false, Bool.not_true, decide_eq_true_eq, decide_eq_false_iff_not] at *; omega) | skip
  refine W_adopt_f 5 60 5 (by simp only [fr_getD_cons, Nat.reduceEqDiff, Nat.reduceLT, ↓reduceIte]) fun A0 hA => ?_
  refine W_loop_k (fun z τ => ∃ (i : Nat) (A : Int), i ≤ 3 + n0 ∧ z = 3 + n0 - i ∧ τ = ⟨fr 64 [(6, pn i), (5, .row A 5 i), (4, pn s0), (3, pn (3 + n0)), (0, wP l)], [(A, ⟨60, true, 5, flatL (mkA l i)⟩)]⟩) (3 + n0)
    ⟨fr 64 [(6, pn 0), (5, .row A0 5 0), (4, pn s0), (3, pn (3 + n0)), (0, wP l)], [(A0, ⟨60, true, 5, flatL (mkA l 0)⟩)]⟩ (by
    refine Wk_fr (by simp only [wkb, Nat.reduceEqDiff, Nat.reduceLT, ↓reduceIte, pn, Int.natCast_add]) ?_
    all_goals exact Sub_refl (by simp [names])) ⟨0, A0, by omega, by omega, rfl⟩ ?_
  clear hA hnm
  have hnm : True := trivial
  rintro z τ ⟨i, A, hi, rfl, rfl⟩ lp hlp
  have hfl : (flatL (mkA l i)).length = i * 5 := by rw [flatL_len, mkA_len]
  by_cases hil : i < 3 + n0
  · have cp := pool_c G ((s0 + i) % 16) (by omega)
    have hpl := pool_len ((s0 + i) % 16)
    have m16 : ((s0 : Int) + i).tmod 16 = (((s0 + i) % 16 : Nat) : Int) := by
      rw [Int.tmod_eq_emod_of_nonneg (by omega)]
      omega
    have hsn := flatL_snoc (mkA l i) (mkL l i (mkA l i))
    have d1 := at_c G l hl (2 + i) 9 (by omega) (by omega)
    have d2 := at_c G l hl (10 + i) 3 (by omega) (by omega)
    have d3 := fun h : 0 < i => at_c G l hl (20 + i) i (by omega) (by omega)
    have d4 := at_c G l hl (30 + i) 4 (by omega) (by omega)
    have d5 := at_c G l hl (40 + i) 2 (by omega) (by omega)
    have q1 := atF_bound l (2 + i) (most := 9) (by omega)
    have q2 := atF_bound l (10 + i) (most := 3) (by omega)
    have q3 := fun h : 0 < i => atF_bound l (20 + i) (most := i) (by omega)
    have q4 := atF_bound l (30 + i) (most := 4) (by omega)
    have q5 := atF_bound l (40 + i) (most := 2) (by omega)
    simp only [pn, Int.natCast_add, Int.cast_ofNat_Int] at d1 d2 d3 d4 d5
    have hmk : flatL (mkA l (i + 1)) = flatL (mkA l i ++ [mkL l i (mkA l i)]) := rfl
    have hdf := hdef i (mkA l i)
    by_cases h0 : 0 < i
    · have d3 := d3 h0
      have q3 := q3 h0
      have hj : (atF l (20 + i) i).toNat < (mkA l i).length := by rw [mkA_len]; omega
      have hgb : (flatL (mkA l i))[(atF l (20 + i) i).toNat * 5 + 1]? = some (pint .i64 ((mkA l i).getD (atF l (20 + i) i).toNat default).base) := by
        rw [flatL_get hj 1 (by omega), List.getD_eq_getElem?_getD, List.getElem?_eq_getElem hj]
        rfl
      by_cases h1 : atF l (10 + i) 3 = 1
      · rw [if_pos ⟨h0, h1⟩] at hdf
        rw [h1] at d2
        generalize atF l (2 + i) 9 = x1 at *
        generalize atF l (20 + i) i = x3 at *
        generalize atF l (30 + i) 4 = x4 at *
        generalize atF l (40 + i) 2 = x5 at *
        generalize poolL.getD ((s0 + i) % 16) [] = pt at *
        repeat' (first
    | (with_reducible apply W_seq_k; intro nx hnx)
    | (with_reducible first | apply W_block | apply W_scope)
    | (with_reducible refine W_prune 253 ?_; simp only [prb, Nat.reducePow, Nat.reduceDiv, Nat.reduceMod, Nat.reduceBEq]; with_reducible apply W_region_l)
    | ((first | (with_reducible apply WL_op; intro nx hnx) | with_reducible refine Ev_out ?_ | (with_reducible refine pfresh_k hnm fun nm hnm => ?_; (try simp only [fmb] at hnm)) | (with_reducible refine pborn_mu hnm fun nm hnm => ?_; (try simp only [fmb] at hnm)) | (with_reducible refine pmaybe_k ?_; intro bn hbn)); try (simp (maxSteps := 2000000) (disch := omega) only [evb, evd, eve, constPV, seqK, blockK, scopeK, pbound, pelems, PV.mem?, PV.one, PV.cells, peqs, peq1, pkeys, pkeyt, List.set, Value.cells, ↓popG_eq, ↓pop.eq_1, ↓List.getElem?_map, ↓List.getElem?_cons_zero, ↓List.getElem?_cons_succ, Value.oneCell', Nat.reduceAdd, Nat.reduceMul, Nat.reduceSub, Nat.reduceLeDiff, Nat.reduceEqDiff, ↓reduceIte, ne_eq, reduceCtorEq, forall_const, exists_and_left, exists_eq_left', eq_self, Nat.reduceLT, Int.reduceLT, Int.reduceLE, Int.reduceToNat, Int.reduceAdd, Int.reduceSub, Int.reduceNeg, hnm, Tryd.tf0, Tryd.tf1, Tryd.tf2, Tryd.tf3, Tryd.tf4, Tryd.tf9, Tryd.tf22, Tryd.tf23, Tryd.tf60, Tryd.call36, Tryd.call37, hfl, m16, hgb]); repeat (refine And.intro (by omega) ?_))
    | ((with_reducible first | apply WL_nil | apply W_label | apply W_skip | apply W_exit | apply W_ret); try simp only [seqK, blockK, scopeK, ↓reduceIte, Nat.reduceEqDiff])
    | (with_reducible apply pguard_intro <;> (intro hc; (try simp only [hcb, reduceCtorEq, forall_const, ne_eq] at hc); first | (exfalso; omega) | (exfalso; exact hc trivial) | refine Ev_in ?_))
    | (with_reducible apply W_cond_k; intro _ _ ea eb; (simp only [condK, cob, opnd, constPV, Nat.reduceEqDiff, Nat.reduceLT, ↓reduceIte, hcb, reduceCtorEq, forall_const, ne_eq]); subst ea eb; first | (refine ⟨fun hc => ?_, fun hc => ?_⟩ <;> first | (exfalso; omega) | (exfalso; exact hc trivial) | skip) | skip)
    | (with_reducible apply hnx; clear hnx nx)
    | (with_reducible refine And.intro (by omega) ?_)
    | (with_reducible refine And.intro ?_ ?_)
    | (with_reducible refine pcall_k (cp) ?_; rintro _ _ ⟨rfl, rfl⟩ -; refine Ev_in ?_)
    | (with_reducible refine pcall_k (d1) ?_; rintro _ _ ⟨rfl, rfl⟩ -; refine Ev_in ?_)
    | (with_reducible refine pcall_k (d2) ?_; rintro _ _ ⟨rfl, rfl⟩ -; refine Ev_in ?_)
    | (with_reducible refine pcall_k (d3) ?_; rintro _ _ ⟨rfl, rfl⟩ -; refine Ev_in ?_)
    | (with_reducible refine pcall_k (d4) ?_; rintro _ _ ⟨rfl, rfl⟩ -; refine Ev_in ?_)
    | (with_reducible refine pcall_k (d5) ?_; rintro _ _ ⟨rfl, rfl⟩ -; refine Ev_in ?_)
    | (clear hnx nx; with_reducible apply hnx; clear hnx nx)
    | (clear hnx nx; clear hnx nx; with_reducible apply hnx; clear hnx nx))
        all_goals first | exact absurd trivial hc | contradiction | exact fun h => False.elim h | (exfalso; omega) | (exfalso; have hc := of_decide_eq_false hc; omega) | (exfalso; simp only [Bool.not_false, Bool.not_true, decide_eq_true_eq, decide_eq_false_iff_not] at *; omega) | skip
        rename_i N2 g2 N1 g1
        refine hlp _ (3 + n0 - (i + 1)) ⟨fr 64 [(6, pn (i + 1)), (5, .row nm 5 (i + 1)), (4, pn s0), (3, pn (3 + n0)), (0, wP l)], [(nm, ⟨60, true, 5, flatL (mkA l (i + 1))⟩)]⟩ (by omega) ?_ ⟨i + 1, nm, by omega, rfl, rfl⟩
        rw [hmk, hsn, hdf]
        refine Wk_fr (by simp only [wkb, Nat.reduceEqDiff, Nat.reduceLT, ↓reduceIte, pn]) ?_
        refine ⟨fun x hx => ?_, by simp [names, hnm]⟩
        simp only [List.mem_cons, List.not_mem_nil, or_false] at hx ⊢
        exact .inl hx
      · rw [if_neg fun h => h1 h.2] at hdf
        generalize atF l (2 + i) 9 = x1 at *
        generalize atF l (10 + i) 3 = x2 at *
        generalize poolL.getD ((s0 + i) % 16) [] = pt at *
        repeat' (first
    | (with_reducible apply W_seq_k; intro nx hnx)
    | (with_reducible first | apply W_block | apply W_scope)
    | (with_reducible refine W_prune 253 ?_; simp only [prb, Nat.reducePow, Nat.reduceDiv, Nat.reduceMod, Nat.reduceBEq]; with_reducible apply W_region_l)
    | ((first | (with_reducible apply WL_op; intro nx hnx) | with_reducible refine Ev_out ?_ | (with_reducible refine pfresh_k hnm fun nm hnm => ?_; (try simp only [fmb] at hnm)) | (with_reducible refine pborn_mu hnm fun nm hnm => ?_; (try simp only [fmb] at hnm)) | (with_reducible refine pmaybe_k ?_; intro bn hbn)); try (simp (maxSteps := 2000000) (disch := omega) only [evb, evd, eve, constPV, seqK, blockK, scopeK, pbound, pelems, PV.mem?, PV.one, PV.cells, peqs, peq1, pkeys, pkeyt, List.set, Value.cells, ↓popG_eq, ↓pop.eq_1, ↓List.getElem?_map, ↓List.getElem?_cons_zero, ↓List.getElem?_cons_succ, Value.oneCell', Nat.reduceAdd, Nat.reduceMul, Nat.reduceSub, Nat.reduceLeDiff, Nat.reduceEqDiff, ↓reduceIte, ne_eq, reduceCtorEq, forall_const, exists_and_left, exists_eq_left', eq_self, Nat.reduceLT, Int.reduceLT, Int.reduceLE, Int.reduceToNat, Int.reduceAdd, Int.reduceSub, Int.reduceNeg, hnm, Tryd.tf0, Tryd.tf1, Tryd.tf2, Tryd.tf3, Tryd.tf4, Tryd.tf9, Tryd.tf22, Tryd.tf23, Tryd.tf60, Tryd.call36, Tryd.call37, hfl, m16]); repeat (refine And.intro (by omega) ?_))
    | ((with_reducible first | apply WL_nil | apply W_label | apply W_skip | apply W_exit | apply W_ret); try simp only [seqK, blockK, scopeK, ↓reduceIte, Nat.reduceEqDiff])
    | (with_reducible apply pguard_intro <;> (intro hc; (try simp only [hcb, reduceCtorEq, forall_const, ne_eq] at hc); first | (exfalso; omega) | (exfalso; exact hc trivial) | refine Ev_in ?_))
    | (with_reducible apply W_cond_k; intro _ _ ea eb; (simp only [condK, cob, opnd, constPV, Nat.reduceEqDiff, Nat.reduceLT, ↓reduceIte, hcb, reduceCtorEq, forall_const, ne_eq]); subst ea eb; first | (refine ⟨fun hc => ?_, fun hc => ?_⟩ <;> first | (exfalso; omega) | (exfalso; exact hc trivial) | skip) | skip)
    | (with_reducible apply hnx; clear hnx nx)
    | (with_reducible refine And.intro (by omega) ?_)
    | (with_reducible refine And.intro ?_ ?_)
    | (with_reducible refine pcall_k (cp) ?_; rintro _ _ ⟨rfl, rfl⟩ -; refine Ev_in ?_)
    | (with_reducible refine pcall_k (d1) ?_; rintro _ _ ⟨rfl, rfl⟩ -; refine Ev_in ?_)
    | (with_reducible refine pcall_k (d2) ?_; rintro _ _ ⟨rfl, rfl⟩ -; refine Ev_in ?_)
    | (clear hnx nx; with_reducible apply hnx; clear hnx nx)
    | (clear hnx nx; clear hnx nx; with_reducible apply hnx; clear hnx nx))
        all_goals first | exact absurd trivial hc | contradiction | exact fun h => False.elim h | (exfalso; omega) | (exfalso; have hc := of_decide_eq_false hc; omega) | (exfalso; simp only [Bool.not_false, Bool.not_true, decide_eq_true_eq, decide_eq_false_iff_not] at *; omega) | skip
        rename_i N2 g2 N1 g1
        refine hlp _ (3 + n0 - (i + 1)) ⟨fr 64 [(6, pn (i + 1)), (5, .row nm 5 (i + 1)), (4, pn s0), (3, pn (3 + n0)), (0, wP l)], [(nm, ⟨60, true, 5, flatL (mkA l (i + 1))⟩)]⟩ (by omega) ?_ ⟨i + 1, nm, by omega, rfl, rfl⟩
        rw [hmk, hsn, hdf]
        refine Wk_fr (by simp only [wkb, Nat.reduceEqDiff, Nat.reduceLT, ↓reduceIte, pn]) ?_
        refine ⟨fun x hx => ?_, by simp [names, hnm]⟩
        simp only [List.mem_cons, List.not_mem_nil, or_false] at hx ⊢
        exact .inl hx
    · rw [if_neg fun h => h0 h.1] at hdf
      generalize atF l (2 + i) 9 = x1 at *
      generalize poolL.getD ((s0 + i) % 16) [] = pt at *
      repeat' (first
    | (with_reducible apply W_seq_k; intro nx hnx)
    | (with_reducible first | apply W_block | apply W_scope)
    | (with_reducible refine W_prune 253 ?_; simp only [prb, Nat.reducePow, Nat.reduceDiv, Nat.reduceMod, Nat.reduceBEq]; with_reducible apply W_region_l)
    | ((first | (with_reducible apply WL_op; intro nx hnx) | with_reducible refine Ev_out ?_ | (with_reducible refine pfresh_k hnm fun nm hnm => ?_; (try simp only [fmb] at hnm)) | (with_reducible refine pborn_mu hnm fun nm hnm => ?_; (try simp only [fmb] at hnm)) | (with_reducible refine pmaybe_k ?_; intro bn hbn)); try (simp (maxSteps := 2000000) (disch := omega) only [evb, evd, eve, constPV, seqK, blockK, scopeK, pbound, pelems, PV.mem?, PV.one, PV.cells, peqs, peq1, pkeys, pkeyt, List.set, Value.cells, ↓popG_eq, ↓pop.eq_1, ↓List.getElem?_map, ↓List.getElem?_cons_zero, ↓List.getElem?_cons_succ, Value.oneCell', Nat.reduceAdd, Nat.reduceMul, Nat.reduceSub, Nat.reduceLeDiff, Nat.reduceEqDiff, ↓reduceIte, ne_eq, reduceCtorEq, forall_const, exists_and_left, exists_eq_left', eq_self, Nat.reduceLT, Int.reduceLT, Int.reduceLE, Int.reduceToNat, Int.reduceAdd, Int.reduceSub, Int.reduceNeg, hnm, Tryd.tf0, Tryd.tf1, Tryd.tf2, Tryd.tf3, Tryd.tf4, Tryd.tf9, Tryd.tf22, Tryd.tf23, Tryd.tf60, Tryd.call36, Tryd.call37, hfl, m16]); repeat (refine And.intro (by omega) ?_))
    | ((with_reducible first | apply WL_nil | apply W_label | apply W_skip | apply W_exit | apply W_ret); try simp only [seqK, blockK, scopeK, ↓reduceIte, Nat.reduceEqDiff])
    | (with_reducible apply pguard_intro <;> (intro hc; (try simp only [hcb, reduceCtorEq, forall_const, ne_eq] at hc); first | (exfalso; omega) | (exfalso; exact hc trivial) | refine Ev_in ?_))
    | (with_reducible apply W_cond_k; intro _ _ ea eb; (simp only [condK, cob, opnd, constPV, Nat.reduceEqDiff, Nat.reduceLT, ↓reduceIte, hcb, reduceCtorEq, forall_const, ne_eq]); subst ea eb; first | (refine ⟨fun hc => ?_, fun hc => ?_⟩ <;> first | (exfalso; omega) | (exfalso; exact hc trivial) | skip) | skip)
    | (with_reducible apply hnx; clear hnx nx)
    | (with_reducible refine And.intro (by omega) ?_)
    | (with_reducible refine And.intro ?_ ?_)
    | (with_reducible refine pcall_k (cp) ?_; rintro _ _ ⟨rfl, rfl⟩ -; refine Ev_in ?_)
    | (with_reducible refine pcall_k (d1) ?_; rintro _ _ ⟨rfl, rfl⟩ -; refine Ev_in ?_)
    | (clear hnx nx; with_reducible apply hnx; clear hnx nx)
    | (clear hnx nx; clear hnx nx; with_reducible apply hnx; clear hnx nx))
      all_goals first | exact absurd trivial hc | contradiction | exact fun h => False.elim h | (exfalso; omega) | (exfalso; have hc := of_decide_eq_false hc; omega) | (exfalso; simp only [Bool.not_false, Bool.not_true, decide_eq_true_eq, decide_eq_false_iff_not] at *; omega) | skip
      rename_i N2 g2 N1 g1
      refine hlp _ (3 + n0 - (i + 1)) ⟨fr 64 [(6, pn (i + 1)), (5, .row nm 5 (i + 1)), (4, pn s0), (3, pn (3 + n0)), (0, wP l)], [(nm, ⟨60, true, 5, flatL (mkA l (i + 1))⟩)]⟩ (by omega) ?_ ⟨i + 1, nm, by omega, rfl, rfl⟩
      rw [hmk, hsn, hdf]
      refine Wk_fr (by simp only [wkb, Nat.reduceEqDiff, Nat.reduceLT, ↓reduceIte, pn]) ?_
      refine ⟨fun x hx => ?_, by simp [names, hnm]⟩
      simp only [List.mem_cons, List.not_mem_nil, or_false] at hx ⊢
      exact .inl hx
  · have hi2 : i = 3 + n0 := by omega
    subst hi2
    repeat' (first
    | (with_reducible apply W_seq_k; intro nx hnx)
    | (with_reducible first | apply W_block | apply W_scope)
    | (with_reducible refine W_prune 253 ?_; simp only [prb, Nat.reducePow, Nat.reduceDiv, Nat.reduceMod, Nat.reduceBEq]; with_reducible apply W_region_l)
    | ((first | (with_reducible apply WL_op; intro nx hnx) | with_reducible refine Ev_out ?_ | (with_reducible refine pfresh_k hnm fun nm hnm => ?_; (try simp only [fmb] at hnm)) | (with_reducible refine pborn_mu hnm fun nm hnm => ?_; (try simp only [fmb] at hnm)) | (with_reducible refine pmaybe_k ?_; intro bn hbn)); try (simp (maxSteps := 2000000) (disch := omega) only [evb, evd, eve, constPV, seqK, blockK, scopeK, pbound, pelems, PV.mem?, PV.one, PV.cells, peqs, peq1, pkeys, pkeyt, List.set, Value.cells, ↓popG_eq, ↓pop.eq_1, ↓List.getElem?_map, ↓List.getElem?_cons_zero, ↓List.getElem?_cons_succ, Value.oneCell', Nat.reduceAdd, Nat.reduceMul, Nat.reduceSub, Nat.reduceLeDiff, Nat.reduceEqDiff, ↓reduceIte, ne_eq, reduceCtorEq, forall_const, exists_and_left, exists_eq_left', eq_self, Nat.reduceLT, Int.reduceLT, Int.reduceLE, Int.reduceToNat, Int.reduceAdd, Int.reduceSub, Int.reduceNeg, hnm, Tryd.tf0, Tryd.tf1, Tryd.tf2, Tryd.tf3, Tryd.tf4, Tryd.tf9, Tryd.tf22, Tryd.tf23, Tryd.tf60, Tryd.call36, Tryd.call37, hfl]); repeat (refine And.intro (by omega) ?_))
    | ((with_reducible first | apply WL_nil | apply W_label | apply W_skip | apply W_exit | apply W_ret); try simp only [seqK, blockK, scopeK, ↓reduceIte, Nat.reduceEqDiff])
    | (with_reducible apply pguard_intro <;> (intro hc; (try simp only [hcb, reduceCtorEq, forall_const, ne_eq] at hc); first | (exfalso; omega) | (exfalso; exact hc trivial) | refine Ev_in ?_))
    | (with_reducible apply W_cond_k; intro _ _ ea eb; (simp only [condK, cob, opnd, constPV, Nat.reduceEqDiff, Nat.reduceLT, ↓reduceIte, hcb, reduceCtorEq, forall_const, ne_eq]); subst ea eb; first | (refine ⟨fun hc => ?_, fun hc => ?_⟩ <;> first | (exfalso; omega) | (exfalso; exact hc trivial) | skip) | skip)
    | (with_reducible apply hnx; clear hnx nx)
    | (with_reducible refine And.intro (by omega) ?_)
    | (with_reducible refine And.intro ?_ ?_)
    | (clear hnx nx; with_reducible apply hnx; clear hnx nx)
    | (clear hnx nx; clear hnx nx; with_reducible apply hnx; clear hnx nx))
    all_goals first | exact absurd trivial hc | contradiction | exact fun h => False.elim h | (exfalso; omega) | (exfalso; have hc := of_decide_eq_false hc; omega) | (exfalso; simp only [Bool.not_false, Bool.not_true, decide_eq_true_eq, decide_eq_false_iff_not] at *; omega) | skip
    refine hfin _ _ (Fin_ret1 rfl (Sub_refl (by simp [names])) ?_)
    simp only [fr_getD_cons, Nat.reduceEqDiff, Nat.reduceLT, ↓reduceIte]
    exact ⟨A, rfl, rfl⟩
theorem letters_c (G : Globs) (l : List Int) (hl : okI l) : PCalls Tryd.prog G 10 [wP l] [] (fun res H => res = ltsP (lettersF l) ∧ H = []) :=
  CRL.frz ((letters_r G l hl).mono fun res H ⟨n, h1, h2⟩ => .inr ⟨n, h1, h2⟩)
end Go.PM

namespace Go.PM
open Go.Proofs
attribute [local irreducible] W PCalls pcall pcallI WL
set_option maxRecDepth 100000
set_option maxHeartbeats 8000000
/-- A row of numbers, or none. -/
@[reducible] def CRI (w : List Int) (res : PV) (H : Heap) : Prop := (w = [] ∧ res = pnil ∧ H = []) ∨ (∃ n : Int, res = .row n 1 w.length ∧ H = [(n, ⟨3, true, 1, w.map (pint .i64)⟩)])
/-- The text of letters. -/
def textF (a : List Ltr) (w : List Int) : List UInt8 := w.flatMap fun x => (a.getD x.toNat default).text
def inA (a : List Ltr) (x : Int) : Bool := decide (0 ≤ x) && decide (x ≤ (a.length : Int) - 1)
def writeF (a : List Ltr) (w : List Int) : List UInt8 × Int := if validF a then (if w.all (inA a) then (textF a w, 0) else ([], 5)) else ([], 1)
theorem okFrom_get {a : List Ltr} (h : okFrom a 0 = true) {j : Nat} (hj : j < a.length) : okLtr a j a[j] = true := by
  unfold okFrom at h
  rw [List.drop_zero, List.all_eq_true] at h
  have := h j (by simpa using hj)
  rw [List.getD_eq_getElem?_getD, List.getElem?_eq_getElem hj] at this
  exact this
theorem plainB_iff {s : List UInt8} : plainB s = true → s ≠ [] ∧ s.length ≤ 4 := by
  intro h
  unfold plainB at h
  simp only [Bool.and_eq_true, decide_eq_true_eq] at h
  constructor
  · intro e
    subst e
    simp at h
  · omega
theorem validF_iff {a : List Ltr} : validF a = true ↔ 1 ≤ a.length ∧ a.length ≤ 60 ∧ okFrom a 0 = true ∧ (texts a).Nodup := by
  unfold validF
  simp only [Bool.and_eq_true, decide_eq_true_eq]
  constructor
  · rintro ⟨⟨⟨h1, h2⟩, h3⟩, h4⟩
    exact ⟨h1, h2, h3, h4⟩
  · rintro ⟨h1, h2, h3, h4⟩
    exact ⟨⟨⟨h1, h2⟩, h3⟩, h4⟩
theorem valid_text {a : List Ltr} (h : validF a = true) {j : Nat} (hj : j < a.length) : a[j].text ≠ [] ∧ a[j].text.length ≤ 4 :=
  plainB_iff (okLtr_iff.1 (okFrom_get (validF_iff.1 h).2.2.1 hj)).1
theorem textF_len {a : List Ltr} (h : validF a = true) (w : List Int) (hw : w.all (inA a) = true) : (textF a w).length ≤ 4 * w.length := by
  induction w with
  | nil => simp [textF]
  | cons x r ih =>
    simp only [List.all_cons, Bool.and_eq_true] at hw
    have h1 := ih hw.2
    have h2 := hw.1
    unfold inA at h2
    simp only [Bool.and_eq_true, decide_eq_true_eq] at h2
    have hj : x.toNat < a.length := by omega
    have h3 := (valid_text h hj).2
    unfold textF at h1 ⊢
    rw [List.flatMap_cons, List.length_append, List.getD_eq_getElem?_getD, List.getElem?_eq_getElem hj, List.length_cons]
    simp only [Option.getD_some]
    omega
theorem write_c (G : Globs) (a : List Ltr) (w : List Int) (ha : HA a) (hw : w.length ≤ 100000000) : PCalls Tryd.prog G 34 [ltsP a, wP w] [] (fun res H => res = .tuple [pstr (writeF a w).1, pint .i64 (writeF a w).2] ∧ H = []) := by
  have c1 := valid_c G a ha
  (refine PCalls_f Tryd.func34 rfl Tryd.ntmps34 Tryd.results34 (by simp) fun fin hfin => ?_; have hnm : True := trivial; simp (maxSteps := 2000000) (disch := omega) only [evb, evd, eve, constPV, seqK, blockK, scopeK, pbound, pelems, PV.mem?, PV.one, PV.cells, peqs, peq1, pkeys, pkeyt, List.set, Value.cells, ↓popG_eq, ↓pop.eq_1, ↓List.getElem?_map, ↓List.getElem?_cons_zero, ↓List.getElem?_cons_succ, Value.oneCell', Nat.reduceAdd, Nat.reduceMul, Nat.reduceSub, Nat.reduceLeDiff, Nat.reduceEqDiff, ↓reduceIte, ne_eq, reduceCtorEq, forall_const, exists_and_left, exists_eq_left', eq_self, Nat.reduceLT, Int.reduceLT, Int.reduceLE, Int.reduceToNat, Int.reduceAdd, Int.reduceSub, Int.reduceNeg, hnm, Tryd.tf0, Tryd.tf3, Tryd.tf4, Tryd.tf9, Tryd.tf22, Tryd.tf23, Tryd.tf37, Tryd.tf60, Tryd.tf84, Tryd.tf88, Tryd.call42, Tryd.call53, Tryd.call54, Tryd.call55])
  repeat' (first
    | (with_reducible apply W_seq_k; intro nx hnx)
    | (with_reducible first | apply W_block | apply W_scope)
    | (with_reducible refine W_prune 29043 ?_; simp only [prb, Nat.reducePow, Nat.reduceDiv, Nat.reduceMod, Nat.reduceBEq]; with_reducible apply W_region_l)
    | ((first | (with_reducible apply WL_op; intro nx hnx) | with_reducible refine Ev_out ?_ | (with_reducible refine pfresh_k hnm fun nm hnm => ?_; (try simp only [fmb] at hnm)) | (with_reducible refine pborn_mu hnm fun nm hnm => ?_; (try simp only [fmb] at hnm))); try (simp (maxSteps := 2000000) (disch := omega) only [evb, evd, eve, constPV, seqK, blockK, scopeK, pbound, pelems, PV.mem?, PV.one, PV.cells, peqs, peq1, pkeys, pkeyt, List.set, Value.cells, ↓popG_eq, ↓pop.eq_1, ↓List.getElem?_map, ↓List.getElem?_cons_zero, ↓List.getElem?_cons_succ, Value.oneCell', Nat.reduceAdd, Nat.reduceMul, Nat.reduceSub, Nat.reduceLeDiff, Nat.reduceEqDiff, ↓reduceIte, ne_eq, reduceCtorEq, forall_const, exists_and_left, exists_eq_left', eq_self, Nat.reduceLT, Int.reduceLT, Int.reduceLE, Int.reduceToNat, Int.reduceAdd, Int.reduceSub, Int.reduceNeg, hnm, Tryd.tf0, Tryd.tf3, Tryd.tf4, Tryd.tf9, Tryd.tf22, Tryd.tf23, Tryd.tf37, Tryd.tf60, Tryd.tf84, Tryd.tf88, Tryd.call42, Tryd.call53, Tryd.call54, Tryd.call55]); repeat (refine And.intro (by omega) ?_))
    | ((with_reducible first | apply WL_nil | apply W_label | apply W_skip | apply W_exit | apply W_ret); try simp only [seqK, blockK, scopeK, ↓reduceIte, Nat.reduceEqDiff])
    | (with_reducible apply W_cond_k; intro _ _ ea eb; (simp only [condK, cob, opnd, constPV, Nat.reduceEqDiff, Nat.reduceLT, ↓reduceIte, hcb, reduceCtorEq, forall_const, ne_eq]); subst ea eb; first | (refine ⟨fun hc => ?_, fun hc => ?_⟩ <;> first | (exfalso; omega) | (exfalso; exact hc trivial) | skip) | skip)
    | (with_reducible apply hnx; clear hnx nx)
    | (with_reducible refine And.intro (by omega) ?_)
    | (with_reducible refine And.intro ?_ ?_)
    | (with_reducible refine pcall_k (c1) ?_; rintro _ _ ⟨rfl, rfl⟩ -; refine Ev_in ?_)
    | (clear hnx nx; with_reducible apply hnx; clear hnx nx)
    | (clear hnx nx; clear hnx nx; with_reducible apply hnx; clear hnx nx))
  all_goals first
    | exact absurd trivial hc
    | skip
  · have hv : validF a = false := by simpa using hc
    refine hfin _ _ (Fin_ret2 rfl rfl (Sub_nil _) ?_); simp only [List.getD_cons_zero, List.getD_cons_succ, fr_getD_cons, fr_getD_nil, Nat.reduceEqDiff, Nat.reduceLT, ↓reduceIte]
    refine ⟨?_, by trivial⟩
    simp [writeF, hv]
    rfl
  have hv : validF a = true := by simpa using hc
  generalize nm = b at *
  refine W_loop_k (fun z τ => ∃ (i : Nat) (H : Heap), i ≤ w.length ∧ z = w.length - i ∧ (w.take i).all (inA a) = true ∧ BS b (textF a (w.take i)) H ∧ (names H).Nodup ∧ τ = ⟨fr 32 [(14, pn i), (13, pint .i64 w.length), (12, wP w), (6, .ptr b 0), (0, ltsP a)], H⟩) w.length
    ⟨fr 32 [(14, pn 0), (13, pint .i64 w.length), (12, wP w), (6, .ptr b 0), (0, ltsP a)], [(b, ⟨84, false, 0, [.val (.pointer none), pnil]⟩)]⟩ (by
    refine Wk_fr (by simp only [wkb, Nat.reduceEqDiff, Nat.reduceLT, ↓reduceIte, pn]) ?_
    exact Sub_refl (by simp [names])) ⟨0, _, by omega, by omega, by simp, .inl ⟨by simp [textF], rfl⟩, by simp [names], rfl⟩ ?_
  rintro z τ ⟨i, H, hi, rfl, hall, hB, hnd, rfl⟩ lp hlp
  have hlen := textF_len hv _ hall
  rw [List.length_take] at hlen
  by_cases hil : i < w.length
  · have hsn : w.take (i + 1) = w.take i ++ [w[i]] := by rw [List.take_add_one, List.getElem?_eq_getElem hil]; rfl
    by_cases hx : 0 ≤ w[i] ∧ w[i] ≤ (a.length : Int) - 1
    · have hin : inA a w[i] = true := by simp [inA, hx]
      have hj : w[i].toNat < a.length := by omega
      obtain ⟨h3, h4⟩ := valid_text hv hj
      have ht : textF a (w.take (i + 1)) = textF a (w.take i) ++ a[w[i].toNat].text := by
        rw [hsn]
        unfold textF
        rw [List.flatMap_append, List.flatMap_singleton, List.getD_eq_getElem?_getD, List.getElem?_eq_getElem hj]
        rfl
      have cw := writeStr_c G b _ a[w[i].toNat].text h3 (by omega) (by omega) H hB
      have c2 := within_c G w[i] 0 (a.length - 1)
      have c2 : PCalls Tryd.prog G 53 [pint .i64 w[i], .val (.int .i64 0), pint .i64 (a.length - 1)] [] _ := c2
      rw [decide_eq_true hx.1, decide_eq_true hx.2] at c2
      repeat' (first
    | (with_reducible apply W_seq_k; intro nx hnx)
    | (with_reducible first | apply W_block | apply W_scope)
    | (with_reducible refine W_prune 29043 ?_; simp only [prb, Nat.reducePow, Nat.reduceDiv, Nat.reduceMod, Nat.reduceBEq]; with_reducible apply W_region_l)
    | ((first | (with_reducible apply WL_op; intro nx hnx) | with_reducible refine Ev_out ?_ | (with_reducible refine pfresh_k hnm fun nm hnm => ?_; (try simp only [fmb] at hnm)) | (with_reducible refine pborn_mu hnm fun nm hnm => ?_; (try simp only [fmb] at hnm))); try (simp (maxSteps := 2000000) (disch := omega) only [evb, evd, eve, constPV, seqK, blockK, scopeK, pbound, pelems, PV.mem?, PV.one, PV.cells, peqs, peq1, pkeys, pkeyt, List.set, Value.cells, ↓popG_eq, ↓pop.eq_1, ↓List.getElem?_map, ↓List.getElem?_cons_zero, ↓List.getElem?_cons_succ, Value.oneCell', Nat.reduceAdd, Nat.reduceMul, Nat.reduceSub, Nat.reduceLeDiff, Nat.reduceEqDiff, ↓reduceIte, ne_eq, reduceCtorEq, forall_const, exists_and_left, exists_eq_left', eq_self, Nat.reduceLT, Int.reduceLT, Int.reduceLE, Int.reduceToNat, Int.reduceAdd, Int.reduceSub, Int.reduceNeg, hnm, Tryd.tf0, Tryd.tf3, Tryd.tf4, Tryd.tf9, Tryd.tf22, Tryd.tf23, Tryd.tf37, Tryd.tf60, Tryd.tf84, Tryd.tf88, Tryd.call42, Tryd.call53, Tryd.call54, Tryd.call55]); repeat (refine And.intro (by omega) ?_))
    | ((with_reducible first | apply WL_nil | apply W_label | apply W_skip | apply W_exit | apply W_ret); try simp only [seqK, blockK, scopeK, ↓reduceIte, Nat.reduceEqDiff])
    | (with_reducible apply W_cond_k; intro _ _ ea eb; (simp only [condK, cob, opnd, constPV, Nat.reduceEqDiff, Nat.reduceLT, ↓reduceIte, hcb, reduceCtorEq, forall_const, ne_eq]); subst ea eb; first | (refine ⟨fun hc => ?_, fun hc => ?_⟩ <;> first | (exfalso; omega) | (exfalso; exact hc trivial) | skip) | skip)
    | (with_reducible apply hnx; clear hnx nx)
    | (with_reducible refine And.intro (by omega) ?_)
    | (with_reducible refine And.intro ?_ ?_)
    | (with_reducible refine pcall_k (c2) ?_; rintro _ _ ⟨rfl, rfl⟩ -; refine Ev_in ?_)
    | ((refine pcall_midn [] H [] (by simp) cw ?_; rintro _ H2 ⟨rfl, hB2⟩ nd2; refine Ev_in ?_))
    | (clear hnx nx; with_reducible apply hnx; clear hnx nx)
    | (clear hnx nx; clear hnx nx; with_reducible apply hnx; clear hnx nx))
      all_goals first
        | exact absurd trivial hc
        | (exfalso
           omega)
        | skip
      simp only [List.nil_append, List.append_nil] at nd2
      rw [← ht] at hB2
      refine hlp _ (w.length - (i + 1)) ⟨fr 32 [(14, pn (i + 1)), (13, pint .i64 w.length), (12, wP w), (6, .ptr b 0), (0, ltsP a)], H2⟩ (by omega) ?_ ⟨i + 1, H2, by omega, rfl, ?_, hB2, nd2, rfl⟩
      · refine Wk_fr (by simp only [wkb, Nat.reduceEqDiff, Nat.reduceLT, ↓reduceIte, pn]) ?_
        exact Sub_refl nd2
      · rw [hsn, List.all_append, hall]
        simp [hin]
    · have hin : inA a w[i] = false := by
        simp only [inA]
        by_cases h1 : 0 ≤ w[i]
        · have h2 : ¬ w[i] ≤ (a.length : Int) - 1 := fun h => hx ⟨h1, h⟩
          simp [h2]
        · simp [h1]
      have c2 := within_c G w[i] 0 (a.length - 1)
      have c2 : PCalls Tryd.prog G 53 [pint .i64 w[i], .val (.int .i64 0), pint .i64 (a.length - 1)] [] _ := c2
      have e2 : (decide (0 ≤ w[i]) && decide (w[i] ≤ (a.length : Int) - 1)) = false := hin
      rw [e2] at c2
      repeat' (first
    | (with_reducible apply W_seq_k; intro nx hnx)
    | (with_reducible first | apply W_block | apply W_scope)
    | (with_reducible refine W_prune 29043 ?_; simp only [prb, Nat.reducePow, Nat.reduceDiv, Nat.reduceMod, Nat.reduceBEq]; with_reducible apply W_region_l)
    | ((first | (with_reducible apply WL_op; intro nx hnx) | with_reducible refine Ev_out ?_ | (with_reducible refine pfresh_k hnm fun nm hnm => ?_; (try simp only [fmb] at hnm)) | (with_reducible refine pborn_mu hnm fun nm hnm => ?_; (try simp only [fmb] at hnm))); try (simp (maxSteps := 2000000) (disch := omega) only [evb, evd, eve, constPV, seqK, blockK, scopeK, pbound, pelems, PV.mem?, PV.one, PV.cells, peqs, peq1, pkeys, pkeyt, List.set, Value.cells, ↓popG_eq, ↓pop.eq_1, ↓List.getElem?_map, ↓List.getElem?_cons_zero, ↓List.getElem?_cons_succ, Value.oneCell', Nat.reduceAdd, Nat.reduceMul, Nat.reduceSub, Nat.reduceLeDiff, Nat.reduceEqDiff, ↓reduceIte, ne_eq, reduceCtorEq, forall_const, exists_and_left, exists_eq_left', eq_self, Nat.reduceLT, Int.reduceLT, Int.reduceLE, Int.reduceToNat, Int.reduceAdd, Int.reduceSub, Int.reduceNeg, hnm, Tryd.tf0, Tryd.tf3, Tryd.tf4, Tryd.tf9, Tryd.tf22, Tryd.tf23, Tryd.tf37, Tryd.tf60, Tryd.tf84, Tryd.tf88, Tryd.call42, Tryd.call53, Tryd.call54, Tryd.call55]); repeat (refine And.intro (by omega) ?_))
    | ((with_reducible first | apply WL_nil | apply W_label | apply W_skip | apply W_exit | apply W_ret); try simp only [seqK, blockK, scopeK, ↓reduceIte, Nat.reduceEqDiff])
    | (with_reducible apply W_cond_k; intro _ _ ea eb; (simp only [condK, cob, opnd, constPV, Nat.reduceEqDiff, Nat.reduceLT, ↓reduceIte, hcb, reduceCtorEq, forall_const, ne_eq]); subst ea eb; first | (refine ⟨fun hc => ?_, fun hc => ?_⟩ <;> first | (exfalso; omega) | (exfalso; exact hc trivial) | skip) | skip)
    | (with_reducible apply hnx; clear hnx nx)
    | (with_reducible refine And.intro (by omega) ?_)
    | (with_reducible refine And.intro ?_ ?_)
    | (with_reducible refine pcall_k (c2) ?_; rintro _ _ ⟨rfl, rfl⟩ -; refine Ev_in ?_)
    | (clear hnx nx; with_reducible apply hnx; clear hnx nx)
    | (clear hnx nx; clear hnx nx; with_reducible apply hnx; clear hnx nx))
      all_goals first
        | exact absurd trivial hc
        | (exfalso
           omega)
        | skip
      all_goals
        refine hfin _ _ (Fin_ret2 rfl rfl (Sub_nil _) ?_); simp only [List.getD_cons_zero, List.getD_cons_succ, fr_getD_cons, fr_getD_nil, Nat.reduceEqDiff, Nat.reduceLT, ↓reduceIte]
        refine ⟨?_, by trivial⟩
        have : w.all (inA a) = false := by
          rw [List.all_eq_false]
          exact ⟨w[i], List.getElem_mem hil, by simp [hin]⟩
        simp [writeF, hv, this]
        rfl
  · have hi2 : i = w.length := by omega
    subst hi2
    rw [List.take_length] at hall hB
    have cs := string_c G b _ (by have := textF_len hv w hall; omega) H hB
    repeat' (first
    | (with_reducible apply W_seq_k; intro nx hnx)
    | (with_reducible first | apply W_block | apply W_scope)
    | (with_reducible refine W_prune 29043 ?_; simp only [prb, Nat.reducePow, Nat.reduceDiv, Nat.reduceMod, Nat.reduceBEq]; with_reducible apply W_region_l)
    | ((first | (with_reducible apply WL_op; intro nx hnx) | with_reducible refine Ev_out ?_ | (with_reducible refine pfresh_k hnm fun nm hnm => ?_; (try simp only [fmb] at hnm)) | (with_reducible refine pborn_mu hnm fun nm hnm => ?_; (try simp only [fmb] at hnm))); try (simp (maxSteps := 2000000) (disch := omega) only [evb, evd, eve, constPV, seqK, blockK, scopeK, pbound, pelems, PV.mem?, PV.one, PV.cells, peqs, peq1, pkeys, pkeyt, List.set, Value.cells, ↓popG_eq, ↓pop.eq_1, ↓List.getElem?_map, ↓List.getElem?_cons_zero, ↓List.getElem?_cons_succ, Value.oneCell', Nat.reduceAdd, Nat.reduceMul, Nat.reduceSub, Nat.reduceLeDiff, Nat.reduceEqDiff, ↓reduceIte, ne_eq, reduceCtorEq, forall_const, exists_and_left, exists_eq_left', eq_self, Nat.reduceLT, Int.reduceLT, Int.reduceLE, Int.reduceToNat, Int.reduceAdd, Int.reduceSub, Int.reduceNeg, hnm, Tryd.tf0, Tryd.tf3, Tryd.tf4, Tryd.tf9, Tryd.tf22, Tryd.tf23, Tryd.tf37, Tryd.tf60, Tryd.tf84, Tryd.tf88, Tryd.call42, Tryd.call53, Tryd.call54, Tryd.call55]); repeat (refine And.intro (by omega) ?_))
    | ((with_reducible first | apply WL_nil | apply W_label | apply W_skip | apply W_exit | apply W_ret); try simp only [seqK, blockK, scopeK, ↓reduceIte, Nat.reduceEqDiff])
    | (with_reducible apply W_cond_k; intro _ _ ea eb; (simp only [condK, cob, opnd, constPV, Nat.reduceEqDiff, Nat.reduceLT, ↓reduceIte, hcb, reduceCtorEq, forall_const, ne_eq]); subst ea eb; first | (refine ⟨fun hc => ?_, fun hc => ?_⟩ <;> first | (exfalso; omega) | (exfalso; exact hc trivial) | skip) | skip)
    | (with_reducible apply hnx; clear hnx nx)
    | (with_reducible refine And.intro (by omega) ?_)
    | (with_reducible refine And.intro ?_ ?_)
    | ((refine pcall_midn [] H [] (by simp) cs ?_; rintro _ H2 ⟨rfl, rfl⟩ nd2; refine Ev_in ?_))
    | (clear hnx nx; with_reducible apply hnx; clear hnx nx)
    | (clear hnx nx; clear hnx nx; with_reducible apply hnx; clear hnx nx))
    all_goals first
      | exact absurd trivial hc
      | (exfalso
         omega)
      | skip
    all_goals
      refine hfin _ _ (Fin_ret2 rfl rfl (Sub_nil _) ?_); simp only [List.getD_cons_zero, List.getD_cons_succ, fr_getD_cons, fr_getD_nil, Nat.reduceEqDiff, Nat.reduceLT, ↓reduceIte]
      refine ⟨?_, by trivial⟩
      simp [writeF, hv, hall]
end Go.PM

namespace Go.PM
open Go.Proofs
theorem mkA_get (l : List Int) (n j : Nat) (hj : j < n) : (mkA l (n + 1)).getD j default = (mkA l n).getD j default := by
  rw [mkA, List.getD_eq_getElem?_getD, List.getElem?_append_left (by rw [mkA_len]; exact hj), ← List.getD_eq_getElem?_getD]
theorem mkA_last (l : List Int) (n : Nat) : (mkA l (n + 1)).getD n default = mkL l n (mkA l n) := by
  rw [mkA, List.getD_eq_getElem?_getD, List.getElem?_append_right (by rw [mkA_len]; exact Nat.le_refl _), mkA_len, Nat.sub_self]
  rfl
theorem mkA_texts (l : List Int) : ∀ n, texts (mkA l n) = (List.range n).map fun i => poolL.getD (((atF l 1 16).toNat + i) % 16) []
  | 0 => rfl
  | n + 1 => by
    rw [mkA, texts, List.map_append, List.range_succ, List.map_append, ← mkA_texts l n]
    congr 1
    simp only [List.map_cons, List.map_nil, mkL]
    split <;> rfl
/-- What holds of a letter that is made. -/
def goodL (a : List Ltr) (j : Nat) (x : Ltr) : Prop := (0 ≤ x.base ∧ x.base ≤ j) ∧ (a.getD x.base.toNat default).base = x.base ∧ (x.base = j → x.mark = 0 ∧ x.case_ = 0) ∧ (0 ≤ x.mark ∧ x.mark ≤ 15) ∧ (0 ≤ x.case_ ∧ x.case_ ≤ 1) ∧ (1 ≤ x.width ∧ x.width ≤ 1000)
theorem mkA_good (l : List Int) : ∀ n j, j < n → goodL (mkA l n) j ((mkA l n).getD j default)
  | 0, j, h => by omega
  | n + 1, j, h => by
    by_cases hj : j < n
    · obtain ⟨h1, h2, h3, h4, h5, h6⟩ := mkA_good l n j hj
      rw [mkA_get l n j hj]
      refine ⟨h1, ?_, h3, h4, h5, h6⟩
      rw [mkA_get l n _ (by omega)]
      exact h2
    · have hjn : j = n := by omega
      subst hjn
      rw [mkA_last]
      have q1 := atF_bound l (2 + j) (most := 9) (by omega)
      have q4 := atF_bound l (30 + j) (most := 4) (by omega)
      have q5 := atF_bound l (40 + j) (most := 2) (by omega)
      unfold mkL
      split
      · rename_i hc
        have q3 := atF_bound l (20 + j) (most := j) (by omega)
        obtain ⟨h1, h2, h3, h4, h5, h6⟩ := mkA_good l j (atF l (20 + j) j).toNat (by omega)
        refine ⟨⟨?_, ?_⟩, ?_, ?_, ⟨?_, ?_⟩, ⟨?_, ?_⟩, ⟨?_, ?_⟩⟩ <;> simp only <;> try omega
        rw [mkA_get l j _ (by omega)]
        exact h2
      · rename_i hc
        refine ⟨⟨?_, ?_⟩, ?_, ?_, ⟨?_, ?_⟩, ⟨?_, ?_⟩, ⟨?_, ?_⟩⟩ <;> simp only <;> try omega
        · rw [Int.toNat_natCast, mkA_last, mkL, if_neg hc]
        · intro _; exact ⟨trivial, trivial⟩
set_option maxRecDepth 100000 in
theorem pool_nodup : ∀ s, s < 16 → ∀ n, n < 9 → ((List.range n).map fun i => poolL.getD ((s + i) % 16) []).Nodup := by decide +kernel
set_option maxRecDepth 100000 in
theorem pool_plain : ∀ k, k < 16 → plainB (poolL.getD k []) = true := by decide +kernel
theorem letters_valid (l : List Int) : validF (lettersF l) = true := by
  have b0 := atF_bound l 0 (most := 6) (by omega)
  have b1 := atF_bound l 1 (most := 16) (by omega)
  unfold lettersF
  obtain ⟨n, hn⟩ : ∃ n, n = 3 + (atF l 0 6).toNat := ⟨_, rfl⟩
  rw [← hn, validF_iff]
  refine ⟨by rw [mkA_len]; omega, by rw [mkA_len]; omega, ?_, ?_⟩
  · unfold okFrom
    rw [List.drop_zero, List.all_eq_true]
    intro j hj
    have hj : j < n := by
      have := List.mem_range.1 hj
      rwa [mkA_len] at this
    obtain ⟨h1, h2, h3, h4, h5, h6⟩ := mkA_good l n j hj
    have ht : ((mkA l n).getD j default).text = poolL.getD (((atF l 1 16).toNat + j) % 16) [] := by
      have h7 : (texts (mkA l n))[j]? = _ := congrArg (fun q : List (List UInt8) => q[j]?) (mkA_texts l n)
      rw [texts, List.getElem?_map, List.getElem?_map, List.getElem?_range hj] at h7
      have hl : j < (mkA l n).length := by rw [mkA_len]; exact hj
      rw [List.getD_eq_getElem?_getD]
      rw [List.getElem?_eq_getElem hl] at h7 ⊢
      exact Option.some.inj h7
    rw [okLtr_iff]
    refine ⟨?_, h1.1, by rw [mkA_len]; omega, fun hb => ?_, h4.1, h4.2, h5.1, h5.2, h6.1, h6.2, h3⟩
    · rw [ht]
      exact pool_plain _ (by omega)
    · have := h2
      rw [List.getD_eq_getElem?_getD, List.getElem?_eq_getElem hb] at this
      exact this
  · rw [mkA_texts]
    exact pool_nodup _ (by omega) _ (by omega)
theorem lettersF_len (l : List Int) : 3 ≤ (lettersF l).length ∧ (lettersF l).length ≤ 8 := by
  have b0 := atF_bound l 0 (most := 6) (by omega)
  unfold lettersF
  rw [mkA_len]
  omega
theorem valid_HA {a : List Ltr} (h : validF a = true) : HA a := by
  obtain ⟨h1, h2, h3, h4⟩ := validF_iff.1 h
  refine ⟨by omega, fun x hx => ?_⟩
  obtain ⟨j, hj, rfl⟩ := List.mem_iff_getElem.1 hx
  have := (valid_text h hj).2
  obtain ⟨k1, k2, k3, k4, k5, k6, k7, k8, k9, k10, k11⟩ := okLtr_iff.1 (okFrom_get h3 hj)
  exact ⟨by omega, ⟨by omega, by omega⟩, by omega, by omega⟩
end Go.PM

namespace Go.PM
open Go.Proofs
theorem Px.nilnil {G : Globs} (es es2 : Nat) (r : PV) (H : Heap) : Px G (.tuple [pnil, pnil, r]) H (.tuple [.list es [], .list es2 [], r]) H := fun _ _ A _ w v hs hr => by
  refine ⟨A, hs, ?_⟩
  cases hr with
  | tuple cs f h2 =>
    refine .tuple [.list es [], .list es2 [], r] f fun j u hu => ?_
    match j with
    | 0 =>
      cases hu
      exact nil_list es (h2 0 pnil rfl)
    | 1 =>
      cases hu
      exact nil_list es2 (h2 1 pnil rfl)
    | j + 2 => exact h2 (j + 2) u hu
theorem PCalls.nil1 {P : Program} {G : Globs} {f : FuncId} {es : Nat} {r : List PV} {Hin : Heap} {R : PV → Heap → Prop} (hc : PCalls P G f (.list es [] :: r) Hin R) : PCalls P G f (pnil :: r) Hin R := by
  intro w A F vals h1 h2 h3 h4 h5 h6 h7
  refine hc w A F vals h1 h2 h3 h4 h5 h6 (fun i q hq => ?_)
  cases i with
  | zero =>
    cases hq
    obtain ⟨v, hv, hr⟩ := h7 0 pnil rfl
    exact ⟨v, hv, nil_list es hr⟩
  | succ i => exact h7 (i + 1) q hq
/-- Rows of numbers that come back frozen. -/
@[reducible] def eP (l : List (Nat × Int)) : PV := .list 1 (l.map fun x => pn x.1)
@[reducible] def uP (l : List (Nat × Int)) : PV := .list 1 (l.map fun x => pint .i64 x.2)
theorem mres_f {G : Globs} {fn : FuncId} {args : List PV} {m : List (Nat × Int) × Int} (h : PCalls Tryd.prog G fn args [] (mRes m)) :
    PCalls Tryd.prog G fn args [] (fun res H => res = .tuple [eP m.1, uP m.1, pint .i64 m.2] ∧ H = []) := by
  refine PCalls.px (R := fun res H => mRes m res H ∧ (names H).Nodup) ?_ fun res H hR => ?_
  · intro w A F vals h1 h2 h3 h4 h5 h6 h7
    refine (h w A F vals h1 h2 h3 h4 h5 h6 h7).mono ?_
    rintro e w' ⟨v, A', res, Hout, he, hR, hr, hs⟩
    exact ⟨v, A', res, Hout, he, ⟨hR, hs.nodup⟩, hr, hs⟩
  · obtain ⟨l, e⟩ := m
    rcases hR with ⟨⟨h1, h2, rfl, rfl⟩ | ⟨h1, n, w, rfl, rfl⟩, hnd⟩
    · simp only at h1
      subst h1
      exact ⟨_, _, Px.nilnil 1 1 _ _, rfl, rfl⟩
    · simp only at *
      have hnw : ¬ n = w := by
        simp only [names, List.map_cons, List.map_nil, List.nodup_cons, List.mem_singleton] at hnd
        exact hnd.1
      have hwn : ¬ w = n := fun e => hnw e.symm
      have f1 := Px.freeze (G := G) (.tuple [.row n 1 l.length, .row w 1 l.length, pint .i64 e]) [(n, ⟨3, true, 1, l.map fun x => pn x.1⟩), (w, ⟨3, true, 1, l.map fun x => pint .i64 x.2⟩)] n (o := ⟨3, true, 1, l.map fun x => pn x.1⟩) (by simp only [look, if_true]) (by
        intro x hx u hu
        simp only [del, if_true, List.mem_singleton] at hx
        subst hx
        simp only [List.mem_map] at hu
        obtain ⟨y, _, rfl⟩ := hu
        rfl)
      have e1 : frz n (l.map fun x => pn x.1) (.tuple [.row n 1 l.length, .row w 1 l.length, pint .i64 e]) = .tuple [eP l, .row w 1 l.length, pint .i64 e] := by
        simp only [PM.frz, frz1, List.map_cons, List.map_nil, if_true, if_neg hwn]
        rw [if_pos ⟨by simp, by omega⟩, elemsOf, if_pos rfl, List.take_of_length_le (by simp)]
      have e2 : frzH n (l.map fun x => pn x.1) [(n, ⟨3, true, 1, l.map fun x => pn x.1⟩), (w, ⟨3, true, 1, l.map fun x => pint .i64 x.2⟩)] = [(w, ⟨3, true, 1, l.map fun x => pint .i64 x.2⟩)] := by
        simp only [frzH, del, if_true, if_neg hwn, List.map_cons, List.map_nil, List.map_map]
        congr 3
      rw [e1, e2] at f1
      have f2 := Px.freeze (G := G) (.tuple [eP l, .row w 1 l.length, pint .i64 e]) [(w, ⟨3, true, 1, l.map fun x => pint .i64 x.2⟩)] w (o := ⟨3, true, 1, l.map fun x => pint .i64 x.2⟩) (by simp only [look, if_true]) (by simp [frzOk, del])
      have e3 : frz w (l.map fun x => pint .i64 x.2) (.tuple [eP l, .row w 1 l.length, pint .i64 e]) = .tuple [eP l, uP l, pint .i64 e] := by
        simp only [PM.frz, frz1, List.map_cons, List.map_nil, if_true]
        rw [if_pos ⟨by simp, by omega⟩, elemsOf, if_pos rfl, List.take_of_length_le (by simp)]
      have e4 : frzH w (l.map fun x => pint .i64 x.2) [(w, ⟨3, true, 1, l.map fun x => pint .i64 x.2⟩)] = [] := by
        simp [frzH, del]
      rw [e3, e4] at f2
      exact ⟨_, _, f1.trans f2, rfl, rfl⟩
theorem measure_f (G : Globs) (a : List Ltr) (f : Font) (s : List UInt8) (bold : Bool) (ha : HA a) (hw : ∀ x ∈ a, 0 ≤ x.width ∧ x.width ≤ 1000) (hf : HF f) (hok : okFont f = true) (hsl : (s.length : Int) ≤ 9223372036854775807) :
    PCalls Tryd.prog G 43 [ltsP a, foP f, pstr s, pbool bold] [] (fun res H => res = .tuple [eP (measF a f s bold).1, uP (measF a f s bold).1, pint .i64 (measF a f s bold).2] ∧ H = []) := mres_f (measure_r G a f s bold ha hw hf hok hsl)
theorem valid_wid {a : List Ltr} (h : validF a = true) : ∀ x ∈ a, 1 ≤ x.width ∧ x.width ≤ 1000 := by
  intro x hx
  obtain ⟨j, hj, rfl⟩ := List.getElem_of_mem hx
  obtain ⟨_, _, _, _, _, _, _, _, h1, h2, _⟩ := okLtr_iff.1 (okFrom_get (validF_iff.1 h).2.2.1 hj)
  exact ⟨h1, h2⟩
/-- The widths of all beginnings, and the error. -/
def widthsF (a : List Ltr) (f : Font) (s : List UInt8) (bold : Bool) : List Int × Int := if validF a && okFont f then ((measF a f s bold).1.map (·.2), (measF a f s bold).2) else ([], 1)
def widthF (a : List Ltr) (f : Font) (s : List UInt8) (bold : Bool) : Int × Int := if (widthsF a f s bold).1 = [] then (0, (widthsF a f s bold).2) else ((widthsF a f s bold).1.getD ((widthsF a f s bold).1.length - 1) 0, 0)
/-- The end of the longest beginning that is no wider than most. -/
def fitL (most : Int) (l : List (Nat × Int)) (i : Nat) : Nat := (l.take i).foldl (fun e x => if x.2 ≤ most then x.1 else e) 0
def fitF (a : List Ltr) (f : Font) (s : List UInt8) (bold : Bool) (most : Int) : List UInt8 := if validF a && okFont f then s.take (fitL most (measF a f s bold).1 (measF a f s bold).1.length) else []
theorem fitL_step {most : Int} {l : List (Nat × Int)} {i : Nat} (h : i < l.length) : fitL most l (i + 1) = if l[i].2 ≤ most then l[i].1 else fitL most l i := by
  unfold fitL
  rw [List.take_succ_eq_append_getElem h, List.foldl_append]
  rfl
attribute [local irreducible] W PCalls pcall pcallI WL
set_option maxRecDepth 100000
set_option maxHeartbeats 8000000
theorem widths_c (G : Globs) (a : List Ltr) (f : Font) (s : List UInt8) (bold : Bool) (ha : HA a) (hf : HF f) (hsl : (s.length : Int) ≤ 9223372036854775807) :
    PCalls Tryd.prog G 20 [ltsP a, foP f, pstr s, pbool bold] [] (fun res H => res = .tuple [wP (widthsF a f s bold).1, pint .i64 (widthsF a f s bold).2] ∧ H = []) := by
  have c1 := valid_c G a ha
  have c2 := fvalid_c G f hf
  unfold widthsF
  cases hv : validF a with
  | false =>
    rw [hv] at c1
    refine PCalls.px (R := fun res H => res = .tuple [pnil, pint .i64 1] ∧ H = []) ?_ fun res H ⟨h1, h2⟩ => ⟨_, _, by rw [h1, h2]; exact Px.nil2 1 _ _, rfl, rfl⟩
    (refine PCalls_f Tryd.func20 rfl Tryd.ntmps20 Tryd.results20 (by simp) fun fin hfin => ?_; have hnm : True := trivial; simp (maxSteps := 2000000) (disch := omega) only [evb, evd, eve, constPV, seqK, blockK, scopeK, pbound, pelems, PV.mem?, PV.one, PV.cells, peqs, peq1, pkeys, pkeyt, List.set, Value.cells, ↓popG_eq, ↓pop.eq_1, ↓List.getElem?_map, ↓List.getElem?_cons_zero, ↓List.getElem?_cons_succ, Value.oneCell', Nat.reduceAdd, Nat.reduceMul, Nat.reduceSub, Nat.reduceLeDiff, Nat.reduceEqDiff, ↓reduceIte, ne_eq, reduceCtorEq, forall_const, exists_and_left, exists_eq_left', eq_self, Nat.reduceLT, Int.reduceLT, Int.reduceLE, Int.reduceToNat, Int.reduceAdd, Int.reduceSub, Int.reduceNeg, hnm, Tryd.tf0, Tryd.tf1, Tryd.tf2, Tryd.tf3, Tryd.tf4, Tryd.tf9, Tryd.tf22, Tryd.tf23, Tryd.tf27, Tryd.tf37, Tryd.tf60, Tryd.tf75, Tryd.call16, Tryd.call42, Tryd.call43])
    repeat' (first
    | (with_reducible apply W_seq_k; intro nx hnx)
    | (with_reducible first | apply W_block | apply W_scope)
    | (with_reducible refine W_prune 6959 ?_; simp only [prb, Nat.reducePow, Nat.reduceDiv, Nat.reduceMod, Nat.reduceBEq]; with_reducible apply W_region_l)
    | ((first | (with_reducible apply WL_op; intro nx hnx) | with_reducible refine Ev_out ?_ | (with_reducible refine pfresh_k hnm fun nm hnm => ?_; (try simp only [fmb] at hnm)) | (with_reducible refine pborn_mu hnm fun nm hnm => ?_; (try simp only [fmb] at hnm))); try (simp (maxSteps := 2000000) (disch := omega) only [evb, evd, eve, constPV, seqK, blockK, scopeK, pbound, pelems, PV.mem?, PV.one, PV.cells, peqs, peq1, pkeys, pkeyt, List.set, Value.cells, ↓popG_eq, ↓pop.eq_1, ↓List.getElem?_map, ↓List.getElem?_cons_zero, ↓List.getElem?_cons_succ, Value.oneCell', Nat.reduceAdd, Nat.reduceMul, Nat.reduceSub, Nat.reduceLeDiff, Nat.reduceEqDiff, ↓reduceIte, ne_eq, reduceCtorEq, forall_const, exists_and_left, exists_eq_left', eq_self, Nat.reduceLT, Int.reduceLT, Int.reduceLE, Int.reduceToNat, Int.reduceAdd, Int.reduceSub, Int.reduceNeg, hnm, Tryd.tf0, Tryd.tf1, Tryd.tf2, Tryd.tf3, Tryd.tf4, Tryd.tf9, Tryd.tf22, Tryd.tf23, Tryd.tf27, Tryd.tf37, Tryd.tf60, Tryd.tf75, Tryd.call16, Tryd.call42, Tryd.call43]); repeat (refine And.intro (by omega) ?_))
    | ((with_reducible first | apply WL_nil | apply W_label | apply W_skip | apply W_exit | apply W_ret); try simp only [seqK, blockK, scopeK, ↓reduceIte, Nat.reduceEqDiff])
    | (with_reducible apply pguard_intro <;> (intro hc; (try simp only [hcb, reduceCtorEq, forall_const, ne_eq] at hc); first | (exfalso; omega) | (exfalso; exact hc trivial) | refine Ev_in ?_))
    | (with_reducible apply W_cond_k; intro _ _ ea eb; (simp only [condK, cob, opnd, constPV, Nat.reduceEqDiff, Nat.reduceLT, ↓reduceIte, hcb, reduceCtorEq, forall_const, ne_eq]); subst ea eb; first | (refine ⟨fun hc => ?_, fun hc => ?_⟩ <;> first | (exfalso; omega) | (exfalso; exact hc trivial) | skip) | skip)
    | (with_reducible apply hnx; clear hnx nx)
    | (with_reducible refine And.intro (by omega) ?_)
    | (with_reducible refine And.intro ?_ ?_)
    | (with_reducible refine pcall_k (c1) ?_; rintro _ _ ⟨rfl, rfl⟩ -; refine Ev_in ?_)
    | (with_reducible refine pcall_k (c2) ?_; rintro _ _ ⟨rfl, rfl⟩ -; refine Ev_in ?_)
    | (clear hnx nx; with_reducible apply hnx; clear hnx nx)
    | (clear hnx nx; clear hnx nx; with_reducible apply hnx; clear hnx nx))
    all_goals first | exact absurd trivial hc | contradiction | exact fun h => False.elim h | (exfalso; omega) | (exfalso; have hc := of_decide_eq_false hc; omega) | (exfalso; simp only [Bool.not_false, Bool.not_true, decide_eq_true_eq, decide_eq_false_iff_not] at *; omega) | skip
    all_goals
      refine hfin _ _ (Fin_ret2 rfl rfl (Sub_nil _) ?_); simp only [List.getD_cons_zero, List.getD_cons_succ, fr_getD_cons, fr_getD_nil, Nat.reduceEqDiff, Nat.reduceLT, ↓reduceIte]
      exact ⟨by first | rfl | trivial, by trivial⟩
  | true =>
    cases hk : okFont f with
    | false =>
      rw [hv] at c1
      rw [hk] at c2
      refine PCalls.px (R := fun res H => res = .tuple [pnil, pint .i64 1] ∧ H = []) ?_ fun res H ⟨h1, h2⟩ => ⟨_, _, by rw [h1, h2]; exact Px.nil2 1 _ _, rfl, rfl⟩
      (refine PCalls_f Tryd.func20 rfl Tryd.ntmps20 Tryd.results20 (by simp) fun fin hfin => ?_; have hnm : True := trivial; simp (maxSteps := 2000000) (disch := omega) only [evb, evd, eve, constPV, seqK, blockK, scopeK, pbound, pelems, PV.mem?, PV.one, PV.cells, peqs, peq1, pkeys, pkeyt, List.set, Value.cells, ↓popG_eq, ↓pop.eq_1, ↓List.getElem?_map, ↓List.getElem?_cons_zero, ↓List.getElem?_cons_succ, Value.oneCell', Nat.reduceAdd, Nat.reduceMul, Nat.reduceSub, Nat.reduceLeDiff, Nat.reduceEqDiff, ↓reduceIte, ne_eq, reduceCtorEq, forall_const, exists_and_left, exists_eq_left', eq_self, Nat.reduceLT, Int.reduceLT, Int.reduceLE, Int.reduceToNat, Int.reduceAdd, Int.reduceSub, Int.reduceNeg, hnm, Tryd.tf0, Tryd.tf1, Tryd.tf2, Tryd.tf3, Tryd.tf4, Tryd.tf9, Tryd.tf22, Tryd.tf23, Tryd.tf27, Tryd.tf37, Tryd.tf60, Tryd.tf75, Tryd.call16, Tryd.call42, Tryd.call43])
      repeat' (first
    | (with_reducible apply W_seq_k; intro nx hnx)
    | (with_reducible first | apply W_block | apply W_scope)
    | (with_reducible refine W_prune 6959 ?_; simp only [prb, Nat.reducePow, Nat.reduceDiv, Nat.reduceMod, Nat.reduceBEq]; with_reducible apply W_region_l)
    | ((first | (with_reducible apply WL_op; intro nx hnx) | with_reducible refine Ev_out ?_ | (with_reducible refine pfresh_k hnm fun nm hnm => ?_; (try simp only [fmb] at hnm)) | (with_reducible refine pborn_mu hnm fun nm hnm => ?_; (try simp only [fmb] at hnm))); try (simp (maxSteps := 2000000) (disch := omega) only [evb, evd, eve, constPV, seqK, blockK, scopeK, pbound, pelems, PV.mem?, PV.one, PV.cells, peqs, peq1, pkeys, pkeyt, List.set, Value.cells, ↓popG_eq, ↓pop.eq_1, ↓List.getElem?_map, ↓List.getElem?_cons_zero, ↓List.getElem?_cons_succ, Value.oneCell', Nat.reduceAdd, Nat.reduceMul, Nat.reduceSub, Nat.reduceLeDiff, Nat.reduceEqDiff, ↓reduceIte, ne_eq, reduceCtorEq, forall_const, exists_and_left, exists_eq_left', eq_self, Nat.reduceLT, Int.reduceLT, Int.reduceLE, Int.reduceToNat, Int.reduceAdd, Int.reduceSub, Int.reduceNeg, hnm, Tryd.tf0, Tryd.tf1, Tryd.tf2, Tryd.tf3, Tryd.tf4, Tryd.tf9, Tryd.tf22, Tryd.tf23, Tryd.tf27, Tryd.tf37, Tryd.tf60, Tryd.tf75, Tryd.call16, Tryd.call42, Tryd.call43]); repeat (refine And.intro (by omega) ?_))
    | ((with_reducible first | apply WL_nil | apply W_label | apply W_skip | apply W_exit | apply W_ret); try simp only [seqK, blockK, scopeK, ↓reduceIte, Nat.reduceEqDiff])
    | (with_reducible apply pguard_intro <;> (intro hc; (try simp only [hcb, reduceCtorEq, forall_const, ne_eq] at hc); first | (exfalso; omega) | (exfalso; exact hc trivial) | refine Ev_in ?_))
    | (with_reducible apply W_cond_k; intro _ _ ea eb; (simp only [condK, cob, opnd, constPV, Nat.reduceEqDiff, Nat.reduceLT, ↓reduceIte, hcb, reduceCtorEq, forall_const, ne_eq]); subst ea eb; first | (refine ⟨fun hc => ?_, fun hc => ?_⟩ <;> first | (exfalso; omega) | (exfalso; exact hc trivial) | skip) | skip)
    | (with_reducible apply hnx; clear hnx nx)
    | (with_reducible refine And.intro (by omega) ?_)
    | (with_reducible refine And.intro ?_ ?_)
    | (with_reducible refine pcall_k (c1) ?_; rintro _ _ ⟨rfl, rfl⟩ -; refine Ev_in ?_)
    | (with_reducible refine pcall_k (c2) ?_; rintro _ _ ⟨rfl, rfl⟩ -; refine Ev_in ?_)
    | (clear hnx nx; with_reducible apply hnx; clear hnx nx)
    | (clear hnx nx; clear hnx nx; with_reducible apply hnx; clear hnx nx))
      all_goals first | exact absurd trivial hc | contradiction | exact fun h => False.elim h | (exfalso; omega) | (exfalso; have hc := of_decide_eq_false hc; omega) | (exfalso; simp only [Bool.not_false, Bool.not_true, decide_eq_true_eq, decide_eq_false_iff_not] at *; omega) | skip
      all_goals
        refine hfin _ _ (Fin_ret2 rfl rfl (Sub_nil _) ?_); simp only [List.getD_cons_zero, List.getD_cons_succ, fr_getD_cons, fr_getD_nil, Nat.reduceEqDiff, Nat.reduceLT, ↓reduceIte]
        exact ⟨by first | rfl | trivial, by trivial⟩
    | true =>
      rw [hv] at c1
      rw [hk] at c2
      have c3 := measure_f G a f s bold ha (fun x hx => ⟨by have := valid_wid hv x hx; omega, (valid_wid hv x hx).2⟩) hf hk hsl
      generalize measF a f s bold = m at *
      (refine PCalls_f Tryd.func20 rfl Tryd.ntmps20 Tryd.results20 (by simp) fun fin hfin => ?_; have hnm : True := trivial; simp (maxSteps := 2000000) (disch := omega) only [evb, evd, eve, constPV, seqK, blockK, scopeK, pbound, pelems, PV.mem?, PV.one, PV.cells, peqs, peq1, pkeys, pkeyt, List.set, Value.cells, ↓popG_eq, ↓pop.eq_1, ↓List.getElem?_map, ↓List.getElem?_cons_zero, ↓List.getElem?_cons_succ, Value.oneCell', Nat.reduceAdd, Nat.reduceMul, Nat.reduceSub, Nat.reduceLeDiff, Nat.reduceEqDiff, ↓reduceIte, ne_eq, reduceCtorEq, forall_const, exists_and_left, exists_eq_left', eq_self, Nat.reduceLT, Int.reduceLT, Int.reduceLE, Int.reduceToNat, Int.reduceAdd, Int.reduceSub, Int.reduceNeg, hnm, Tryd.tf0, Tryd.tf1, Tryd.tf2, Tryd.tf3, Tryd.tf4, Tryd.tf9, Tryd.tf22, Tryd.tf23, Tryd.tf27, Tryd.tf37, Tryd.tf60, Tryd.tf75, Tryd.call16, Tryd.call42, Tryd.call43])
      repeat' (first
    | (with_reducible apply W_seq_k; intro nx hnx)
    | (with_reducible first | apply W_block | apply W_scope)
    | (with_reducible refine W_prune 6959 ?_; simp only [prb, Nat.reducePow, Nat.reduceDiv, Nat.reduceMod, Nat.reduceBEq]; with_reducible apply W_region_l)
    | ((first | (with_reducible apply WL_op; intro nx hnx) | with_reducible refine Ev_out ?_ | (with_reducible refine pfresh_k hnm fun nm hnm => ?_; (try simp only [fmb] at hnm)) | (with_reducible refine pborn_mu hnm fun nm hnm => ?_; (try simp only [fmb] at hnm))); try (simp (maxSteps := 2000000) (disch := omega) only [evb, evd, eve, constPV, seqK, blockK, scopeK, pbound, pelems, PV.mem?, PV.one, PV.cells, peqs, peq1, pkeys, pkeyt, List.set, Value.cells, ↓popG_eq, ↓pop.eq_1, ↓List.getElem?_map, ↓List.getElem?_cons_zero, ↓List.getElem?_cons_succ, Value.oneCell', Nat.reduceAdd, Nat.reduceMul, Nat.reduceSub, Nat.reduceLeDiff, Nat.reduceEqDiff, ↓reduceIte, ne_eq, reduceCtorEq, forall_const, exists_and_left, exists_eq_left', eq_self, Nat.reduceLT, Int.reduceLT, Int.reduceLE, Int.reduceToNat, Int.reduceAdd, Int.reduceSub, Int.reduceNeg, hnm, Tryd.tf0, Tryd.tf1, Tryd.tf2, Tryd.tf3, Tryd.tf4, Tryd.tf9, Tryd.tf22, Tryd.tf23, Tryd.tf27, Tryd.tf37, Tryd.tf60, Tryd.tf75, Tryd.call16, Tryd.call42, Tryd.call43]); repeat (refine And.intro (by omega) ?_))
    | ((with_reducible first | apply WL_nil | apply W_label | apply W_skip | apply W_exit | apply W_ret); try simp only [seqK, blockK, scopeK, ↓reduceIte, Nat.reduceEqDiff])
    | (with_reducible apply pguard_intro <;> (intro hc; (try simp only [hcb, reduceCtorEq, forall_const, ne_eq] at hc); first | (exfalso; omega) | (exfalso; exact hc trivial) | refine Ev_in ?_))
    | (with_reducible apply W_cond_k; intro _ _ ea eb; (simp only [condK, cob, opnd, constPV, Nat.reduceEqDiff, Nat.reduceLT, ↓reduceIte, hcb, reduceCtorEq, forall_const, ne_eq]); subst ea eb; first | (refine ⟨fun hc => ?_, fun hc => ?_⟩ <;> first | (exfalso; omega) | (exfalso; exact hc trivial) | skip) | skip)
    | (with_reducible apply hnx; clear hnx nx)
    | (with_reducible refine And.intro (by omega) ?_)
    | (with_reducible refine And.intro ?_ ?_)
    | (with_reducible refine pcall_k (c1) ?_; rintro _ _ ⟨rfl, rfl⟩ -; refine Ev_in ?_)
    | (with_reducible refine pcall_k (c2) ?_; rintro _ _ ⟨rfl, rfl⟩ -; refine Ev_in ?_)
    | (with_reducible refine pcall_k (c3) ?_; rintro _ _ ⟨rfl, rfl⟩ -; refine Ev_in ?_)
    | (clear hnx nx; with_reducible apply hnx; clear hnx nx)
    | (clear hnx nx; clear hnx nx; with_reducible apply hnx; clear hnx nx))
      all_goals first | exact absurd trivial hc | contradiction | exact fun h => False.elim h | (exfalso; omega) | (exfalso; have hc := of_decide_eq_false hc; omega) | (exfalso; simp only [Bool.not_false, Bool.not_true, decide_eq_true_eq, decide_eq_false_iff_not] at *; omega) | skip
      all_goals
        refine hfin _ _ (Fin_ret2 rfl rfl (Sub_nil _) ?_); simp only [List.getD_cons_zero, List.getD_cons_succ, fr_getD_cons, fr_getD_nil, Nat.reduceEqDiff, Nat.reduceLT, ↓reduceIte]
        exact ⟨by simp, by trivial⟩
theorem width_c (G : Globs) (a : List Ltr) (f : Font) (s : List UInt8) (bold : Bool) (ha : HA a) (hf : HF f) (hsl : s.length ≤ 100000000) :
    PCalls Tryd.prog G 18 [ltsP a, foP f, pstr s, pbool bold] [] (fun res H => res = .tuple [pint .i64 (widthF a f s bold).1, pint .i64 (widthF a f s bold).2] ∧ H = []) := by
  have c1 := widths_c G a f s bold ha hf (by omega)
  have hlen : (widthsF a f s bold).1.length ≤ 100000000 := by
    unfold widthsF measF
    split
    · split
      · simp
      · split
        · simp
        · simp only [List.length_map]
          rw [foldM_len _ (Nat.le_refl _)]
          have := charsF_len a f s
          omega
    · simp
  unfold widthF
  generalize widthsF a f s bold = m at *
  obtain ⟨l, e⟩ := m
  simp only at *
  by_cases hl : l = []
  · subst hl
    rw [if_pos rfl]
    (refine PCalls_f Tryd.func18 rfl Tryd.ntmps18 Tryd.results18 (by simp) fun fin hfin => ?_; have hnm : True := trivial; simp (maxSteps := 2000000) (disch := omega) only [evb, evd, eve, constPV, seqK, blockK, scopeK, pbound, pelems, PV.mem?, PV.one, PV.cells, peqs, peq1, pkeys, pkeyt, List.set, Value.cells, ↓popG_eq, ↓pop.eq_1, ↓List.getElem?_map, ↓List.getElem?_cons_zero, ↓List.getElem?_cons_succ, Value.oneCell', Nat.reduceAdd, Nat.reduceMul, Nat.reduceSub, Nat.reduceLeDiff, Nat.reduceEqDiff, ↓reduceIte, ne_eq, reduceCtorEq, forall_const, exists_and_left, exists_eq_left', eq_self, Nat.reduceLT, Int.reduceLT, Int.reduceLE, Int.reduceToNat, Int.reduceAdd, Int.reduceSub, Int.reduceNeg, hnm, Tryd.tf0, Tryd.tf1, Tryd.tf3, Tryd.tf4, Tryd.tf9, Tryd.tf22, Tryd.tf23, Tryd.tf27, Tryd.tf37, Tryd.tf40, Tryd.tf60, Tryd.call20])
    repeat' (first
    | (with_reducible apply W_seq_k; intro nx hnx)
    | (with_reducible first | apply W_block | apply W_scope)
    | (with_reducible refine W_prune 3887 ?_; simp only [prb, Nat.reducePow, Nat.reduceDiv, Nat.reduceMod, Nat.reduceBEq]; with_reducible apply W_region_l)
    | ((first | (with_reducible apply WL_op; intro nx hnx) | with_reducible refine Ev_out ?_ | (with_reducible refine pfresh_k hnm fun nm hnm => ?_; (try simp only [fmb] at hnm)) | (with_reducible refine pborn_mu hnm fun nm hnm => ?_; (try simp only [fmb] at hnm))); try (simp (maxSteps := 2000000) (disch := omega) only [evb, evd, eve, constPV, seqK, blockK, scopeK, pbound, pelems, PV.mem?, PV.one, PV.cells, peqs, peq1, pkeys, pkeyt, List.set, Value.cells, ↓popG_eq, ↓pop.eq_1, ↓List.getElem?_map, ↓List.getElem?_cons_zero, ↓List.getElem?_cons_succ, Value.oneCell', Nat.reduceAdd, Nat.reduceMul, Nat.reduceSub, Nat.reduceLeDiff, Nat.reduceEqDiff, ↓reduceIte, ne_eq, reduceCtorEq, forall_const, exists_and_left, exists_eq_left', eq_self, Nat.reduceLT, Int.reduceLT, Int.reduceLE, Int.reduceToNat, Int.reduceAdd, Int.reduceSub, Int.reduceNeg, hnm, Tryd.tf0, Tryd.tf1, Tryd.tf3, Tryd.tf4, Tryd.tf9, Tryd.tf22, Tryd.tf23, Tryd.tf27, Tryd.tf37, Tryd.tf40, Tryd.tf60, Tryd.call20]); repeat (refine And.intro (by omega) ?_))
    | ((with_reducible first | apply WL_nil | apply W_label | apply W_skip | apply W_exit | apply W_ret); try simp only [seqK, blockK, scopeK, ↓reduceIte, Nat.reduceEqDiff])
    | (with_reducible apply W_cond_k; intro _ _ ea eb; (simp only [condK, cob, opnd, constPV, Nat.reduceEqDiff, Nat.reduceLT, ↓reduceIte, hcb, reduceCtorEq, forall_const, ne_eq]); subst ea eb; first | (refine ⟨fun hc => ?_, fun hc => ?_⟩ <;> first | (exfalso; omega) | (exfalso; exact hc trivial) | skip) | skip)
    | (with_reducible apply hnx; clear hnx nx)
    | (with_reducible refine And.intro (by omega) ?_)
    | (with_reducible refine And.intro ?_ ?_)
    | (with_reducible refine pcall_k (c1) ?_; rintro _ _ ⟨rfl, rfl⟩ -; refine Ev_in ?_)
    | (clear hnx nx; with_reducible apply hnx; clear hnx nx)
    | (clear hnx nx; clear hnx nx; with_reducible apply hnx; clear hnx nx))
    all_goals first | exact absurd trivial hc | contradiction | exact fun h => False.elim h | (exfalso; omega) | (exfalso; have hc := of_decide_eq_false hc; omega) | (exfalso; simp only [Bool.not_false, Bool.not_true, decide_eq_true_eq, decide_eq_false_iff_not] at *; omega) | skip
    all_goals
      refine hfin _ _ (Fin_ret2 rfl rfl (Sub_nil _) ?_); simp only [List.getD_cons_zero, List.getD_cons_succ, fr_getD_cons, fr_getD_nil, Nat.reduceEqDiff, Nat.reduceLT, ↓reduceIte]
      exact ⟨by first | rfl | trivial, by trivial⟩
  · rw [if_neg hl]
    have h0 : 0 < l.length := List.length_pos_iff.2 hl
    have hget : (l.map (pint .i64)).getD (l.length - 1) .junk = pint .i64 (l.getD (l.length - 1) 0) := by
      rw [List.getD_eq_getElem?_getD, List.getElem?_map, List.getD_eq_getElem?_getD, List.getElem?_eq_getElem (by omega)]
      rfl
    generalize hz : l.getD (l.length - 1) 0 = z at *
    (refine PCalls_f Tryd.func18 rfl Tryd.ntmps18 Tryd.results18 (by simp) fun fin hfin => ?_; have hnm : True := trivial; simp (maxSteps := 2000000) (disch := omega) only [evb, evd, eve, constPV, seqK, blockK, scopeK, pbound, pelems, PV.mem?, PV.one, PV.cells, peqs, peq1, pkeys, pkeyt, List.set, Value.cells, ↓popG_eq, ↓pop.eq_1, ↓List.getElem?_map, ↓List.getElem?_cons_zero, ↓List.getElem?_cons_succ, Value.oneCell', Nat.reduceAdd, Nat.reduceMul, Nat.reduceSub, Nat.reduceLeDiff, Nat.reduceEqDiff, ↓reduceIte, ne_eq, reduceCtorEq, forall_const, exists_and_left, exists_eq_left', eq_self, Nat.reduceLT, Int.reduceLT, Int.reduceLE, Int.reduceToNat, Int.reduceAdd, Int.reduceSub, Int.reduceNeg, hnm, Tryd.tf0, Tryd.tf1, Tryd.tf3, Tryd.tf4, Tryd.tf9, Tryd.tf22, Tryd.tf23, Tryd.tf27, Tryd.tf37, Tryd.tf40, Tryd.tf60, Tryd.call20])
    repeat' (first
    | (with_reducible apply W_seq_k; intro nx hnx)
    | (with_reducible first | apply W_block | apply W_scope)
    | (with_reducible refine W_prune 3887 ?_; simp only [prb, Nat.reducePow, Nat.reduceDiv, Nat.reduceMod, Nat.reduceBEq]; with_reducible apply W_region_l)
    | ((first | (with_reducible apply WL_op; intro nx hnx) | with_reducible refine Ev_out ?_ | (with_reducible refine pfresh_k hnm fun nm hnm => ?_; (try simp only [fmb] at hnm)) | (with_reducible refine pborn_mu hnm fun nm hnm => ?_; (try simp only [fmb] at hnm))); try (simp (maxSteps := 2000000) (disch := omega) only [evb, evd, eve, constPV, seqK, blockK, scopeK, pbound, pelems, PV.mem?, PV.one, PV.cells, peqs, peq1, pkeys, pkeyt, List.set, Value.cells, ↓popG_eq, ↓pop.eq_1, ↓List.getElem?_map, ↓List.getElem?_cons_zero, ↓List.getElem?_cons_succ, Value.oneCell', Nat.reduceAdd, Nat.reduceMul, Nat.reduceSub, Nat.reduceLeDiff, Nat.reduceEqDiff, ↓reduceIte, ne_eq, reduceCtorEq, forall_const, exists_and_left, exists_eq_left', eq_self, Nat.reduceLT, Int.reduceLT, Int.reduceLE, Int.reduceToNat, Int.reduceAdd, Int.reduceSub, Int.reduceNeg, hnm, Tryd.tf0, Tryd.tf1, Tryd.tf3, Tryd.tf4, Tryd.tf9, Tryd.tf22, Tryd.tf23, Tryd.tf27, Tryd.tf37, Tryd.tf40, Tryd.tf60, Tryd.call20, hget]); repeat (refine And.intro (by omega) ?_))
    | ((with_reducible first | apply WL_nil | apply W_label | apply W_skip | apply W_exit | apply W_ret); try simp only [seqK, blockK, scopeK, ↓reduceIte, Nat.reduceEqDiff])
    | (with_reducible apply W_cond_k; intro _ _ ea eb; (simp only [condK, cob, opnd, constPV, Nat.reduceEqDiff, Nat.reduceLT, ↓reduceIte, hcb, reduceCtorEq, forall_const, ne_eq]); subst ea eb; first | (refine ⟨fun hc => ?_, fun hc => ?_⟩ <;> first | (exfalso; omega) | (exfalso; exact hc trivial) | skip) | skip)
    | (with_reducible apply hnx; clear hnx nx)
    | (with_reducible refine And.intro (by omega) ?_)
    | (with_reducible refine And.intro ?_ ?_)
    | (with_reducible refine pcall_k (c1) ?_; rintro _ _ ⟨rfl, rfl⟩ -; refine Ev_in ?_)
    | (clear hnx nx; with_reducible apply hnx; clear hnx nx)
    | (clear hnx nx; clear hnx nx; with_reducible apply hnx; clear hnx nx))
    all_goals first | exact absurd trivial hc | contradiction | exact fun h => False.elim h | (exfalso; omega) | (exfalso; have hc := of_decide_eq_false hc; omega) | (exfalso; simp only [Bool.not_false, Bool.not_true, decide_eq_true_eq, decide_eq_false_iff_not] at *; omega) | skip
    all_goals
      refine hfin _ _ (Fin_ret2 rfl rfl (Sub_nil _) ?_); simp only [List.getD_cons_zero, List.getD_cons_succ, fr_getD_cons, fr_getD_nil, Nat.reduceEqDiff, Nat.reduceLT, ↓reduceIte]
      exact ⟨by first | rfl | trivial, by trivial⟩
end Go.PM

namespace Go.PM
open Go.Proofs
theorem foldM_mem {f : Font} {bold : Bool} {cs : List (List UInt8 × Int)} : ∀ i, i ≤ cs.length → ∀ x ∈ (foldM f bold cs i).2.2.2, x.1 ≤ (foldM f bold cs i).1
  | 0, _, x, h => by cases h
  | i + 1, hi, x, h => by
    have ih := foldM_mem (f := f) (bold := bold) (cs := cs) i (by omega)
    rw [foldM_step (by omega), stepM] at h ⊢
    simp only [List.mem_append, List.mem_singleton] at h ⊢
    rcases h with h | rfl
    · have := ih x h
      omega
    · exact Nat.le_refl _
theorem foldM_end {a : List Ltr} {f : Font} {bold : Bool} {s : List UInt8} : (foldM f bold (charsF a f s) (charsF a f s).length).1 = s.length := by
  rw [foldM_at _ (Nat.le_refl _), List.take_length, charsF_flat]
theorem measF_mem {a : List Ltr} {f : Font} {bold : Bool} {s : List UInt8} : ∀ x ∈ (measF a f s bold).1, x.1 ≤ s.length := by
  unfold measF
  split
  · simp
  · split
    · simp
    · intro x hx
      have := foldM_mem _ (Nat.le_refl _) x hx
      rw [foldM_end] at this
      exact this
theorem measF_len {a : List Ltr} {f : Font} {bold : Bool} {s : List UInt8} : (measF a f s bold).1.length ≤ s.length ∧ (measF a f s bold).1.length ≤ 65536 := by
  unfold measF
  split
  · simp
  · split
    · simp
    · simp only
      rw [foldM_len _ (Nat.le_refl _)]
      have := charsF_len a f s
      omega
theorem fitL_le {most : Int} {l : List (Nat × Int)} {k : Nat} (h : ∀ x ∈ l, x.1 ≤ k) : ∀ i, i ≤ l.length → fitL most l i ≤ k
  | 0, _ => Nat.zero_le _
  | i + 1, hi => by
    rw [fitL_step (by omega)]
    split
    · exact h _ (List.getElem_mem _)
    · exact fitL_le h i (by omega)
attribute [local irreducible] W PCalls pcall pcallI WL
set_option maxRecDepth 100000
set_option maxHeartbeats 8000000
theorem fit_c (G : Globs) (a : List Ltr) (f : Font) (s : List UInt8) (bold : Bool) (most : Int) (ha : HA a) (hf : HF f) (hsl : s.length ≤ 100000000) (hm : -9223372036854775808 ≤ most ∧ most ≤ 9223372036854775807) :
    PCalls Tryd.prog G 25 [ltsP a, foP f, pstr s, pbool bold, pint .i64 most] [] (fun res H => res = pstr (fitF a f s bold most) ∧ H = []) := by
  have c1 := valid_c G a ha
  have c2 := fvalid_c G f hf
  unfold fitF
  cases hv : validF a with
  | false =>
    rw [hv] at c1
    (refine PCalls_f Tryd.func25 rfl Tryd.ntmps25 Tryd.results25 (by simp) fun fin hfin => ?_; have hnm : True := trivial; simp (maxSteps := 2000000) (disch := omega) only [evb, evd, eve, constPV, seqK, blockK, scopeK, pbound, pelems, PV.mem?, PV.one, PV.cells, peqs, peq1, pkeys, pkeyt, List.set, Value.cells, ↓popG_eq, ↓pop.eq_1, ↓List.getElem?_map, ↓List.getElem?_cons_zero, ↓List.getElem?_cons_succ, Value.oneCell', Nat.reduceAdd, Nat.reduceMul, Nat.reduceSub, Nat.reduceLeDiff, Nat.reduceEqDiff, ↓reduceIte, ne_eq, reduceCtorEq, forall_const, exists_and_left, exists_eq_left', eq_self, Nat.reduceLT, Int.reduceLT, Int.reduceLE, Int.reduceToNat, Int.reduceAdd, Int.reduceSub, Int.reduceNeg, hnm, Tryd.tf0, Tryd.tf1, Tryd.tf2, Tryd.tf3, Tryd.tf4, Tryd.tf9, Tryd.tf22, Tryd.tf23, Tryd.tf27, Tryd.tf37, Tryd.tf60, Tryd.tf75, Tryd.call16, Tryd.call42, Tryd.call43])
    repeat' (first
    | (with_reducible apply W_seq_k; intro nx hnx)
    | (with_reducible first | apply W_block | apply W_scope)
    | (with_reducible refine W_prune 120259206239 ?_; simp only [prb, Nat.reducePow, Nat.reduceDiv, Nat.reduceMod, Nat.reduceBEq]; with_reducible apply W_region_l)
    | ((first | (with_reducible apply WL_op; intro nx hnx) | with_reducible refine Ev_out ?_ | (with_reducible refine pfresh_k hnm fun nm hnm => ?_; (try simp only [fmb] at hnm)) | (with_reducible refine pborn_mu hnm fun nm hnm => ?_; (try simp only [fmb] at hnm))); try (simp (maxSteps := 2000000) (disch := omega) only [evb, evd, eve, constPV, seqK, blockK, scopeK, pbound, pelems, PV.mem?, PV.one, PV.cells, peqs, peq1, pkeys, pkeyt, List.set, Value.cells, ↓popG_eq, ↓pop.eq_1, ↓List.getElem?_map, ↓List.getElem?_cons_zero, ↓List.getElem?_cons_succ, Value.oneCell', Nat.reduceAdd, Nat.reduceMul, Nat.reduceSub, Nat.reduceLeDiff, Nat.reduceEqDiff, ↓reduceIte, ne_eq, reduceCtorEq, forall_const, exists_and_left, exists_eq_left', eq_self, Nat.reduceLT, Int.reduceLT, Int.reduceLE, Int.reduceToNat, Int.reduceAdd, Int.reduceSub, Int.reduceNeg, hnm, Tryd.tf0, Tryd.tf1, Tryd.tf2, Tryd.tf3, Tryd.tf4, Tryd.tf9, Tryd.tf22, Tryd.tf23, Tryd.tf27, Tryd.tf37, Tryd.tf60, Tryd.tf75, Tryd.call16, Tryd.call42, Tryd.call43]); repeat (refine And.intro (by omega) ?_))
    | ((with_reducible first | apply WL_nil | apply W_label | apply W_skip | apply W_exit | apply W_ret); try simp only [seqK, blockK, scopeK, ↓reduceIte, Nat.reduceEqDiff])
    | (with_reducible apply pguard_intro <;> (intro hc; (try simp only [hcb, reduceCtorEq, forall_const, ne_eq] at hc); first | (exfalso; omega) | (exfalso; exact hc trivial) | refine Ev_in ?_))
    | (with_reducible apply W_cond_k; intro _ _ ea eb; (simp only [condK, cob, opnd, constPV, Nat.reduceEqDiff, Nat.reduceLT, ↓reduceIte, hcb, reduceCtorEq, forall_const, ne_eq]); subst ea eb; first | (refine ⟨fun hc => ?_, fun hc => ?_⟩ <;> first | (exfalso; omega) | (exfalso; exact hc trivial) | skip) | skip)
    | (with_reducible apply hnx; clear hnx nx)
    | (with_reducible refine And.intro (by omega) ?_)
    | (with_reducible refine And.intro ?_ ?_)
    | (with_reducible refine pcall_k (c1) ?_; rintro _ _ ⟨rfl, rfl⟩ -; refine Ev_in ?_)
    | (with_reducible refine pcall_k (c2) ?_; rintro _ _ ⟨rfl, rfl⟩ -; refine Ev_in ?_)
    | (clear hnx nx; with_reducible apply hnx; clear hnx nx)
    | (clear hnx nx; clear hnx nx; with_reducible apply hnx; clear hnx nx))
    all_goals first | exact absurd trivial hc | contradiction | exact fun h => False.elim h | (exfalso; omega) | (exfalso; have hc := of_decide_eq_false hc; omega) | (exfalso; simp only [Bool.not_false, Bool.not_true, decide_eq_true_eq, decide_eq_false_iff_not] at *; omega) | skip
    all_goals
      refine hfin _ _ (Fin_ret1 rfl (Sub_nil _) ?_); simp only [List.getD_cons_zero, List.getD_cons_succ, fr_getD_cons, fr_getD_nil, Nat.reduceEqDiff, Nat.reduceLT, ↓reduceIte]
      exact ⟨by first | rfl | trivial, by trivial⟩
  | true =>
    cases hk : okFont f with
    | false =>
      rw [hv] at c1
      rw [hk] at c2
      (refine PCalls_f Tryd.func25 rfl Tryd.ntmps25 Tryd.results25 (by simp) fun fin hfin => ?_; have hnm : True := trivial; simp (maxSteps := 2000000) (disch := omega) only [evb, evd, eve, constPV, seqK, blockK, scopeK, pbound, pelems, PV.mem?, PV.one, PV.cells, peqs, peq1, pkeys, pkeyt, List.set, Value.cells, ↓popG_eq, ↓pop.eq_1, ↓List.getElem?_map, ↓List.getElem?_cons_zero, ↓List.getElem?_cons_succ, Value.oneCell', Nat.reduceAdd, Nat.reduceMul, Nat.reduceSub, Nat.reduceLeDiff, Nat.reduceEqDiff, ↓reduceIte, ne_eq, reduceCtorEq, forall_const, exists_and_left, exists_eq_left', eq_self, Nat.reduceLT, Int.reduceLT, Int.reduceLE, Int.reduceToNat, Int.reduceAdd, Int.reduceSub, Int.reduceNeg, hnm, Tryd.tf0, Tryd.tf1, Tryd.tf2, Tryd.tf3, Tryd.tf4, Tryd.tf9, Tryd.tf22, Tryd.tf23, Tryd.tf27, Tryd.tf37, Tryd.tf60, Tryd.tf75, Tryd.call16, Tryd.call42, Tryd.call43])
      repeat' (first
    | (with_reducible apply W_seq_k; intro nx hnx)
    | (with_reducible first | apply W_block | apply W_scope)
    | (with_reducible refine W_prune 120259206239 ?_; simp only [prb, Nat.reducePow, Nat.reduceDiv, Nat.reduceMod, Nat.reduceBEq]; with_reducible apply W_region_l)
    | ((first | (with_reducible apply WL_op; intro nx hnx) | with_reducible refine Ev_out ?_ | (with_reducible refine pfresh_k hnm fun nm hnm => ?_; (try simp only [fmb] at hnm)) | (with_reducible refine pborn_mu hnm fun nm hnm => ?_; (try simp only [fmb] at hnm))); try (simp (maxSteps := 2000000) (disch := omega) only [evb, evd, eve, constPV, seqK, blockK, scopeK, pbound, pelems, PV.mem?, PV.one, PV.cells, peqs, peq1, pkeys, pkeyt, List.set, Value.cells, ↓popG_eq, ↓pop.eq_1, ↓List.getElem?_map, ↓List.getElem?_cons_zero, ↓List.getElem?_cons_succ, Value.oneCell', Nat.reduceAdd, Nat.reduceMul, Nat.reduceSub, Nat.reduceLeDiff, Nat.reduceEqDiff, ↓reduceIte, ne_eq, reduceCtorEq, forall_const, exists_and_left, exists_eq_left', eq_self, Nat.reduceLT, Int.reduceLT, Int.reduceLE, Int.reduceToNat, Int.reduceAdd, Int.reduceSub, Int.reduceNeg, hnm, Tryd.tf0, Tryd.tf1, Tryd.tf2, Tryd.tf3, Tryd.tf4, Tryd.tf9, Tryd.tf22, Tryd.tf23, Tryd.tf27, Tryd.tf37, Tryd.tf60, Tryd.tf75, Tryd.call16, Tryd.call42, Tryd.call43]); repeat (refine And.intro (by omega) ?_))
    | ((with_reducible first | apply WL_nil | apply W_label | apply W_skip | apply W_exit | apply W_ret); try simp only [seqK, blockK, scopeK, ↓reduceIte, Nat.reduceEqDiff])
    | (with_reducible apply pguard_intro <;> (intro hc; (try simp only [hcb, reduceCtorEq, forall_const, ne_eq] at hc); first | (exfalso; omega) | (exfalso; exact hc trivial) | refine Ev_in ?_))
    | (with_reducible apply W_cond_k; intro _ _ ea eb; (simp only [condK, cob, opnd, constPV, Nat.reduceEqDiff, Nat.reduceLT, ↓reduceIte, hcb, reduceCtorEq, forall_const, ne_eq]); subst ea eb; first | (refine ⟨fun hc => ?_, fun hc => ?_⟩ <;> first | (exfalso; omega) | (exfalso; exact hc trivial) | skip) | skip)
    | (with_reducible apply hnx; clear hnx nx)
    | (with_reducible refine And.intro (by omega) ?_)
    | (with_reducible refine And.intro ?_ ?_)
    | (with_reducible refine pcall_k (c1) ?_; rintro _ _ ⟨rfl, rfl⟩ -; refine Ev_in ?_)
    | (with_reducible refine pcall_k (c2) ?_; rintro _ _ ⟨rfl, rfl⟩ -; refine Ev_in ?_)
    | (clear hnx nx; with_reducible apply hnx; clear hnx nx)
    | (clear hnx nx; clear hnx nx; with_reducible apply hnx; clear hnx nx))
      all_goals first | exact absurd trivial hc | contradiction | exact fun h => False.elim h | (exfalso; omega) | (exfalso; have hc := of_decide_eq_false hc; omega) | (exfalso; simp only [Bool.not_false, Bool.not_true, decide_eq_true_eq, decide_eq_false_iff_not] at *; omega) | skip
      all_goals
        refine hfin _ _ (Fin_ret1 rfl (Sub_nil _) ?_); simp only [List.getD_cons_zero, List.getD_cons_succ, fr_getD_cons, fr_getD_nil, Nat.reduceEqDiff, Nat.reduceLT, ↓reduceIte]
        exact ⟨by first | rfl | trivial, by trivial⟩
    | true =>
      rw [hv] at c1
      rw [hk] at c2
      have c3 := measure_f G a f s bold ha (fun x hx => ⟨by have := valid_wid hv x hx; omega, (valid_wid hv x hx).2⟩) hf hk (by omega)
      have hmm := measF_mem (a := a) (f := f) (bold := bold) (s := s)
      have hml := measF_len (a := a) (f := f) (bold := bold) (s := s)
      generalize measF a f s bold = m at *
      obtain ⟨l, e⟩ := m
      simp only at *
      have hle := fitL_le (most := most) hmm
      (refine PCalls_f Tryd.func25 rfl Tryd.ntmps25 Tryd.results25 (by simp) fun fin hfin => ?_; have hnm : True := trivial; simp (maxSteps := 2000000) (disch := omega) only [evb, evd, eve, constPV, seqK, blockK, scopeK, pbound, pelems, PV.mem?, PV.one, PV.cells, peqs, peq1, pkeys, pkeyt, List.set, Value.cells, ↓popG_eq, ↓pop.eq_1, ↓List.getElem?_map, ↓List.getElem?_cons_zero, ↓List.getElem?_cons_succ, Value.oneCell', Nat.reduceAdd, Nat.reduceMul, Nat.reduceSub, Nat.reduceLeDiff, Nat.reduceEqDiff, ↓reduceIte, ne_eq, reduceCtorEq, forall_const, exists_and_left, exists_eq_left', eq_self, Nat.reduceLT, Int.reduceLT, Int.reduceLE, Int.reduceToNat, Int.reduceAdd, Int.reduceSub, Int.reduceNeg, hnm, Tryd.tf0, Tryd.tf1, Tryd.tf2, Tryd.tf3, Tryd.tf4, Tryd.tf9, Tryd.tf22, Tryd.tf23, Tryd.tf27, Tryd.tf37, Tryd.tf60, Tryd.tf75, Tryd.call16, Tryd.call42, Tryd.call43])
      repeat' (first
    | (with_reducible apply W_seq_k; intro nx hnx)
    | (with_reducible first | apply W_block | apply W_scope)
    | (with_reducible refine W_prune 120259206239 ?_; simp only [prb, Nat.reducePow, Nat.reduceDiv, Nat.reduceMod, Nat.reduceBEq]; with_reducible apply W_region_l)
    | ((first | (with_reducible apply WL_op; intro nx hnx) | with_reducible refine Ev_out ?_ | (with_reducible refine pfresh_k hnm fun nm hnm => ?_; (try simp only [fmb] at hnm)) | (with_reducible refine pborn_mu hnm fun nm hnm => ?_; (try simp only [fmb] at hnm))); try (simp (maxSteps := 2000000) (disch := omega) only [evb, evd, eve, constPV, seqK, blockK, scopeK, pbound, pelems, PV.mem?, PV.one, PV.cells, peqs, peq1, pkeys, pkeyt, List.set, Value.cells, ↓popG_eq, ↓pop.eq_1, ↓List.getElem?_map, ↓List.getElem?_cons_zero, ↓List.getElem?_cons_succ, Value.oneCell', Nat.reduceAdd, Nat.reduceMul, Nat.reduceSub, Nat.reduceLeDiff, Nat.reduceEqDiff, ↓reduceIte, ne_eq, reduceCtorEq, forall_const, exists_and_left, exists_eq_left', eq_self, Nat.reduceLT, Int.reduceLT, Int.reduceLE, Int.reduceToNat, Int.reduceAdd, Int.reduceSub, Int.reduceNeg, hnm, Tryd.tf0, Tryd.tf1, Tryd.tf2, Tryd.tf3, Tryd.tf4, Tryd.tf9, Tryd.tf22, Tryd.tf23, Tryd.tf27, Tryd.tf37, Tryd.tf60, Tryd.tf75, Tryd.call16, Tryd.call42, Tryd.call43]); repeat (refine And.intro (by omega) ?_))
    | ((with_reducible first | apply WL_nil | apply W_label | apply W_skip | apply W_exit | apply W_ret); try simp only [seqK, blockK, scopeK, ↓reduceIte, Nat.reduceEqDiff])
    | (with_reducible apply pguard_intro <;> (intro hc; (try simp only [hcb, reduceCtorEq, forall_const, ne_eq] at hc); first | (exfalso; omega) | (exfalso; exact hc trivial) | refine Ev_in ?_))
    | (with_reducible apply W_cond_k; intro _ _ ea eb; (simp only [condK, cob, opnd, constPV, Nat.reduceEqDiff, Nat.reduceLT, ↓reduceIte, hcb, reduceCtorEq, forall_const, ne_eq]); subst ea eb; first | (refine ⟨fun hc => ?_, fun hc => ?_⟩ <;> first | (exfalso; omega) | (exfalso; exact hc trivial) | skip) | skip)
    | (with_reducible apply hnx; clear hnx nx)
    | (with_reducible refine And.intro (by omega) ?_)
    | (with_reducible refine And.intro ?_ ?_)
    | (with_reducible refine pcall_k (c1) ?_; rintro _ _ ⟨rfl, rfl⟩ -; refine Ev_in ?_)
    | (with_reducible refine pcall_k (c2) ?_; rintro _ _ ⟨rfl, rfl⟩ -; refine Ev_in ?_)
    | (with_reducible refine pcall_k (c3) ?_; rintro _ _ ⟨rfl, rfl⟩ -; refine Ev_in ?_)
    | (clear hnx nx; with_reducible apply hnx; clear hnx nx)
    | (clear hnx nx; clear hnx nx; with_reducible apply hnx; clear hnx nx))
      all_goals first | exact absurd trivial hc | contradiction | exact fun h => False.elim h | (exfalso; omega) | (exfalso; have hc := of_decide_eq_false hc; omega) | (exfalso; simp only [Bool.not_false, Bool.not_true, decide_eq_true_eq, decide_eq_false_iff_not] at *; omega) | skip
      refine W_loop_k (fun z τ => ∃ i : Nat, i ≤ l.length ∧ z = l.length - i ∧ τ = ⟨fr 52 [(36, pn i), (35, pint .i64 l.length), (34, uP l), (14, pn (fitL most l i)), (11, eP l), (4, pint .i64 most), (2, pstr s)], []⟩) l.length
        ⟨fr 52 [(36, pn 0), (35, pint .i64 l.length), (34, uP l), (14, pn (fitL most l 0)), (11, eP l), (4, pint .i64 most), (2, pstr s)], []⟩ (by
        rw [show fitL most l 0 = 0 from rfl]
        exact Wk_fr (by simp only [wkb, Nat.reduceEqDiff, Nat.reduceLT, ↓reduceIte, pn]) (Sub_nil _)) ⟨0, by omega, by omega, rfl⟩ ?_
      rintro z τ ⟨i, hi, rfl, rfl⟩ lp hlp
      have hlei := hle i hi
      by_cases hil : i < l.length
      · have hst := fitL_step (most := most) hil
        have hget : l[i]? = some l[i] := List.getElem?_eq_getElem hil
        generalize fitL most l i = k at *
        repeat' (first
    | (with_reducible apply W_seq_k; intro nx hnx)
    | (with_reducible first | apply W_block | apply W_scope)
    | (with_reducible refine W_prune 120259206239 ?_; simp only [prb, Nat.reducePow, Nat.reduceDiv, Nat.reduceMod, Nat.reduceBEq]; with_reducible apply W_region_l)
    | ((first | (with_reducible apply WL_op; intro nx hnx) | with_reducible refine Ev_out ?_ | (with_reducible refine pfresh_k hnm fun nm hnm => ?_; (try simp only [fmb] at hnm)) | (with_reducible refine pborn_mu hnm fun nm hnm => ?_; (try simp only [fmb] at hnm))); try (simp (maxSteps := 2000000) (disch := omega) only [evb, evd, eve, constPV, seqK, blockK, scopeK, pbound, pelems, PV.mem?, PV.one, PV.cells, peqs, peq1, pkeys, pkeyt, List.set, Value.cells, ↓popG_eq, ↓pop.eq_1, ↓List.getElem?_map, ↓List.getElem?_cons_zero, ↓List.getElem?_cons_succ, Value.oneCell', Nat.reduceAdd, Nat.reduceMul, Nat.reduceSub, Nat.reduceLeDiff, Nat.reduceEqDiff, ↓reduceIte, ne_eq, reduceCtorEq, forall_const, exists_and_left, exists_eq_left', eq_self, Nat.reduceLT, Int.reduceLT, Int.reduceLE, Int.reduceToNat, Int.reduceAdd, Int.reduceSub, Int.reduceNeg, hnm, Tryd.tf0, Tryd.tf1, Tryd.tf2, Tryd.tf3, Tryd.tf4, Tryd.tf9, Tryd.tf22, Tryd.tf23, Tryd.tf27, Tryd.tf37, Tryd.tf60, Tryd.tf75, Tryd.call16, Tryd.call42, Tryd.call43, hget]); repeat (refine And.intro (by omega) ?_))
    | ((with_reducible first | apply WL_nil | apply W_label | apply W_skip | apply W_exit | apply W_ret); try simp only [seqK, blockK, scopeK, ↓reduceIte, Nat.reduceEqDiff])
    | (with_reducible apply pguard_intro <;> (intro hc; (try simp only [hcb, reduceCtorEq, forall_const, ne_eq] at hc); first | (exfalso; omega) | (exfalso; exact hc trivial) | refine Ev_in ?_))
    | (with_reducible apply W_cond_k; intro _ _ ea eb; (simp only [condK, cob, opnd, constPV, Nat.reduceEqDiff, Nat.reduceLT, ↓reduceIte, hcb, reduceCtorEq, forall_const, ne_eq]); subst ea eb; first | (refine ⟨fun hc => ?_, fun hc => ?_⟩ <;> first | (exfalso; omega) | (exfalso; exact hc trivial) | skip) | skip)
    | (with_reducible apply hnx; clear hnx nx)
    | (with_reducible refine And.intro (by omega) ?_)
    | (with_reducible refine And.intro ?_ ?_)
    | (clear hnx nx; with_reducible apply hnx; clear hnx nx)
    | (clear hnx nx; clear hnx nx; with_reducible apply hnx; clear hnx nx))
        all_goals first | exact absurd trivial hc | contradiction | exact fun h => False.elim h | (exfalso; omega) | (exfalso; have hc := of_decide_eq_false hc; omega) | (exfalso; simp only [Bool.not_false, Bool.not_true, decide_eq_true_eq, decide_eq_false_iff_not] at *; omega) | skip
        all_goals
          refine hlp _ (l.length - (i + 1)) ⟨fr 52 [(36, pn (i + 1)), (35, pint .i64 l.length), (34, uP l), (14, pn (fitL most l (i + 1))), (11, eP l), (4, pint .i64 most), (2, pstr s)], []⟩ (by omega) ?_ ⟨i + 1, by omega, rfl, rfl⟩
          rw [hst]
          first
            | (rw [if_pos hc]
               exact Wk_fr (by simp only [wkb, Nat.reduceEqDiff, Nat.reduceLT, ↓reduceIte, pn]) (Sub_nil _))
            | (rw [if_neg hc]
               exact Wk_fr (by simp only [wkb, Nat.reduceEqDiff, Nat.reduceLT, ↓reduceIte, pn]) (Sub_nil _))
      · have hi2 : i = l.length := by omega
        subst hi2
        generalize fitL most l l.length = k at *
        repeat' (first
    | (with_reducible apply W_seq_k; intro nx hnx)
    | (with_reducible first | apply W_block | apply W_scope)
    | (with_reducible refine W_prune 120259206239 ?_; simp only [prb, Nat.reducePow, Nat.reduceDiv, Nat.reduceMod, Nat.reduceBEq]; with_reducible apply W_region_l)
    | ((first | (with_reducible apply WL_op; intro nx hnx) | with_reducible refine Ev_out ?_ | (with_reducible refine pfresh_k hnm fun nm hnm => ?_; (try simp only [fmb] at hnm)) | (with_reducible refine pborn_mu hnm fun nm hnm => ?_; (try simp only [fmb] at hnm))); try (simp (maxSteps := 2000000) (disch := omega) only [evb, evd, eve, constPV, seqK, blockK, scopeK, pbound, pelems, PV.mem?, PV.one, PV.cells, peqs, peq1, pkeys, pkeyt, List.set, Value.cells, ↓popG_eq, ↓pop.eq_1, ↓List.getElem?_map, ↓List.getElem?_cons_zero, ↓List.getElem?_cons_succ, Value.oneCell', Nat.reduceAdd, Nat.reduceMul, Nat.reduceSub, Nat.reduceLeDiff, Nat.reduceEqDiff, ↓reduceIte, ne_eq, reduceCtorEq, forall_const, exists_and_left, exists_eq_left', eq_self, Nat.reduceLT, Int.reduceLT, Int.reduceLE, Int.reduceToNat, Int.reduceAdd, Int.reduceSub, Int.reduceNeg, hnm, Tryd.tf0, Tryd.tf1, Tryd.tf2, Tryd.tf3, Tryd.tf4, Tryd.tf9, Tryd.tf22, Tryd.tf23, Tryd.tf27, Tryd.tf37, Tryd.tf60, Tryd.tf75, Tryd.call16, Tryd.call42, Tryd.call43]); repeat (refine And.intro (by omega) ?_))
    | ((with_reducible first | apply WL_nil | apply W_label | apply W_skip | apply W_exit | apply W_ret); try simp only [seqK, blockK, scopeK, ↓reduceIte, Nat.reduceEqDiff])
    | (with_reducible apply pguard_intro <;> (intro hc; (try simp only [hcb, reduceCtorEq, forall_const, ne_eq] at hc); first | (exfalso; omega) | (exfalso; exact hc trivial) | refine Ev_in ?_))
    | (with_reducible apply W_cond_k; intro _ _ ea eb; (simp only [condK, cob, opnd, constPV, Nat.reduceEqDiff, Nat.reduceLT, ↓reduceIte, hcb, reduceCtorEq, forall_const, ne_eq]); subst ea eb; first | (refine ⟨fun hc => ?_, fun hc => ?_⟩ <;> first | (exfalso; omega) | (exfalso; exact hc trivial) | skip) | skip)
    | (with_reducible apply hnx; clear hnx nx)
    | (with_reducible refine And.intro (by omega) ?_)
    | (with_reducible refine And.intro ?_ ?_)
    | (clear hnx nx; with_reducible apply hnx; clear hnx nx)
    | (clear hnx nx; clear hnx nx; with_reducible apply hnx; clear hnx nx))
        all_goals first | exact absurd trivial hc | contradiction | exact fun h => False.elim h | (exfalso; omega) | (exfalso; have hc := of_decide_eq_false hc; omega) | (exfalso; simp only [Bool.not_false, Bool.not_true, decide_eq_true_eq, decide_eq_false_iff_not] at *; omega) | skip
        all_goals
          refine hfin _ _ (Fin_ret1 rfl (Sub_nil _) ?_); simp only [List.getD_cons_zero, List.getD_cons_succ, fr_getD_cons, fr_getD_nil, Nat.reduceEqDiff, Nat.reduceLT, ↓reduceIte]
          exact ⟨by first | rfl | trivial | simp, by trivial⟩
end Go.PM
