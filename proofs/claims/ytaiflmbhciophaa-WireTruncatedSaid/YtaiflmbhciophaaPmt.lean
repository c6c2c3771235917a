/- The pure machine, part t: small rules for the ends of functions. Conditions: none. -/
import Derived.Test.YtaiflmbhciophaaPms
set_option linter.unusedSimpArgs false
set_option linter.unusedVariables false
namespace Go.PM
open Go.RowKit

theorem Fin_ret1 {P : Program} {t : Tmp} {R : PV → Heap → Prop} {σ : PState} {res : PV} {H : Heap} (h1 : σ.frame.getD t .junk = res) (h2 : Sub H σ.heap) (h3 : R res H) : Fin P [.tmp t] R .ret σ :=
  Fin_ret (show PResult P σ [.tmp t] res from h1.symm) h2 h3

theorem Fin_ret2 {P : Program} {t u : Tmp} {R : PV → Heap → Prop} {σ : PState} {p q : PV} {H : Heap} (h1 : σ.frame.getD t .junk = p) (h1' : σ.frame.getD u .junk = q) (h2 : Sub H σ.heap) (h3 : R (.tuple [p, q]) H) : Fin P [.tmp t, .tmp u] R .ret σ :=
  Fin_ret (show PResult P σ [.tmp t, .tmp u] (.tuple [p, q]) from ⟨[p, q], ⟨h1.symm, h1'.symm, trivial⟩, rfl⟩) h2 h3

theorem Fin_ret3 {P : Program} {t u v : Tmp} {R : PV → Heap → Prop} {σ : PState} {p q r : PV} {H : Heap} (h1 : σ.frame.getD t .junk = p) (h1' : σ.frame.getD u .junk = q) (h1'' : σ.frame.getD v .junk = r) (h2 : Sub H σ.heap) (h3 : R (.tuple [p, q, r]) H) :
    Fin P [.tmp t, .tmp u, .tmp v] R .ret σ :=
  Fin_ret (show PResult P σ [.tmp t, .tmp u, .tmp v] (.tuple [p, q, r]) from ⟨[p, q, r], ⟨h1.symm, h1'.symm, h1''.symm, trivial⟩, rfl⟩) h2 h3

theorem map_getD {α : Type} (f : α → PV) (xs : List α) (i : Nat) (h : i < xs.length) : (xs.map f).getD i .junk = f xs[i] := by
  simp [List.getD_eq_getElem?_getD, h]

theorem W_loop_k {P : Program} {G : Globs} {σ : PState} {c : Code} {K : Exit → PState → Prop} {I : List Int} (R : Nat → PState → Prop) (n0 : Nat) (τ0 : PState) (hw : Wk σ τ0) (h0 : R n0 τ0)
    (round : ∀ n τ, R n τ → ∀ lp : PState → Prop, (∀ σ'' n' τ', n' < n → Wk σ'' τ' → R n' τ' → lp σ'') → W P G I c τ (seqK lp K)) : W P G I (.loop c) σ K :=
  W_loopW R n0 τ0 hw h0 fun n τ hR => round n τ hR _ fun _ n' τ' h1 h2 h3 => ⟨n', τ', h1, h2, h3⟩

/-- A call by contract. -/
theorem pcall_k {q : Bool} {P : Program} {G : Globs} {σ : PState} {fn : FuncId} {args : List PV} {R : PV → Heap → Prop} {d : Option Tmp} {K : PState → Prop} (hc : PCalls P G fn args [] R)
    (hk : ∀ res Hout, R res Hout → (∀ n ∈ names Hout, n ∉ names σ.heap) → K (PState.put ⟨σ.frame, Hout ++ σ.heap⟩ d res)) : @pcallI q P G σ d fn args ⟨K⟩ :=
  pcall_plain hc hk
end Go.PM
