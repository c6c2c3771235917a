/- The pure machine, part r: small rules for evaluation. Conditions: none. -/
import Derived.Test.YtaiflmbhciophaaPmq
set_option linter.unusedSimpArgs false
set_option linter.unusedVariables false
namespace Go.PM
open Go.RowKit

theorem W_seq_k {P : Program} {G : Globs} {x y : Code} {σ : PState} {K : Exit → PState → Prop} {I : List Int} (h : ∀ next : PState → Prop, (∀ σ', W P G I y σ' K → next σ') → W P G I x σ (seqK next K)) : W P G I (.seq x y) σ K :=
  W_seq (h _ fun _ h => h)

def condK (p : PV) (a b : Prop) : Prop :=
  match p with
  | .val (.bool t) => (t = true → a) ∧ (t = false → b)
  | _ => False

theorem W_cond_k {P : Program} {G : Globs} {x y : Code} {σ : PState} {K : Exit → PState → Prop} {I : List Int} {o : Operand}
    (h : ∀ a b : Prop, (a = W P G I x σ K) → (b = W P G I y σ K) → condK (opnd G σ.frame o) a b) : W P G I (.cond o x y) σ K := by
  have h' := h _ _ rfl rfl
  unfold condK at h'
  split at h'
  · rename_i t ht
    exact W_cond ht h'.1 h'.2
  · exact h'.elim

theorem wr64 (x : Int) (h1 : -9223372036854775808 ≤ x) (h2 : x ≤ 9223372036854775807) : IntKind.i64.wrap x = x := IntWalk.i64_in x ⟨h1, h2⟩
theorem toNat_sub1 (k : Nat) : ((k : Int) - 1).toNat = k - 1 := by omega
theorem toNat_add1 (k : Nat) : ((k : Int) + 1).toNat = k + 1 := by omega

/-- the end of a function -/
theorem Fin_ret {P : Program} {rs : List ResultVar} {R : PV → Heap → Prop} {σ : PState} {res : PV} {H : Heap} (h1 : PResult P σ rs res) (h2 : Sub H σ.heap) (h3 : R res H) : Fin P rs R .ret σ := ⟨trivial, res, H, h1, h2, h3⟩
theorem Fin_normal {P : Program} {rs : List ResultVar} {R : PV → Heap → Prop} {σ : PState} {res : PV} {H : Heap} (h1 : PResult P σ rs res) (h2 : Sub H σ.heap) (h3 : R res H) : Fin P rs R .normal σ := ⟨trivial, res, H, h1, h2, h3⟩
theorem Sub_nil (H : Heap) : Sub [] H := ⟨by simp, by simp [names]⟩
theorem Sub_refl {H : Heap} (h : (names H).Nodup) : Sub H H := ⟨fun _ h => h, h⟩
end Go.PM
