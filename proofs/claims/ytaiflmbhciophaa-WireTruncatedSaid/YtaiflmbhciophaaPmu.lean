/- The pure machine, part u: how it is looked at: the state ahead of what follows. Conditions: none. -/
import Derived.Test.YtaiflmbhciophaaPmt
set_option linter.unusedSimpArgs false
set_option linter.unusedVariables false
namespace Go.PM

/- What is looked at ahead of what follows. -/
@[congr] theorem pbin_congr {op : BinOp} {x : PV} {y : PV} {K : PV → Prop} {x' : PV} {y' : PV} (h_x : x = x') (h_y : y = y') : pbin op x y K = pbin op x' y' K := by
  subst h_x
  subst h_y
  rfl
@[congr] theorem pun_congr {op : UnOp} {x : PV} {K : PV → Prop} {x' : PV} (h_x : x = x') : pun op x K = pun op x' K := by
  subst h_x
  rfl
@[congr] theorem pload_congr {F : TF} {cs : List PV} {off : Nat} {K : PV → Prop} {F' : TF} {cs' : List PV} {off' : Nat} (h_F : F = F') (h_cs : cs = cs') (h_off : off = off') : pload F cs off K = pload F' cs' off' K := by
  subst h_F
  subst h_cs
  subst h_off
  rfl
@[congr] theorem pldop_congr {P : Program} {H : Heap} {t : TypeId} {x : PV} {K : PV → Prop} {H' : Heap} {x' : PV} (h_H : H = H') (h_x : x = x') : pldop P H t x K = pldop P H' t x' K := by
  subst h_H
  subst h_x
  rfl
@[congr] theorem pfaddr_congr {P : Program} {t : TypeId} {x : PV} {k : Nat} {K : PV → Prop} {x' : PV} (h_x : x = x') : pfaddr P t x k K = pfaddr P t x' k K := by
  subst h_x
  rfl
@[congr] theorem piaddr_congr {P : Program} {t : TypeId} {x : PV} {i : PV} {K : PV → Prop} {x' : PV} {i' : PV} (h_x : x = x') (h_i : i = i') : piaddr P t x i K = piaddr P t x' i' K := by
  subst h_x
  subst h_i
  rfl
@[congr] theorem plen_congr {P : Program} {t : TypeId} {x : PV} {K : PV → Prop} {x' : PV} (h_x : x = x') : plen P t x K = plen P t x' K := by
  subst h_x
  rfl
@[congr] theorem pfield_congr {P : Program} {t : TypeId} {x : PV} {k : Nat} {K : PV → Prop} {x' : PV} (h_x : x = x') : pfield P t x k K = pfield P t x' k K := by
  subst h_x
  rfl
@[congr] theorem pindex_congr {P : Program} {t : TypeId} {x : PV} {i : PV} {K : PV → Prop} {x' : PV} {i' : PV} (h_x : x = x') (h_i : i = i') : pindex P t x i K = pindex P t x' i' K := by
  subst h_x
  subst h_i
  rfl
@[congr] theorem pslice_congr {P : Program} {t : TypeId} {x : PV} {lo : Option PV} {hi : Option PV} {mx : Option PV} {K : PV → Prop} {x' : PV} {lo' : Option PV} {hi' : Option PV} {mx' : Option PV} (h_x : x = x') (h_lo : lo = lo') (h_hi : hi = hi') (h_mx : mx = mx') : pslice P t x lo hi mx K = pslice P t x' lo' hi' mx' K := by
  subst h_x
  subst h_lo
  subst h_hi
  subst h_mx
  rfl
@[congr] theorem pconv_congr {P : Program} {H : Heap} {src : TypeId} {dst : TypeId} {x : PV} {K : PV → Prop} {H' : Heap} {x' : PV} (h_H : H = H') (h_x : x = x') : pconv P H src dst x K = pconv P H' src dst x' K := by
  subst h_H
  subst h_x
  rfl
@[congr] theorem pextract_congr {x : PV} {k : Nat} {K : PV → Prop} {x' : PV} (h_x : x = x') : pextract x k K = pextract x' k K := by
  subst h_x
  rfl
@[congr] theorem ppick_congr {c : PV} {a : PV} {b : PV} {K : PV → Prop} {c' : PV} {a' : PV} {b' : PV} (h_c : c = c') (h_a : a = a') (h_b : b = b') : ppick c a b K = ppick c' a' b' K := by
  subst h_c
  subst h_a
  subst h_b
  rfl
@[congr] theorem pmm_congr {mn : Bool} {xs : List PV} {K : PV → Prop} {xs' : List PV} (h_xs : xs = xs') : pmm mn xs K = pmm mn xs' K := by
  subst h_xs
  rfl
@[congr] theorem parr_congr {P : Program} {t : TypeId} {x : PV} {K : PV → Prop} {x' : PV} (h_x : x = x') : parr P t x K = parr P t x' K := by
  subst h_x
  rfl
@[congr] theorem pbuild_congr {P : Program} {t : TypeId} {parts : List (Nat × PV)} {K : PV → Prop} {parts' : List (Nat × PV)} (h_parts : parts = parts') : pbuild P t parts K = pbuild P t parts' K := by
  subst h_parts
  rfl
@[congr] theorem pageq_congr {P : Program} {neg : Bool} {t : TypeId} {x : PV} {y : PV} {K : PV → Prop} {x' : PV} {y' : PV} (h_x : x = x') (h_y : y = y') : pageq P neg t x y K = pageq P neg t x' y' K := by
  subst h_x
  subst h_y
  rfl
@[congr] theorem pnck_congr {x : PV} {K : PV → Prop} {x' : PV} (h_x : x = x') : pnck x K = pnck x' K := by
  subst h_x
  rfl
@[congr] theorem pbox_congr {σ : PState} {d : Option Tmp} {t : TypeId} {x : PV} {K : PState → Prop} {σ' : PState} {x' : PV} (h_σ : σ = σ') (h_x : x = x') : pbox σ d t x K = pbox σ' d t x' K := by
  subst h_σ
  subst h_x
  rfl
@[congr] theorem palloc_congr {P : Program} {σ : PState} {d : Option Tmp} {t : TypeId} {K : PState → Prop} {σ' : PState} (h_σ : σ = σ') : palloc P σ d t K = palloc P σ' d t K := by
  subst h_σ
  rfl
@[congr] theorem pmakes_congr {P : Program} {σ : PState} {d : Option Tmp} {t : TypeId} {l : PV} {c : PV} {K : PState → Prop} {σ' : PState} {l' : PV} {c' : PV} (h_σ : σ = σ') (h_l : l = l') (h_c : c = c') : pmakes P σ d t l c K = pmakes P σ' d t l' c' K := by
  subst h_σ
  subst h_l
  subst h_c
  rfl
@[congr] theorem pstore_congr {P : Program} {σ : PState} {d : Option Tmp} {t : TypeId} {x : PV} {v : PV} {K : PState → Prop} {σ' : PState} {x' : PV} {v' : PV} (h_σ : σ = σ') (h_x : x = x') (h_v : v = v') : pstore P σ d t x v K = pstore P σ' d t x' v' K := by
  subst h_σ
  subst h_x
  subst h_v
  rfl
@[congr] theorem pappend_congr {P : Program} {σ : PState} {d : Option Tmp} {t : TypeId} {u : TypeId} {s : PV} {x : PV} {K : PState → Prop} {σ' : PState} {s' : PV} {x' : PV} (h_σ : σ = σ') (h_s : s = s') (h_x : x = x') : pappend P σ d t u s x K = pappend P σ' d t u s' x' K := by
  subst h_σ
  subst h_s
  subst h_x
  rfl
@[congr] theorem pcopy_congr {P : Program} {σ : PState} {d : Option Tmp} {t : TypeId} {u : TypeId} {s : PV} {x : PV} {K : PState → Prop} {σ' : PState} {s' : PV} {x' : PV} (h_σ : σ = σ') (h_s : s = s') (h_x : x = x') : pcopy P σ d t u s x K = pcopy P σ' d t u s' x' K := by
  subst h_σ
  subst h_s
  subst h_x
  rfl
@[congr] theorem pbytes_congr {P : Program} {σ : PState} {d : Option Tmp} {src : TypeId} {dst : TypeId} {x : PV} {K : PState → Prop} {σ' : PState} {x' : PV} (h_σ : σ = σ') (h_x : x = x') : pbytes P σ d src dst x K = pbytes P σ' d src dst x' K := by
  subst h_σ
  subst h_x
  rfl
@[congr] theorem pbuildS_congr {P : Program} {σ : PState} {d : Option Tmp} {t : TypeId} {len : Nat} {parts : List (Nat × PV)} {K : PState → Prop} {σ' : PState} {parts' : List (Nat × PV)} (h_σ : σ = σ') (h_parts : parts = parts') : pbuildS P σ d t len parts K = pbuildS P σ' d t len parts' K := by
  subst h_σ
  subst h_parts
  rfl
@[congr] theorem pcall_congr {q : Bool} {P : Program} {G : Globs} {σ : PState} {d : Option Tmp} {fn : FuncId} {args : List PV} {K : PState → Prop} {σ' : PState} {args' : List PV} (h_σ : σ = σ') (h_args : args = args') : pcall q P G σ d fn args K = pcall q P G σ' d fn args' K := by
  subst h_σ
  subst h_args
  rfl
@[congr] theorem pbuiltin_congr {q : Bool} {P : Program} {G : Globs} {d : Option Tmp} {b : Builtin} {args : List Operand} {ts : List TypeId} {σ : PState} {K : PState → Prop} {σ' : PState} (h_σ : σ = σ') : pbuiltin q P G d b args ts σ K = pbuiltin q P G d b args ts σ' K := by
  subst h_σ
  rfl
@[congr] theorem pop_congr {q : Bool} {P : Program} {G : Globs} {o : Oper} {σ : PState} {K : PState → Prop} {σ' : PState} (h_σ : σ = σ') : pop q P G o σ K = pop q P G o σ' K := by
  subst h_σ
  rfl
@[congr] theorem pops_congr {q : Bool} {P : Program} {G : Globs} {ds : List (Option Tmp)} {l : List Oper} {σ : PState} {K : PState → Prop} {ds' : List (Option Tmp)} {σ' : PState} (h_ds : ds = ds') (h_σ : σ = σ') : pops q P G ds l σ K = pops q P G ds' l σ' K := by
  subst h_ds
  subst h_σ
  rfl
@[congr] theorem popsD_congr {P : Program} {G : Globs} {ds : List (Option Tmp)} {l : List Oper} {L : Plan} {σ : PState} {K : PState → Prop} {ds' : List (Option Tmp)} {σ' : PState} (h_ds : ds = ds') (h_σ : σ = σ') : popsD P G ds l L σ K = popsD P G ds' l L σ' K := by
  subst h_ds
  subst h_σ
  rfl
@[congr] theorem W_congr {P : Program} {G : Globs} {I : List Int} {c : Code} {σ : PState} {K : Exit → PState → Prop} {σ' : PState} (h_σ : σ = σ') : W P G I c σ K = W P G I c σ' K := by
  subst h_σ
  rfl

theorem pfresh_k {l : List Int} {k : Int → Prop} {C : Prop} (hc : C) (h : ∀ n : Int, (C ∧ ∀ x ∈ l, n ≠ x ∧ x ≠ n) → k n) : @pfresh l ⟨k⟩ :=
  fun n hn => h n ⟨hc, fun _ hx => ⟨fun e => hn (e ▸ hx), fun e => hn (e ▸ hx)⟩⟩
theorem pguard_tt (x y : Prop) : @pguard true true ⟨x, y⟩ = x := by simp [pguard]
theorem pguard_tf (x y : Prop) : @pguard true false ⟨x, y⟩ = y := by simp [pguard]
theorem pguard_ft (x y : Prop) : @pguard false true ⟨x, y⟩ = y := by simp [pguard]
theorem pguard_ff (x y : Prop) : @pguard false false ⟨x, y⟩ = x := by simp [pguard]
theorem pguard_intro {b want : Bool} {x y : Prop} (hx : b = want → x) (hy : b = (!want) → y) : @pguard b want ⟨x, y⟩ := ⟨hx, hy⟩
end Go.PM
