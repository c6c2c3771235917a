/- The pure machine, part v: what a function hands back is turned no more; nil slices as rows. Conditions: none. -/
import Derived.Test.YtaiflmbhciophaaPmu
set_option linter.unusedSimpArgs false
set_option linter.unusedVariables false
namespace Go.PM
open Go.RowKit

section
variable {P : Program} {G : Globs} {E : Amb} {A : Nat → Prop} {σ : PState} {a : Act} {w : World}

@[reducible] def frzH (n : Int) (cells : List PV) (H : Heap) : Heap := (del H n).map fun x => (x.1, { x.2 with cells := x.2.cells.map (frz1 n cells) })

def frzOk (n : Int) (cells : List PV) (H : Heap) : Prop := ∀ x ∈ del H n, ∀ u ∈ x.2.cells, (frz1 n cells u).one = true

theorem Sim.freeze (hs : Sim G E A σ a w) {n : Int} {o : PObj} (hI : n ∉ E.I) (hl : look σ.heap n = some o) (hone : frzOk n o.cells σ.heap) :
    Sim G E (fun b => A b ∨ (b : Int) = n) ⟨σ.frame.map (frz n o.cells), frzH n o.cells σ.heap⟩ a w := by
  have hob := hs.objs n o (look_mem hl)
  have hA : ∀ b, A b → (A b ∨ (b : Int) = n) := fun b h => .inl h
  have hn : ∀ b : Nat, n = b → (A b ∨ (b : Int) = n) := fun b h => .inr h.symm
  have hnn := names_del_not n σ.heap hs.nodup
  have hs2 := (hs.drop n).more (A' := fun b => A b ∨ (b : Int) = n) hA (fun b hb => by
    rcases hb with h | h
    · exact .inl h
    · obtain ⟨h1, h2, h3⟩ := hs.own n o (look_mem hl) b h.symm
      refine .inr ⟨h1, ?_, by rw [h]; exact hnn⟩
      rcases h3 with h3 | h3
      · exact h3
      · exact absurd (h ▸ h3 : n ∈ E.I) hI)
  have hnames : names (frzH n o.cells σ.heap) = names (del σ.heap n) := by
    simp [names, Function.comp_def]
  have hmem : ∀ m o', (m, o') ∈ frzH n o.cells σ.heap → ∃ o1, (m, o1) ∈ del σ.heap n ∧ o' = { o1 with cells := o1.cells.map (frz1 n o.cells) } := by
    intro m o' hm
    obtain ⟨⟨m1, o1⟩, h1, e⟩ := List.mem_map.1 hm
    cases e
    exact ⟨o1, h1, rfl⟩
  refine ⟨hs2.ext, hs2.lt, hs2.a0, hs2.a1, hs2.globs, ?_, fun m o' hm => ?_, fun m o' hm => ?_, fun m o' hm => ?_, hs2.defers, by simp [hs2.size], fun i p hp => ?_⟩
  · show (names _).Nodup
    rw [hnames]
    exact hs2.nodup
  · obtain ⟨o1, h1, rfl⟩ := hmem m o' hm
    rcases hs.objs m o1 (mem_del hs.nodup h1).2 with ⟨g1, g2, g3⟩ | ⟨b, cur, fz, f, rfl, q1, q2, q3, q4⟩
    · exact .inl ⟨g1, g2, by simp [g3]⟩
    · refine .inr ⟨b, cur, fz, f, rfl, q1, q2, q3, fun j u hu => ?_⟩
      simp only [List.getElem?_map] at hu
      cases hj : o1.cells[j]? with
      | none => rw [hj] at hu; cases hu
      | some q =>
        rw [hj] at hu
        cases hu
        exact ⟨(q4 j q hj).1, hone _ h1 q (List.mem_of_getElem? hj), frz1_rep hA hn hob (q4 j q hj).2.2⟩
  · obtain ⟨o1, h1, rfl⟩ := hmem m o' hm
    exact hs2.own m o1 h1
  · obtain ⟨o1, h1, rfl⟩ := hmem m o' hm
    exact hs2.neg m o1 h1
  · simp only [List.getElem?_map] at hp
    cases hj : σ.frame[i]? with
    | none => rw [hj] at hp; cases hp
    | some q =>
      rw [hj] at hp
      cases hp
      obtain ⟨v, hv, hr⟩ := hs.frame i q hj
      exact ⟨v, hv, frz_rep hA hn hob hr⟩

/-- One object after the other is turned no more; an object may be forgotten. -/
inductive Frz : PV → Heap → PV → Heap → Prop
  | refl (p : PV) (H : Heap) : Frz p H p H
  | step {p p' : PV} {H H' : Heap} (n : Int) (o : PObj) (hl : look H n = some o) (hone : frzOk n o.cells H) (h : Frz (frz n o.cells p) (frzH n o.cells H) p' H') : Frz p H p' H'
  | sub {p p' : PV} {H H1 H' : Heap} (hs : Sub H1 H) (h : Frz p H1 p' H') : Frz p H p' H'

theorem Sim.frz {A' : Nat → Prop} {p p' : PV} {H H' : Heap} (h : Frz p H p' H') : ∀ {A : Nat → Prop} {v : Value}, E.I = [] → Sim G E A ⟨[], H⟩ a w → Rep w A p v → ∃ A', Sim G E A' ⟨[], H'⟩ a w ∧ Rep w A' p' v := by
  induction h with
  | refl p H => intro A v _ hs hr; exact ⟨A, hs, hr⟩
  | step n o hl hone _ ih =>
    intro A v hI hs hr
    have h1 := hs.freeze (n := n) (o := o) (by rw [hI]; simp) hl hone
    exact ih hI h1 (frz_rep (fun b h => .inl h) (fun b h => .inr h.symm) (hs.objs n o (look_mem hl)) hr)
  | sub hsub _ ih =>
    intro A v hI hs hr
    exact ih hI (hs.sub hsub) hr

theorem PCalls.frz {f : FuncId} {args : List PV} {R R' : PV → Heap → Prop} (h : PCalls P G f args [] R) (hr : ∀ res H, R res H → ∃ res' H', Frz res H res' H' ∧ R' res' H') : PCalls P G f args [] R' := by
  intro w A F vals h1 h2 h3 h4 h5 h6 h7
  refine (h w A F vals h1 h2 h3 h4 h5 h6 h7).mono ?_
  rintro e w' ⟨v, A', res, Hout, he, hR, hrep, hs⟩
  obtain ⟨res', H', hf, hR'⟩ := hr _ _ hR
  obtain ⟨A2, hs2, hrep2⟩ := Sim.frz (A' := A') hf rfl hs hrep
  exact ⟨v, A2, res', H', he, hR', hrep2, hs2⟩

/-- one row handed back -/
theorem PCalls.frz_row {f : FuncId} {args : List PV} {R : PV → Heap → Prop} {xs : List PV} (h : PCalls P G f args [] R) (hr : ∀ res H, R res H → ∃ n ty, res = .row n 1 xs.length ∧ H = [(n, ⟨ty, true, 1, xs⟩)]) :
    PCalls P G f args [] (fun res H => res = .list 1 xs ∧ H = []) := by
  refine h.frz fun res H hR => ?_
  obtain ⟨n, ty, rfl, rfl⟩ := hr res H hR
  refine ⟨_, _, .step n ⟨ty, true, 1, xs⟩ (by simp [look]) (by simp [frzOk, del]) (.refl _ _), ?_, ?_⟩
  · simp [PM.frz, frz1, elemsOf]
  · simp [frzH, del]

/-- A function, its end out of sight. -/
theorem PCalls_k {f : FuncId} {fn : Func} {c : Code} {n : Nat} {rs : List ResultVar} {args : List PV} {Hin : Heap} {R : PV → Heap → Prop} (hf : P.funcs[f]? = some fn) (hb : fn.body = some c) (hn : fn.ntmps = n) (hrs : fn.results = rs.toArray)
    (h : ∀ fin : Exit → PState → Prop, (∀ e σ, Fin P rs R e σ → fin e σ) → W P G (Hin.map (·.1)) c ⟨args ++ List.replicate (n - args.length) .junk, Hin⟩ fin) : PCalls P G f args Hin R :=
  PCalls_of_W hf hb hn hrs (h _ fun _ _ h => h)
theorem bl_lit (l : List UInt8) : bl { data := l.toArray } = l := by simp [bl]
end
end Go.PM
