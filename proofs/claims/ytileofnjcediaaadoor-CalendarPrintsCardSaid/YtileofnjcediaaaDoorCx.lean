/- What came in to a law of days, as lists; the table that the row lists, as memory that nobody turns. Conditions: none but those that each names. -/
import Derived.Test.YtileofnjcediaaaDoorRows
import Derived.Test.YtileofnjcediaaaDoorDr
import Derived.Test.YtileofnjcediaaaDoorCb
import Derived.Lib.LaidTab
import Derived.MakeChecks
import Derived.OpenShut
import Derived.SliceStrings
set_option linter.unusedSimpArgs false
set_option linter.unusedVariables false
namespace Go.PM
open Go.Proofs Go.RowKit Go.ChangeShapes Go.WideShapes

/-- What the row lists, a variable at a time. -/
theorem listed {P : Program} {w : World} (n : String) (d : DataW Unit) : ∀ (l : List (String × DataW Unit)) (ps : List MemPlace), DataW.LaidVars P w l ps → (n, d) ∈ l →
    ∃ g t cs fuel p, P.globalNamed n = some g ∧ (P.globals[g]?).map (·.type) = some t ∧ w.var? P n = some cs ∧ DataW.trod (fun _ => ()) P w 0 (fun _ => true) false fuel t cs.toList = some (d, p) := by
  intro l
  induction l with
  | nil => intro _ _ hm; cases hm
  | cons y r ih =>
    rintro ps ⟨g, t, cs, fuel, p, q, a1, a2, a3, a4, a5, _⟩ hm
    cases hm with
    | head => exact ⟨g, t, cs, fuel, p, a1, a2, a3, a4⟩
    | tail _ hm => exact ih q a5 hm

/-- The numbers of the table. -/
def lnI : List Int := [31, 28, 31, 30, 31, 30, 31, 31, 30, 31, 30, 31]
theorem LN_eq : LN = lnI.map (pint .i64) := rfl
theorem ln_rep {w : World} {l : List (String × DataW Unit)} {n : String} {g : Nat} {t e : TypeId} (h : laidMet Tryd.prog l w) (hm : (n, Lib.tabData .i64 lnI) ∈ l) (hg : Tryd.prog.globalNamed n = some g) (hty : (Tryd.prog.globals[g]?).map (·.type) = some t)
    (ht : Tryd.prog.underlying t = some (.array 12 e)) (he : Tryd.prog.underlying e = some (.int .i64)) (hce : Tryd.prog.cellsOf e = 1) (hct : Tryd.prog.cellsOf t = 12) :
    Rep w (fun b => b < w.heap.size) (.iptr LN 0) (.pointer (some (at_ g 0))) := by
  obtain ⟨ps, hps, _⟩ := h
  obtain ⟨g', t', cs, fuel, p, hg', ht', hv, hd⟩ := listed n _ l ps hps hm
  obtain rfl := Option.some.inj (hg.symm.trans hg')
  obtain rfl := Option.some.inj (hty.symm.trans ht')
  have hc := Lib.cells_of_tab ht he hce hct hd
  have cell : ∀ i (x : Int), lnI[i]? = some x → w.cell? (at_ g i) = some (.int .i64 x) := by
    intro i x hx
    have h1 := World.var?_cell hg hv i
    rw [show at_ g i = ⟨g, i, none⟩ from rfl, h1, ← Array.getElem?_toList, hc, List.getElem?_map, hx]
    rfl
  have hlt : g < w.heap.size := cell_lt (cell 0 _ rfl)
  rw [LN_eq]
  exact Rep.iptr (lnI.map (pint .i64)) g 0 0 (fun j => .int .i64 (lnI.getD j 0)) hlt (fun j u hu => by
    rw [List.getElem?_map] at hu
    obtain ⟨x, hx, rfl⟩ := Option.map_eq_some_iff.1 hu
    rw [Nat.zero_add, cell j x hx, List.getD_eq_getElem?_getD, hx]
    rfl) (fun j u hu => by
    rw [List.getElem?_map] at hu
    obtain ⟨x, hx, rfl⟩ := Option.map_eq_some_iff.1 hu
    rw [List.getD_eq_getElem?_getD, hx]
    exact .val _)

/-- The program's variables: those of the list hold the table. -/
def globsK (l : List Nat) : Globs := fun g => if g ∈ l then .iptr LN 0 else .val (.pointer (some (at_ g 0)))
theorem globsK_rep {w : World} (l : List Nat) (h : ∀ g ∈ l, Rep w (fun b => b < w.heap.size) (.iptr LN 0) (.pointer (some (at_ g 0)))) (g : Nat) : Rep w (fun b => b < w.heap.size) (globsK l g) (.pointer (some (at_ g 0))) := by
  unfold globsK
  split
  · exact h g ‹_›
  · exact .val _

/-- a function that answers true -/
theorem calls_trueG {P : Program} {G : Globs} {f : FuncId} {args : List PV} {w : World} {vals : Array Value} (h : PCalls P G f args [] (fun res H => res = pbool true ∧ H = [])) (hG : ∀ g, Rep w (fun b => b < w.heap.size) (G g) (.pointer (some (at_ g 0))))
    (hs : vals.size = args.length) (hr : ∀ (i : Nat) (p : PV), args[i]? = some p → ∃ v : Value, vals[i]? = some v ∧ Rep w (fun b => b < w.heap.size) p v) :
    Calls P f vals w fun e w' => e = .returned (.bool true) ∧ Below w.heap.size w w' := by
  refine (h w (fun b => b < w.heap.size) [] vals (fun _ h => h) hG (by simp) (by simp) (by simp) hs hr).mono ?_
  rintro e w' ⟨v, A', res, Hout, rfl, ⟨rfl, rfl⟩, hrep, hs'⟩
  rw [hrep.val_eq]
  exact ⟨rfl, hs'.ext.below (Nat.le_refl _)⟩
end Go.PM
