/- What came in to a law of hashes, as lists; the tables that the row lists, as memory that nobody turns. Conditions: none but those that each names. -/
import Derived.Test.YtoekafodjjeboaaDoorRows
import Derived.Test.YtoekafodjjeboaaDoorDr
import Derived.Test.YtoekafodjjeboaaDoorHc
import Derived.Lib.LaidTab
import Derived.MakeChecks
import Derived.OpenShut
import Derived.SliceStrings
set_option linter.unusedSimpArgs false
set_option linter.unusedVariables false
namespace Go.PM
open Go.Proofs Go.RowKit Go.ChangeShapes Go.WideShapes

def bytesOf (zs : List Int) (len : Nat) : List UInt8 := (zs.take len).map fun n => UInt8.ofNat n.toNat
theorem IsRow.repB {w : World} {a : Option Addr} {len cap : Nat} {zs : List Int} (h : IsRow .u8 w a len cap zs) :
    Rep w (fun b => b < w.heap.size) (.list 1 ((bytesOf zs len).map pbyte)) (.slice a len cap) ∧ ((bytesOf zs len).length : Int) ≤ 9223372036854775807 := by
  rcases h with ⟨rfl, rfl, rfl, rfl⟩ | ⟨x, rfl, hl, hm, hz, hcell, hwf⟩
  · exact ⟨.nil _ _ _, by simp [bytesOf]⟩
  · have hlen : (zs.take len).length = len := by rw [List.length_take]; omega
    have hb : ∀ n ∈ zs.take len, ((UInt8.ofNat n.toNat).toNat : Int) = n := by
      intro n hn
      have h2 := bounds_u8 (hwf n (List.mem_of_mem_take hn))
      rw [UInt8.toNat_ofNat_of_lt' (show _ < 256 by omega)]
      omega
    have e : (bytesOf zs len).map pbyte = (zs.take len).map fun n => PV.val (.int .u8 n) := by
      unfold bytesOf
      rw [List.map_map]
      refine List.map_congr_left fun n hn => ?_
      simp only [Function.comp_apply, pbyte, hb n hn]
    rw [e]
    refine ⟨rep_vals (.int .u8) (fun _ => rfl) _ hlen hl fun i hi => ?_, ?_⟩
    · rw [hcell i (by omega), List.getElem_take, List.getD_eq_getElem?_getD, List.getElem?_eq_getElem (by omega)]
      rfl
    · unfold bytesOf
      rw [List.length_map, hlen]
      have : maxLen = 9223372036854775807 := by decide
      omega

theorem open_texts0 {H : Type} {enc : TypeId × Value → H} {w : World} {fuel : Nat} {t e : TypeId} {a0 : Option Addr} {len cap : Nat} {x : DataW H × List MemPlace} (ht : Tryd.prog.underlying t = some (.slice e)) (he : Tryd.prog.underlying e = some .string) (hc : Tryd.prog.cellsOf e = 1)
    (h : DataW.trod enc Tryd.prog w 0 (fun _ => true) true fuel t [.slice a0 len cap] = some x) :
    ∃ l : List (List UInt8), Rep w (fun b => b < w.heap.size) (.list 1 (l.map pstr)) (.slice a0 len cap) ∧ (l.length : Int) ≤ 9223372036854775807 := by
  rcases open_strings ht he hc h with ⟨hn, hy⟩ | ⟨a2, l2, cap2, ss, hn, _, hl2, hm2, hz, hy, hc2, hw2⟩
  · cases hn
    exact ⟨[], .nil _ _ _, by simp⟩
  · cases hn
    have ht : IsTexts w (some a2) len cap ss := .inr ⟨a2, rfl, hl2, hm2, by simpa using hz, hc2, hw2⟩
    exact ⟨(ss.take len).map bl, ht.rep.1, ht.rep.2.1⟩

theorem pbyte_of {a : Int} (h : (Lit.int .u8 a).wf = true) : pbyte (UInt8.ofNat a.toNat) = .val (.int .u8 a) := by
  have h2 := bounds_u8 h
  unfold pbyte pint
  rw [UInt8.toNat_ofNat_of_lt' (show _ < 256 by omega)]
  congr 2
  omega

/-- An array of two bytes that came in. -/
theorem open_pair {H : Type} {enc : TypeId × Value → H} {w : World} {t e : TypeId} {r : Reach} {base : Nat} {v : Value} {d : DataW H} {p : List MemPlace} (ht : Tryd.prog.underlying t = some (.array 2 e)) (he : Tryd.prog.underlying e = some (.int .u8)) (hc : Tryd.prog.cellsOf e = 1) (hct : Tryd.prog.cellsOf t = 2)
    (hv : Value.okWide Tryd.prog w r base t v) (h : DataW.Trod enc Tryd.prog w 0 (fun _ => true) true t v d p) : ∃ a b : UInt8, v = .agg #[.int .u8 a.toNat, .int .u8 b.toNat] := by
  simp only [Value.okWide, ht] at hv
  obtain ⟨cs, rfl, _, _⟩ := hv
  obtain ⟨fuel, hf⟩ := h
  obtain ⟨xs, m, rfl, _, hl, hn, hel⟩ := DataW.trod_array ht hf
  have hb : ∀ i, i < 2 → ∃ a : UInt8, cs.toList[i]? = some (.int .u8 a.toNat) := by
    intro i hi
    have h1 := hel i hi
    rw [hc, List.getElem?_eq_getElem (by omega)] at h1
    obtain ⟨a, ha, _, hwf⟩ := DataW.trod_int he h1
    have h2 := bounds_u8 hwf
    refine ⟨UInt8.ofNat a.toNat, ?_⟩
    have h3 := congrArg (fun l => l[0]?) ha
    simp only [List.getElem?_take, Nat.zero_lt_one, if_true, List.getElem?_drop, Nat.mul_one, Nat.add_zero, List.getElem?_cons_zero] at h3
    refine h3.trans ?_
    rw [UInt8.toNat_ofNat_of_lt' (show _ < 256 by omega)]
    congr 2
    omega
  obtain ⟨a, ha⟩ := hb 0 (by decide)
  obtain ⟨b, hb⟩ := hb 1 (by decide)
  have hl2 : cs.toList.length = 2 := hl.trans hct
  refine ⟨a, b, ?_⟩
  obtain ⟨L⟩ := cs
  simp only at ha hb hl2
  match L, hl2, ha, hb with
  | [x, y], _, ha, hb =>
    simp only [List.getElem?_cons_zero, List.getElem?_cons_succ, Option.some.injEq] at ha hb
    rw [ha, hb]

theorem rep_pair {w : World} {A : Nat → Prop} (a b : UInt8) : Rep w A (.agg [pbyte a, pbyte b]) (.agg #[.int .u8 a.toNat, .int .u8 b.toNat]) := by
  have key := Rep.agg (w := w) (A := A) [pbyte a, pbyte b] (fun j => if j = 0 then .int .u8 a.toNat else .int .u8 b.toNat) (fun j u hu => by
    match j, hu with
    | 0, hu => cases hu; exact .val _
    | 1, hu => cases hu; exact .val _)
  exact key

/-- What the row lists, a variable at a time. -/
theorem listed {P : Program} {w : World} (n : String) (d : DataW Unit) : ∀ (l : List (String × DataW Unit)) (ps : List MemPlace), DataW.LaidVars P w l ps → (n, d) ∈ l →
    ∃ g t cs fuel p, P.globalNamed n = some g ∧ (P.globals[g]?).map (·.type) = some t ∧ w.var? P n = some cs ∧ DataW.trod (fun _ => ()) P w 0 (fun _ => true) false fuel t cs.toList = some (d, p) := by
  intro l
  induction l with
  | nil => intro _ _ hm; cases hm
  | cons y r ih =>
    rintro ps ⟨g, t, cs, fuel, p, q, a1, a2, a3, a4, a5, _⟩ hm
    cases hm with
    | head => exact ⟨g, t, cs, fuel, p, a1, a2, a3, a4⟩
    | tail _ hm => exact ih q a5 hm

/-- The numbers of the tables. -/
def ksI : List Int := KS.map fun x => (x.toNat : Int)
theorem ks_rep {w : World} {l : List (String × DataW Unit)} {n : String} {g : Nat} {t e : TypeId} (h : laidMet Tryd.prog l w) (hm : (n, Lib.tabData .u32 ksI) ∈ l) (hg : Tryd.prog.globalNamed n = some g) (hty : (Tryd.prog.globals[g]?).map (·.type) = some t)
    (ht : Tryd.prog.underlying t = some (.array 64 e)) (he : Tryd.prog.underlying e = some (.int .u32)) (hce : Tryd.prog.cellsOf e = 1) (hct : Tryd.prog.cellsOf t = 64) :
    Rep w (fun b => b < w.heap.size) (.iptr (KS.map pw) 0) (.pointer (some (at_ g 0))) := by
  obtain ⟨ps, hps, _⟩ := h
  obtain ⟨g', t', cs, fuel, p, hg', ht', hv, hd⟩ := listed n _ l ps hps hm
  obtain rfl := Option.some.inj (hg.symm.trans hg')
  obtain rfl := Option.some.inj (hty.symm.trans ht')
  have hc := Lib.cells_of_tab ht he hce hct hd
  have cell : ∀ i (x : UInt32), KS[i]? = some x → w.cell? (at_ g i) = some (.int .u32 x.toNat) := by
    intro i x hx
    have h1 := World.var?_cell hg hv i
    rw [show at_ g i = ⟨g, i, none⟩ from rfl, h1, ← Array.getElem?_toList, hc, List.getElem?_map, ksI, List.getElem?_map, hx]
    rfl
  have hlt : g < w.heap.size := cell_lt (cell 0 _ rfl)
  exact Rep.iptr (KS.map pw) g 0 0 (fun j => .int .u32 ((KS.getD j 0).toNat : Int)) hlt (fun j u hu => by
    rw [List.getElem?_map] at hu
    obtain ⟨x, hx, rfl⟩ := Option.map_eq_some_iff.1 hu
    rw [Nat.zero_add, cell j x hx, List.getD_eq_getElem?_getD, hx]
    rfl) (fun j u hu => by
    rw [List.getElem?_map] at hu
    obtain ⟨x, hx, rfl⟩ := Option.map_eq_some_iff.1 hu
    rw [List.getD_eq_getElem?_getD, hx]
    exact .val _)

/-- The program's variables: those of the list hold the tables. -/
def globsK (l : List Nat) : Globs := fun g => if g ∈ l then .iptr (KS.map pw) 0 else .val (.pointer (some (at_ g 0)))
theorem globsK_rep {w : World} (l : List Nat) (h : ∀ g ∈ l, Rep w (fun b => b < w.heap.size) (.iptr (KS.map pw) 0) (.pointer (some (at_ g 0)))) (g : Nat) : Rep w (fun b => b < w.heap.size) (globsK l g) (.pointer (some (at_ g 0))) := by
  unfold globsK
  split
  · exact h g ‹_›
  · exact .val _

/-- a function that answers true -/
theorem calls_trueG {P : Program} {G : Globs} {f : FuncId} {args : List PV} {w : World} {vals : Array Value} (h : PCalls P G f args [] (fun res H => res = pbool true ∧ H = [])) (hG : ∀ g, Rep w (fun b => b < w.heap.size) (G g) (.pointer (some (at_ g 0))))
    (hs : vals.size = args.length) (hr : ∀ (i : Nat) (p : PV), args[i]? = some p → ∃ v : Value, vals[i]? = some v ∧ Rep w (fun b => b < w.heap.size) p v) :
    Calls P f vals w fun e w' => e = .returned (.bool true) ∧ Below w.heap.size w w' := by
  refine (h w (fun b => b < w.heap.size) [] vals (fun _ h => h) hG (by simp) (by simp) (by simp) hs hr).mono ?_
  rintro e w' ⟨v, A', res, Hout, rfl, ⟨rfl, rfl⟩, hrep, hs'⟩
  rw [hrep.val_eq]
  exact ⟨rfl, hs'.ext.below (Nat.le_refl _)⟩
end Go.PM
