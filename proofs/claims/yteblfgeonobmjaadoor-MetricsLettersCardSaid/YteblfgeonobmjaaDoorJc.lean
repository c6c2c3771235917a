/- Joined texts (Qt Dr Qx Fa Qy Qb Qc Qd Qe Ta Tb Tc Td Te Pnb Pnc): the machine, the contracts, the laws. Conditions: none but those that each names. -/
import Derived.Test.YteblfgeonobmjaaDoorJb
import Derived.Below
import Derived.Ground.Names2Prog
import Derived.Ground.SlgnProg
import Derived.KernelRfl
import Derived.Lib.LaidTab
import Derived.MakeChecks
import Derived.OpenShut
import Derived.OrdersIn
import Derived.RangeFuncBound
import Derived.RangeFuncCalls
import Derived.RangeFuncRecord
import Derived.Shelf.Small.Strs
import Derived.Shelf.Strings.Builder1
import Derived.Shelf.Strings.Search1
import Derived.SliceStrings
import Derived.TacticsIn
import Derived.Test.YteblfgeonobmjaaDoorChecked
import Derived.Test.YteblfgeonobmjaaDoorProg
import Derived.Test.YteblfgeonobmjaaDoorRows
set_option linter.unusedSimpArgs false
set_option linter.unusedVariables false
namespace Go.PM
open Go.Proofs Go.Sort
/-- The powers of ten, as the library's variable holds them. -/
def powC : List PV := Lib.pow10Tab.map (pint .u64)
/-- A variable whose cells are told holds them. -/
theorem gtab_var {P : Program} {w : World} {A : Nat → Prop} {t : TypeId} {k : IntKind} {zs : List Int} {g : Nat} {n : String} (hg : P.globalNamed n = some g) (h : Rep w A (.gtab t (zs.map (pint k))) (.pointer (some (at_ g 0)))) :
    Lib.TabIs P w n k zs ∧ A g := by
  generalize hv : Value.pointer (some (at_ g 0)) = v at h
  cases h with
  | gtab _ _ b f hA hs h1 h2 =>
    obtain rfl : g = b := by
      injection hv with hv
      injection hv with hv
      injection hv
    refine ⟨?_, hA⟩
    obtain ⟨cur, fz, hh, hsz⟩ : ∃ cur fz, w.heap[g]? = some (.cells cur t fz) ∧ cur.size = (zs.map (pint k)).length := by
      unfold World.shape? at hs
      split at hs
      · rename_i c e fz hh
        simp only [Option.some.injEq, Prod.mk.injEq] at hs
        obtain ⟨rfl, h3⟩ := hs
        exact ⟨c, _, hh, h3⟩
      · cases hs
    unfold Lib.TabIs World.var?
    rw [hg, Option.bind_some, hh]
    simp only [Option.some.injEq]
    apply Array.ext
    · simpa using hsz
    · intro i hi1 hi2
      have hi : i < zs.length := by simpa using hi2
      have hu : (zs.map (pint k))[i]? = some (pint k zs[i]) := by rw [List.getElem?_map, List.getElem?_eq_getElem hi]; rfl
      have hc := h1 i _ hu
      have hr := h2 i _ hu
      have e1 : w.cell? (at_ g i) = cur[i]? := by simp [World.cell?, hh]
      rw [e1, Array.getElem?_eq_getElem hi1] at hc
      have e2 := Option.some.inj hc
      rw [e2, hr.val_eq]
      simp
/-- New blocks and draws: what was there stands. -/
theorem ext_grow (w : World) (k : Nat) (os : Array Obj) : Ext (fun _ => False) w (grow (w.drewN k) os) := by
  have hb : ∀ b, b < w.heap.size → (grow (w.drewN k) os).heap[b]? = w.heap[b]? := fun b hb => by
    simp only [grow, World.drewN]
    rw [Array.getElem?_append_left hb]
  refine ⟨rfl, rfl, rfl, ?_, fun b h _ => hb b h, fun b x hx => ?_⟩
  · simp only [grow, World.drewN, Array.size_append]
    omega
  · rw [kind_heap (hb b (kind_lt hx))]
    exact hx
/-- A function of plain values that reads one variable and makes new blocks. -/
theorem PCalls_grow {P : Program} {G : Globs} {f : FuncId} (vs : List Value) (r : Value) (h : ∀ (w : World) (A : Nat → Prop), (∀ g, Rep w A (G g) (.pointer (some (at_ g 0)))) → Calls P f vs.toArray w fun e w' => e = .returned r ∧ ∃ k os, w' = grow (w.drewN k) os) :
    PCalls P G f (vs.map .val) [] (fun res H => res = .val r ∧ H = []) := by
  unfold PCalls
  intro w A F vals hA hG hnd hobj hown hsz hvals
  have e : vals = vs.toArray := by
    apply Array.ext
    · simpa using hsz
    · intro i h1 h2
      have h3 : i < vs.length := by simpa using h2
      obtain ⟨v, hv, hr⟩ := hvals i (.val vs[i]) (by rw [List.getElem?_map, List.getElem?_eq_getElem h3]; rfl)
      rw [hr.val_eq] at hv
      rw [Array.getElem?_eq_getElem h1] at hv
      simpa using Option.some.inj hv
  subst e
  refine (h w A hG).mono ?_
  rintro e w' ⟨rfl, k, os, rfl⟩
  have hx := ext_grow w k os
  exact ⟨r, A, .val r, [], rfl, ⟨rfl, rfl⟩, .val _, ⟨hx.mono fun _ h => h.elim, fun b hb => Nat.lt_of_lt_of_le (hA b hb) hx.size, fun _ h => h, fun _ h => .inl h, fun g => (hG g).ext hx (fun _ h => h) (fun _ _ h => h), by simp, by simp, by simp, by simp, rfl, rfl, by simp⟩⟩
theorem itoa_c (G : Globs) (t : TypeId) (hG : G 1 = .gtab t powC) (n : Int) (h0 : -9223372036854775808 ≤ n) (h1 : n ≤ 9223372036854775807) : PCalls Tryd.prog G 48 [pint .i64 n] [] (fun res H => res = pstr (Lib.itoa n) ∧ H = []) :=
  PCalls_grow (P := Tryd.prog) (G := G) (f := 48) [.int .i64 n] (.string (mk (Lib.itoa n))) (fun w A hg => by
    have h2 := hg 1
    rw [hG] at h2
    exact Tryd.strconv_Itoa n h0 h1 w (gtab_var (n := "internal/strconv.uint64pow10") (by kernel_rfl) h2).1)
end Go.PM

namespace Go.PM
open Go.RowKit
/-- A slice of integers that came in: the first 'len' of the numbers are its elements. -/
def IsRow (k : IntKind) (w : World) (a : Option Addr) (len cap : Nat) (zs : List Int) : Prop :=
  (a = none ∧ len = 0 ∧ cap = 0 ∧ zs = []) ∨
  ∃ x, a = some x ∧ len ≤ cap ∧ cap ≤ maxLen ∧ zs.length = cap ∧ (∀ i, i < zs.length → w.cell? (x.add i) = some (.int k (zs.getD i 0))) ∧ ∀ n ∈ zs, (Lit.int k n).wf = true
/-- A slice of strings that came in. -/
def IsTexts (w : World) (a : Option Addr) (len cap : Nat) (zs : List ByteArray) : Prop :=
  (a = none ∧ len = 0 ∧ cap = 0 ∧ zs = []) ∨
  ∃ x, a = some x ∧ len ≤ cap ∧ cap ≤ maxLen ∧ zs.length = cap ∧ (∀ i, i < zs.length → w.cell? (x.add i) = some (.string (zs.getD i ByteArray.empty))) ∧ ∀ s ∈ zs, s.size ≤ maxLen
theorem cells_at {w : World} {a : Addr} {n : Nat} {f : Nat → Value} (h : ∀ i, i < n → w.cell? (a.add i) = some (f i)) (hp : 0 < n) :
    ∃ b off, a = at_ b off ∧ b < w.heap.size ∧ ∀ j, j < n → w.cell? (at_ b (off + j)) = some (f j) := by
  obtain ⟨b, off, spot⟩ := a
  have hspot : spot = none := by simpa [Addr.add] using World.cell?_spot (h 0 hp)
  subst hspot
  have h0 := h 0 hp
  rw [Go.WideShapes.add_plain] at h0
  exact ⟨b, off, rfl, cell_lt h0, fun j hj => by
    have := h j hj
    rw [Go.WideShapes.add_plain] at this
    exact this⟩
theorem flat_vals {α : Type} (f : α → Value) (hf : ∀ x, (f x).oneCell' = true) : ∀ l : List α, flat (l.map fun x => PV.val (f x)) = l.map fun x => PV.val (f x)
  | [] => rfl
  | x :: l => by
    have := flat_vals f hf l
    simp only [flat, List.map_cons, List.flatMap_cons] at this ⊢
    rw [this]
    rfl
theorem rep_vals {α : Type} (f : α → Value) (hf : ∀ x, (f x).oneCell' = true) {w : World} {a : Addr} {len cap : Nat} (l : List α) (hl : l.length = len) (hc : len ≤ cap)
    (h : ∀ i (hi : i < l.length), w.cell? (a.add i) = some (f l[i])) : Rep w (fun b => b < w.heap.size) (.list 1 (l.map fun x => .val (f x))) (.slice (some a) len cap) := by
  subst hl
  cases l with
  | nil => exact .nil _ _ _
  | cons x l =>
    obtain ⟨b, off, rfl, hb, hcell⟩ := cells_at (f := fun i => if h : i < (x :: l).length then f (x :: l)[i] else undef) (n := (x :: l).length) (fun i hi => by rw [dif_pos hi]; exact h i hi) (by simp)
    have key := Rep.list (w := w) (A := fun b => b < w.heap.size) 1 ((x :: l).map fun x => PV.val (f x)) b off cap (fun i => if h : i < (x :: l).length then f (x :: l)[i] else undef) hb (by simpa using hc)
      (fun y hy => by
        obtain ⟨z, _, rfl⟩ := List.mem_map.1 hy
        rfl)
      (fun j u hu => by
        rw [flat_vals f hf] at hu
        rw [List.getElem?_map] at hu
        cases hj : (x :: l)[j]? with
        | none => rw [hj] at hu; cases hu
        | some z =>
          rw [hj] at hu
          cases hu
          have hlt := (List.getElem?_eq_some_iff.1 hj).1
          exact ⟨hcell j hlt, hf z⟩)
      (fun j u hu => by
        rw [flat_vals f hf] at hu
        rw [List.getElem?_map] at hu
        cases hj : (x :: l)[j]? with
        | none => rw [hj] at hu; cases hu
        | some z =>
          rw [hj] at hu
          cases hu
          obtain ⟨hlt, hz⟩ := List.getElem?_eq_some_iff.1 hj
          simp only [dif_pos hlt, hz]
          exact .val _)
    simpa using key
theorem IsRow.rep {w : World} {a : Option Addr} {len cap : Nat} {zs : List Int} (h : IsRow .i64 w a len cap zs) :
    Rep w (fun b => b < w.heap.size) (.list 1 ((zs.take len).map (pint .i64))) (.slice a len cap) ∧ ((zs.take len).length : Int) ≤ 9223372036854775807 ∧ ∀ x ∈ zs.take len, -9223372036854775808 ≤ x ∧ x ≤ 9223372036854775807 := by
  rcases h with ⟨rfl, rfl, rfl, rfl⟩ | ⟨x, rfl, hl, hm, hz, hcell, hwf⟩
  · exact ⟨.nil _ _ _, by simp, by simp⟩
  · have hlen : (zs.take len).length = len := by rw [List.length_take]; omega
    refine ⟨rep_vals (.int .i64) (fun _ => rfl) _ hlen hl fun i hi => ?_, ?_, fun n hn => ?_⟩
    · rw [hcell i (by omega), List.getElem_take, List.getD_eq_getElem?_getD, List.getElem?_eq_getElem (by omega)]
      rfl
    · rw [hlen]
      have : maxLen = 9223372036854775807 := by decide
      omega
    · have := hwf n (List.mem_of_mem_take hn)
      exact bounds_i64 this
theorem IsTexts.rep {w : World} {a : Option Addr} {len cap : Nat} {zs : List ByteArray} (h : IsTexts w a len cap zs) :
    Rep w (fun b => b < w.heap.size) (.list 1 (((zs.take len).map bl).map pstr)) (.slice a len cap) ∧ (((zs.take len).map bl).length : Int) ≤ 9223372036854775807 ∧ ∀ s ∈ (zs.take len).map bl, (s.length : Int) ≤ 9223372036854775807 := by
  have hml : maxLen = 9223372036854775807 := by decide
  rcases h with ⟨rfl, rfl, rfl, rfl⟩ | ⟨x, rfl, hl, hm, hz, hcell, hwf⟩
  · exact ⟨.nil _ _ _, by simp, by simp⟩
  · have hlen : (zs.take len).length = len := by rw [List.length_take]; omega
    refine ⟨?_, ?_, fun n hn => ?_⟩
    · have := rep_vals (w := w) (a := x) (cap := cap) Value.string (fun _ => rfl) (zs.take len) hlen hl fun i hi => by
        rw [hcell i (by omega), List.getElem_take, List.getD_eq_getElem?_getD, List.getElem?_eq_getElem (by omega)]
        rfl
      rw [List.map_map, show (zs.take len).map (pstr ∘ bl) = (zs.take len).map fun x => PV.val (.string x) from List.map_congr_left fun s _ => by simp only [Function.comp_apply, pstr, mk_bl]]
      exact this
    · rw [List.length_map, hlen]
      omega
    · obtain ⟨s, hs, rfl⟩ := List.mem_map.1 hn
      have := hwf s (List.mem_of_mem_take hs)
      rw [← size_bl]
      omega
theorem Ext.below {w w' : World} {B : Nat} (hB : B ≤ w.heap.size) (h : Ext (fun b => (b : Int) ∈ ([] : List Int)) w w') : Below B w w' :=
  ⟨h.os, h.tape, h.output, h.size, fun k hk => h.block k (by omega) (by simp)⟩
end Go.PM

namespace Go.PM
open Go.Proofs Go.RowKit Go.ChangeShapes Go.WideShapes
/-- What the row lists, a variable at a time. -/
theorem listed {P : Program} {w : World} (n : String) (d : DataW Unit) : ∀ (l : List (String × DataW Unit)) (ps : List MemPlace), DataW.LaidVars P w l ps → (n, d) ∈ l →
    ∃ g t cs fuel p, P.globalNamed n = some g ∧ (P.globals[g]?).map (·.type) = some t ∧ w.var? P n = some cs ∧ DataW.trod (fun _ => ()) P w 0 (fun _ => true) false fuel t cs.toList = some (d, p) := by
  intro l
  induction l with
  | nil => intro _ _ hm; cases hm
  | cons y r ih =>
    rintro ps ⟨g, t, cs, fuel, p, q, a1, a2, a3, a4, a5, _⟩ hm
    cases hm with
    | head => exact ⟨g, t, cs, fuel, p, a1, a2, a3, a4⟩
    | tail _ hm => exact ih q a5 hm
theorem gtab_rep {k : IntKind} {zs : List Int} {m : Nat} {w : World} {l : List (String × DataW Unit)} {n : String} {g : Nat} {t e : TypeId} (h : laidMet Tryd.prog l w) (hm : (n, Lib.tabData k zs) ∈ l) (hg : Tryd.prog.globalNamed n = some g) (hty : (Tryd.prog.globals[g]?).map (·.type) = some t)
    (ht : Tryd.prog.underlying t = some (.array m e)) (he : Tryd.prog.underlying e = some (.int k)) (hce : Tryd.prog.cellsOf e = 1) (hct : Tryd.prog.cellsOf t = m) :
    ∃ ty, Rep w (fun b => b < w.heap.size) (.gtab ty (zs.map (pint k))) (.pointer (some (at_ g 0))) := by
  obtain ⟨ps, hps, _⟩ := h
  obtain ⟨g', t', cs, fuel, p, hg', ht', hv, hd⟩ := listed n _ l ps hps hm
  obtain rfl := Option.some.inj (hg.symm.trans hg')
  obtain rfl := Option.some.inj (hty.symm.trans ht')
  have hc := Lib.cells_of_tab ht he hce hct hd
  have hv2 := hv
  unfold World.var? at hv2
  rw [hg, Option.bind_some] at hv2
  split at hv2
  · rename_i cs' ty fz hh
    cases hv2
    have hlt : g < w.heap.size := by
      rcases Nat.lt_or_ge g w.heap.size with hl | hge
      · exact hl
      · rw [Array.getElem?_eq_none hge] at hh
        cases hh
    have hsz : cs.size = zs.length := by
      have := congrArg List.length hc
      simpa using this
    refine ⟨ty, .gtab ty (zs.map (pint k)) g (fun j => .int k (zs.getD j 0)) hlt ?_ ?_ ?_⟩
    · rw [List.length_map, ← hsz]
      simp [World.shape?, hh]
    · intro j u hu
      rw [List.getElem?_map] at hu
      obtain ⟨x, hx, rfl⟩ := Option.map_eq_some_iff.1 hu
      have h1 := World.var?_cell hg hv j
      rw [show at_ g j = ⟨g, j, none⟩ from rfl, h1, ← Array.getElem?_toList, hc, List.getElem?_map, hx, List.getD_eq_getElem?_getD, hx]
      rfl
    · intro j u hu
      rw [List.getElem?_map] at hu
      obtain ⟨x, hx, rfl⟩ := Option.map_eq_some_iff.1 hu
      rw [List.getD_eq_getElem?_getD, hx]
      exact .val _
  · cases hv2
/-- The program's variables: one of them is told. -/
def globsT (g0 : Nat) (p : PV) : Globs := fun g => if g = g0 then p else .val (.pointer (some (at_ g 0)))
theorem globsT_rep {w : World} {g0 : Nat} {p : PV} (h : Rep w (fun b => b < w.heap.size) p (.pointer (some (at_ g0 0)))) (g : Nat) : Rep w (fun b => b < w.heap.size) (globsT g0 p g) (.pointer (some (at_ g 0))) := by
  unfold globsT
  split
  · rename_i e
    rw [e]
    exact h
  · exact .val _
theorem calls_trueT {P : Program} {G : Globs} {f : FuncId} {args : List PV} {w : World} {vals : Array Value} (h : PCalls P G f args [] (fun res H => res = pbool true ∧ H = [])) (hG : ∀ g, Rep w (fun b => b < w.heap.size) (G g) (.pointer (some (at_ g 0))))
    (hs : vals.size = args.length) (hr : ∀ (i : Nat) (p : PV), args[i]? = some p → ∃ v : Value, vals[i]? = some v ∧ Rep w (fun b => b < w.heap.size) p v) :
    Calls P f vals w fun e w' => e = .returned (.bool true) ∧ Below w.heap.size w w' := by
  refine (h w (fun b => b < w.heap.size) [] vals (fun _ h => h) hG (by simp) (by simp) (by simp) hs hr).mono ?_
  rintro e w' ⟨v, A', res, Hout, rfl, ⟨rfl, rfl⟩, hrep, hs'⟩
  rw [hrep.val_eq]
  exact ⟨rfl, hs'.ext.below (Nat.le_refl _)⟩
end Go.PM

namespace Go.PM
open Go.Proofs
theorem Tryd.tf0 : tf Tryd.prog 0 = some ⟨.other, 1, 0, false, some (.tuple #[])⟩ := by kernel_rfl
theorem Tryd.tf1 : tf Tryd.prog 1 = some ⟨.func, 1, 8, false, some (.nilFunc)⟩ := by kernel_rfl
theorem Tryd.tf2 : tf Tryd.prog 2 = some ⟨.int .i64, 1, 8, false, some (.int .i64 0)⟩ := by kernel_rfl
theorem Tryd.tf3 : tf Tryd.prog 3 = some ⟨.int .i64, 1, 8, false, some (.int .i64 0)⟩ := by kernel_rfl
theorem Tryd.tf4 : tf Tryd.prog 4 = some ⟨.bool, 1, 1, false, some (.bool false)⟩ := by kernel_rfl
theorem Tryd.tf5 : tf Tryd.prog 5 = some ⟨.int .u8, 1, 1, false, some (.int .u8 0)⟩ := by kernel_rfl
theorem Tryd.tf6 : tf Tryd.prog 6 = some ⟨.int .u8, 1, 1, false, some (.int .u8 0)⟩ := by kernel_rfl
theorem Tryd.tf7 : tf Tryd.prog 7 = some ⟨.struct [(0, 1, false), (1, 1, false), (2, 1, false), (3, 1, false)], 4, 24, true, some (.agg #[.int .i64 0, .int .i64 0, .bool false, .int .u8 0])⟩ := by kernel_rfl
theorem Tryd.tf8 : tf Tryd.prog 8 = some ⟨.struct [(0, 1, false), (1, 1, false), (2, 1, false), (3, 1, false)], 4, 24, true, some (.agg #[.int .i64 0, .int .i64 0, .bool false, .int .u8 0])⟩ := by kernel_rfl
theorem Tryd.tf9 : tf Tryd.prog 9 = some ⟨.string, 1, 16, false, some (.string ⟨#[]⟩)⟩ := by kernel_rfl
theorem Tryd.tf10 : tf Tryd.prog 10 = some ⟨.string, 1, 16, false, some (.string ⟨#[]⟩)⟩ := by kernel_rfl
theorem Tryd.tf11 : tf Tryd.prog 11 = some ⟨.string, 1, 16, false, some (.string ⟨#[]⟩)⟩ := by kernel_rfl
theorem Tryd.tf12 : tf Tryd.prog 12 = some ⟨.int .u64, 1, 8, false, some (.int .u64 0)⟩ := by kernel_rfl
theorem Tryd.tf13 : tf Tryd.prog 13 = some ⟨.struct [(0, 1, false), (1, 1, false)], 2, 24, true, some (.agg #[.string ⟨#[]⟩, .int .u64 0])⟩ := by kernel_rfl
theorem Tryd.tf14 : tf Tryd.prog 14 = some ⟨.struct [(0, 1, false), (1, 1, false)], 2, 24, true, some (.agg #[.string ⟨#[]⟩, .int .u64 0])⟩ := by kernel_rfl
theorem Tryd.tf15 : tf Tryd.prog 15 = some ⟨.pointer 134, 1, 8, false, some (.pointer none)⟩ := by kernel_rfl
theorem Tryd.tf16 : tf Tryd.prog 16 = some ⟨.pointer 137, 1, 8, false, some (.pointer none)⟩ := by kernel_rfl
theorem Tryd.tf17 : tf Tryd.prog 17 = some ⟨.pointer 145, 1, 8, false, some (.pointer none)⟩ := by kernel_rfl
theorem Tryd.tf18 : tf Tryd.prog 18 = some ⟨.struct [(0, 1, false)], 1, 8, true, some (.agg #[.pointer none])⟩ := by kernel_rfl
theorem Tryd.tf19 : tf Tryd.prog 19 = some ⟨.struct [(0, 1, false)], 1, 8, true, some (.agg #[.pointer none])⟩ := by kernel_rfl
theorem Tryd.tf20 : tf Tryd.prog 20 = some ⟨.other, 1, 16, false, some (.nilIface)⟩ := by kernel_rfl
theorem Tryd.tf21 : tf Tryd.prog 21 = some ⟨.int .i32, 1, 4, false, some (.int .i32 0)⟩ := by kernel_rfl
theorem Tryd.tf22 : tf Tryd.prog 22 = some ⟨.slice 3 1 8, 1, 24, false, some (.slice none 0 0)⟩ := by kernel_rfl
theorem Tryd.tf23 : tf Tryd.prog 23 = some ⟨.slice 60 5 48, 1, 24, false, some (.slice none 0 0)⟩ := by kernel_rfl
theorem Tryd.tf24 : tf Tryd.prog 24 = some ⟨.func, 1, 8, false, some (.nilFunc)⟩ := by kernel_rfl
theorem Tryd.tf25 : tf Tryd.prog 25 = some ⟨.slice 68 3 40, 1, 24, false, some (.slice none 0 0)⟩ := by kernel_rfl
theorem Tryd.tf26 : tf Tryd.prog 26 = some ⟨.struct [(0, 1, false), (1, 1, false), (2, 1, false), (3, 1, false), (4, 1, false)], 5, 56, true, some (.agg #[.int .i64 0, .int .i64 0, .int .i64 0, .int .i64 0, .slice none 0 0])⟩ := by kernel_rfl
theorem Tryd.tf27 : tf Tryd.prog 27 = some ⟨.struct [(0, 1, false), (1, 1, false), (2, 1, false), (3, 1, false), (4, 1, false)], 5, 56, true, some (.agg #[.int .i64 0, .int .i64 0, .int .i64 0, .int .i64 0, .slice none 0 0])⟩ := by kernel_rfl
theorem Tryd.tf28 : tf Tryd.prog 28 = some ⟨.func, 1, 8, false, some (.nilFunc)⟩ := by kernel_rfl
theorem Tryd.tf29 : tf Tryd.prog 29 = some ⟨.func, 1, 8, false, some (.nilFunc)⟩ := by kernel_rfl
theorem Tryd.tf30 : tf Tryd.prog 30 = some ⟨.slice 27 5 56, 1, 24, false, some (.slice none 0 0)⟩ := by kernel_rfl
theorem Tryd.tf31 : tf Tryd.prog 31 = some ⟨.func, 1, 8, false, some (.nilFunc)⟩ := by kernel_rfl
theorem Tryd.tf32 : tf Tryd.prog 32 = some ⟨.slice 23 1 24, 1, 24, false, some (.slice none 0 0)⟩ := by kernel_rfl
theorem Tryd.tf33 : tf Tryd.prog 33 = some ⟨.func, 1, 8, false, some (.nilFunc)⟩ := by kernel_rfl
theorem Tryd.tf34 : tf Tryd.prog 34 = some ⟨.func, 1, 8, false, some (.nilFunc)⟩ := by kernel_rfl
theorem Tryd.tf35 : tf Tryd.prog 35 = some ⟨.slice 9 1 16, 1, 24, false, some (.slice none 0 0)⟩ := by kernel_rfl
theorem Tryd.tf36 : tf Tryd.prog 36 = some ⟨.func, 1, 8, false, some (.nilFunc)⟩ := by kernel_rfl
theorem Tryd.tf37 : tf Tryd.prog 37 = some ⟨.int .i64, 1, 8, false, some (.int .i64 0)⟩ := by kernel_rfl
theorem Tryd.tf38 : tf Tryd.prog 38 = some ⟨.other, 1, 0, false, some (.tuple #[.int .i64 0, .int .i64 0])⟩ := by kernel_rfl
theorem Tryd.tf39 : tf Tryd.prog 39 = some ⟨.func, 1, 8, false, some (.nilFunc)⟩ := by kernel_rfl
theorem Tryd.tf40 : tf Tryd.prog 40 = some ⟨.other, 1, 0, false, some (.tuple #[.slice none 0 0, .int .i64 0])⟩ := by kernel_rfl
theorem Tryd.tf41 : tf Tryd.prog 41 = some ⟨.func, 1, 8, false, some (.nilFunc)⟩ := by kernel_rfl
theorem Tryd.tf42 : tf Tryd.prog 42 = some ⟨.func, 1, 8, false, some (.nilFunc)⟩ := by kernel_rfl
theorem Tryd.tf43 : tf Tryd.prog 43 = some ⟨.func, 1, 8, false, some (.nilFunc)⟩ := by kernel_rfl
theorem Tryd.tf44 : tf Tryd.prog 44 = some ⟨.func, 1, 8, false, some (.nilFunc)⟩ := by kernel_rfl
theorem Tryd.tf45 : tf Tryd.prog 45 = some ⟨.func, 1, 8, false, some (.nilFunc)⟩ := by kernel_rfl
theorem Tryd.tf46 : tf Tryd.prog 46 = some ⟨.func, 1, 8, false, some (.nilFunc)⟩ := by kernel_rfl
theorem Tryd.tf47 : tf Tryd.prog 47 = some ⟨.func, 1, 8, false, some (.nilFunc)⟩ := by kernel_rfl
theorem Tryd.tf48 : tf Tryd.prog 48 = some ⟨.func, 1, 8, false, some (.nilFunc)⟩ := by kernel_rfl
theorem Tryd.tf49 : tf Tryd.prog 49 = some ⟨.func, 1, 8, false, some (.nilFunc)⟩ := by kernel_rfl
theorem Tryd.tf50 : tf Tryd.prog 50 = some ⟨.func, 1, 8, false, some (.nilFunc)⟩ := by kernel_rfl
theorem Tryd.tf51 : tf Tryd.prog 51 = some ⟨.func, 1, 8, false, some (.nilFunc)⟩ := by kernel_rfl
theorem Tryd.tf52 : tf Tryd.prog 52 = some ⟨.func, 1, 8, false, some (.nilFunc)⟩ := by kernel_rfl
theorem Tryd.tf53 : tf Tryd.prog 53 = some ⟨.func, 1, 8, false, some (.nilFunc)⟩ := by kernel_rfl
theorem Tryd.tf54 : tf Tryd.prog 54 = some ⟨.func, 1, 8, false, some (.nilFunc)⟩ := by kernel_rfl
theorem Tryd.tf55 : tf Tryd.prog 55 = some ⟨.func, 1, 8, false, some (.nilFunc)⟩ := by kernel_rfl
theorem Tryd.tf56 : tf Tryd.prog 56 = some ⟨.func, 1, 8, false, some (.nilFunc)⟩ := by kernel_rfl
theorem Tryd.tf57 : tf Tryd.prog 57 = some ⟨.other, 1, 0, false, some (.tuple #[.string ⟨#[]⟩, .int .i64 0])⟩ := by kernel_rfl
theorem Tryd.tf58 : tf Tryd.prog 58 = some ⟨.func, 1, 8, false, some (.nilFunc)⟩ := by kernel_rfl
theorem Tryd.tf59 : tf Tryd.prog 59 = some ⟨.struct [(0, 1, false), (1, 1, false), (2, 1, false), (3, 1, false), (4, 1, false)], 5, 48, true, some (.agg #[.string ⟨#[]⟩, .int .i64 0, .int .i64 0, .int .i64 0, .int .i64 0])⟩ := by kernel_rfl
theorem Tryd.tf60 : tf Tryd.prog 60 = some ⟨.struct [(0, 1, false), (1, 1, false), (2, 1, false), (3, 1, false), (4, 1, false)], 5, 48, true, some (.agg #[.string ⟨#[]⟩, .int .i64 0, .int .i64 0, .int .i64 0, .int .i64 0])⟩ := by kernel_rfl
theorem Tryd.teq60 : teq Tryd.prog 60 = some [.string, .int .i64, .int .i64, .int .i64, .int .i64] := by kernel_rfl
theorem Tryd.tf61 : tf Tryd.prog 61 = some ⟨.func, 1, 8, false, some (.nilFunc)⟩ := by kernel_rfl
theorem Tryd.tf62 : tf Tryd.prog 62 = some ⟨.struct [(0, 1, false), (1, 1, false)], 2, 16, true, some (.agg #[.int .i64 0, .int .i64 0])⟩ := by kernel_rfl
theorem Tryd.tf63 : tf Tryd.prog 63 = some ⟨.struct [(0, 1, false), (1, 1, false)], 2, 16, true, some (.agg #[.int .i64 0, .int .i64 0])⟩ := by kernel_rfl
theorem Tryd.teq63 : teq Tryd.prog 63 = some [.int .i64, .int .i64] := by kernel_rfl
theorem Tryd.tf64 : tf Tryd.prog 64 = some ⟨.func, 1, 8, false, some (.nilFunc)⟩ := by kernel_rfl
theorem Tryd.tf65 : tf Tryd.prog 65 = some ⟨.func, 1, 8, false, some (.nilFunc)⟩ := by kernel_rfl
theorem Tryd.tf66 : tf Tryd.prog 66 = some ⟨.func, 1, 8, false, some (.nilFunc)⟩ := by kernel_rfl
theorem Tryd.tf67 : tf Tryd.prog 67 = some ⟨.struct [(0, 1, false), (1, 1, false), (2, 1, false)], 3, 40, true, some (.agg #[.string ⟨#[]⟩, .string ⟨#[]⟩, .int .i64 0])⟩ := by kernel_rfl
theorem Tryd.tf68 : tf Tryd.prog 68 = some ⟨.struct [(0, 1, false), (1, 1, false), (2, 1, false)], 3, 40, true, some (.agg #[.string ⟨#[]⟩, .string ⟨#[]⟩, .int .i64 0])⟩ := by kernel_rfl
theorem Tryd.teq68 : teq Tryd.prog 68 = some [.string, .string, .int .i64] := by kernel_rfl
theorem Tryd.tf69 : tf Tryd.prog 69 = some ⟨.slice 5 1 1, 1, 24, false, some (.slice none 0 0)⟩ := by kernel_rfl
theorem Tryd.tf70 : tf Tryd.prog 70 = some ⟨.func, 1, 8, false, some (.nilFunc)⟩ := by kernel_rfl
theorem Tryd.tf71 : tf Tryd.prog 71 = some ⟨.func, 1, 8, false, some (.nilFunc)⟩ := by kernel_rfl
theorem Tryd.tf72 : tf Tryd.prog 72 = some ⟨.map 97 3, 1, 8, false, some (.map none)⟩ := by kernel_rfl
theorem Tryd.tf73 : tf Tryd.prog 73 = some ⟨.func, 1, 8, false, some (.nilFunc)⟩ := by kernel_rfl
theorem Tryd.tf74 : tf Tryd.prog 74 = some ⟨.func, 1, 8, false, some (.nilFunc)⟩ := by kernel_rfl
theorem Tryd.tf75 : tf Tryd.prog 75 = some ⟨.other, 1, 0, false, some (.tuple #[.slice none 0 0, .slice none 0 0, .int .i64 0])⟩ := by kernel_rfl
theorem Tryd.tf76 : tf Tryd.prog 76 = some ⟨.func, 1, 8, false, some (.nilFunc)⟩ := by kernel_rfl
theorem Tryd.tf77 : tf Tryd.prog 77 = some ⟨.other, 1, 0, false, some (.tuple #[.slice none 0 0, .agg #[.int .i64 0, .int .i64 0, .int .i64 0, .int .i64 0, .slice none 0 0]])⟩ := by kernel_rfl
theorem Tryd.tf78 : tf Tryd.prog 78 = some ⟨.func, 1, 8, false, some (.nilFunc)⟩ := by kernel_rfl
theorem Tryd.tf79 : tf Tryd.prog 79 = some ⟨.func, 1, 8, false, some (.nilFunc)⟩ := by kernel_rfl
theorem Tryd.tf80 : tf Tryd.prog 80 = some ⟨.other, 1, 0, false, some (.tuple #[.slice none 0 0, .int .i64 0])⟩ := by kernel_rfl
theorem Tryd.tf81 : tf Tryd.prog 81 = some ⟨.func, 1, 8, false, some (.nilFunc)⟩ := by kernel_rfl
theorem Tryd.tf82 : tf Tryd.prog 82 = some ⟨.pointer 84, 1, 8, false, some (.pointer none)⟩ := by kernel_rfl
theorem Tryd.tf83 : tf Tryd.prog 83 = some ⟨.struct [(0, 1, false), (1, 1, false)], 2, 32, true, some (.agg #[.pointer none, .slice none 0 0])⟩ := by kernel_rfl
theorem Tryd.tf84 : tf Tryd.prog 84 = some ⟨.struct [(0, 1, false), (1, 1, false)], 2, 32, true, some (.agg #[.pointer none, .slice none 0 0])⟩ := by kernel_rfl
theorem Tryd.tf85 : tf Tryd.prog 85 = some ⟨.func, 1, 8, false, some (.nilFunc)⟩ := by kernel_rfl
theorem Tryd.tf86 : tf Tryd.prog 86 = some ⟨.other, 1, 16, false, some (.nilIface)⟩ := by kernel_rfl
theorem Tryd.tf87 : tf Tryd.prog 87 = some ⟨.other, 1, 16, false, some (.nilIface)⟩ := by kernel_rfl
theorem Tryd.tf88 : tf Tryd.prog 88 = some ⟨.other, 1, 0, false, some (.tuple #[.int .i64 0, .nilIface])⟩ := by kernel_rfl
theorem Tryd.tf89 : tf Tryd.prog 89 = some ⟨.func, 1, 8, false, some (.nilFunc)⟩ := by kernel_rfl
theorem Tryd.tf90 : tf Tryd.prog 90 = some ⟨.func, 1, 8, false, some (.nilFunc)⟩ := by kernel_rfl
theorem Tryd.tf91 : tf Tryd.prog 91 = some ⟨.func, 1, 8, false, some (.nilFunc)⟩ := by kernel_rfl
theorem Tryd.tf92 : tf Tryd.prog 92 = some ⟨.other, 1, 0, false, some (.tuple #[.int .i64 0, .int .i64 0, .int .i64 0, .int .i64 0])⟩ := by kernel_rfl
theorem Tryd.tf93 : tf Tryd.prog 93 = some ⟨.func, 1, 8, false, some (.nilFunc)⟩ := by kernel_rfl
theorem Tryd.tf94 : tf Tryd.prog 94 = some ⟨.func, 1, 8, false, some (.nilFunc)⟩ := by kernel_rfl
theorem Tryd.tf95 : tf Tryd.prog 95 = some ⟨.func, 1, 8, false, some (.nilFunc)⟩ := by kernel_rfl
theorem Tryd.tf96 : tf Tryd.prog 96 = some ⟨.func, 1, 8, false, some (.nilFunc)⟩ := by kernel_rfl
theorem Tryd.tf97 : tf Tryd.prog 97 = some ⟨.array 2 9 1 false, 2, 32, true, some (.agg #[.string ⟨#[]⟩, .string ⟨#[]⟩])⟩ := by kernel_rfl
theorem Tryd.teq97 : teq Tryd.prog 97 = some (List.replicate 2 (.string)) := by kernel_rfl
theorem Tryd.tf98 : tf Tryd.prog 98 = some ⟨.other, 1, 0, false, some (.tuple #[.int .i64 0, .bool false])⟩ := by kernel_rfl
theorem Tryd.tf99 : tf Tryd.prog 99 = some ⟨.map 9 3, 1, 8, false, some (.map none)⟩ := by kernel_rfl
theorem Tryd.tf100 : tf Tryd.prog 100 = some ⟨.func, 1, 8, false, some (.nilFunc)⟩ := by kernel_rfl
theorem Tryd.tf101 : tf Tryd.prog 101 = some ⟨.func, 1, 8, false, some (.nilFunc)⟩ := by kernel_rfl
theorem Tryd.tf102 : tf Tryd.prog 102 = some ⟨.func, 1, 8, false, some (.nilFunc)⟩ := by kernel_rfl
theorem Tryd.tf103 : tf Tryd.prog 103 = some ⟨.func, 1, 8, false, some (.nilFunc)⟩ := by kernel_rfl
theorem Tryd.tf104 : tf Tryd.prog 104 = some ⟨.func, 1, 8, false, some (.nilFunc)⟩ := by kernel_rfl
theorem Tryd.tf105 : tf Tryd.prog 105 = some ⟨.other, 1, 0, false, some (.tuple #[.int .i64 0, .int .i64 0])⟩ := by kernel_rfl
theorem Tryd.tf106 : tf Tryd.prog 106 = some ⟨.func, 1, 8, false, some (.nilFunc)⟩ := by kernel_rfl
theorem Tryd.tf107 : tf Tryd.prog 107 = some ⟨.pointer 5, 1, 8, false, some (.pointer none)⟩ := by kernel_rfl
theorem Tryd.tf108 : tf Tryd.prog 108 = some ⟨.func, 1, 8, false, some (.nilFunc)⟩ := by kernel_rfl
theorem Tryd.tf109 : tf Tryd.prog 109 = some ⟨.array 12 3 1 false, 12, 96, true, some (.agg #[.int .i64 0, .int .i64 0, .int .i64 0, .int .i64 0, .int .i64 0, .int .i64 0, .int .i64 0, .int .i64 0, .int .i64 0, .int .i64 0, .int .i64 0, .int .i64 0])⟩ := by kernel_rfl
theorem Tryd.teq109 : teq Tryd.prog 109 = some (List.replicate 12 (.int .i64)) := by kernel_rfl
theorem Tryd.tf110 : tf Tryd.prog 110 = some ⟨.func, 1, 8, false, some (.nilFunc)⟩ := by kernel_rfl
theorem Tryd.tf111 : tf Tryd.prog 111 = some ⟨.func, 1, 8, false, some (.nilFunc)⟩ := by kernel_rfl
theorem Tryd.tf112 : tf Tryd.prog 112 = some ⟨.func, 1, 8, false, some (.nilFunc)⟩ := by kernel_rfl
theorem Tryd.tf113 : tf Tryd.prog 113 = some ⟨.func, 1, 8, false, some (.nilFunc)⟩ := by kernel_rfl
theorem Tryd.tf114 : tf Tryd.prog 114 = some ⟨.other, 1, 8, false, some (.pointer none)⟩ := by kernel_rfl
theorem Tryd.tf115 : tf Tryd.prog 115 = some ⟨.func, 1, 8, false, some (.nilFunc)⟩ := by kernel_rfl
theorem Tryd.tf116 : tf Tryd.prog 116 = some ⟨.func, 1, 8, false, some (.nilFunc)⟩ := by kernel_rfl
theorem Tryd.tf117 : tf Tryd.prog 117 = some ⟨.array 24 5 1 false, 24, 24, true, some (.agg #[.int .u8 0, .int .u8 0, .int .u8 0, .int .u8 0, .int .u8 0, .int .u8 0, .int .u8 0, .int .u8 0, .int .u8 0, .int .u8 0, .int .u8 0, .int .u8 0, .int .u8 0, .int .u8 0, .int .u8 0, .int .u8 0, .int .u8 0, .int .u8 0, .int .u8 0, .int .u8 0, .int .u8 0, .int .u8 0, .int .u8 0, .int .u8 0])⟩ := by kernel_rfl
theorem Tryd.teq117 : teq Tryd.prog 117 = some (List.replicate 24 (.int .u8)) := by kernel_rfl
theorem Tryd.tf118 : tf Tryd.prog 118 = some ⟨.int .u64, 1, 8, false, some (.int .u64 0)⟩ := by kernel_rfl
theorem Tryd.tf119 : tf Tryd.prog 119 = some ⟨.func, 1, 8, false, some (.nilFunc)⟩ := by kernel_rfl
theorem Tryd.tf120 : tf Tryd.prog 120 = some ⟨.func, 1, 8, false, some (.nilFunc)⟩ := by kernel_rfl
theorem Tryd.tf121 : tf Tryd.prog 121 = some ⟨.other, 1, 0, false, some (.tuple #[.slice none 0 0, .string ⟨#[]⟩])⟩ := by kernel_rfl
theorem Tryd.tf122 : tf Tryd.prog 122 = some ⟨.func, 1, 8, false, some (.nilFunc)⟩ := by kernel_rfl
theorem Tryd.tf123 : tf Tryd.prog 123 = some ⟨.func, 1, 8, false, some (.nilFunc)⟩ := by kernel_rfl
theorem Tryd.tf124 : tf Tryd.prog 124 = some ⟨.array 20 118 1 false, 20, 160, true, some (.agg #[.int .u64 0, .int .u64 0, .int .u64 0, .int .u64 0, .int .u64 0, .int .u64 0, .int .u64 0, .int .u64 0, .int .u64 0, .int .u64 0, .int .u64 0, .int .u64 0, .int .u64 0, .int .u64 0, .int .u64 0, .int .u64 0, .int .u64 0, .int .u64 0, .int .u64 0, .int .u64 0])⟩ := by kernel_rfl
theorem Tryd.teq124 : teq Tryd.prog 124 = some (List.replicate 20 (.int .u64)) := by kernel_rfl
theorem Tryd.tf125 : tf Tryd.prog 125 = some ⟨.int .u32, 1, 4, false, some (.int .u32 0)⟩ := by kernel_rfl
theorem Tryd.tf126 : tf Tryd.prog 126 = some ⟨.array 65 5 1 false, 65, 65, true, some (.agg #[.int .u8 0, .int .u8 0, .int .u8 0, .int .u8 0, .int .u8 0, .int .u8 0, .int .u8 0, .int .u8 0, .int .u8 0, .int .u8 0, .int .u8 0, .int .u8 0, .int .u8 0, .int .u8 0, .int .u8 0, .int .u8 0, .int .u8 0, .int .u8 0, .int .u8 0, .int .u8 0, .int .u8 0, .int .u8 0, .int .u8 0, .int .u8 0, .int .u8 0, .int .u8 0, .int .u8 0, .int .u8 0, .int .u8 0, .int .u8 0, .int .u8 0, .int .u8 0, .int .u8 0, .int .u8 0, .int .u8 0, .int .u8 0, .int .u8 0, .int .u8 0, .int .u8 0, .int .u8 0, .int .u8 0, .int .u8 0, .int .u8 0, .int .u8 0, .int .u8 0, .int .u8 0, .int .u8 0, .int .u8 0, .int .u8 0, .int .u8 0, .int .u8 0, .int .u8 0, .int .u8 0, .int .u8 0, .int .u8 0, .int .u8 0, .int .u8 0, .int .u8 0, .int .u8 0, .int .u8 0, .int .u8 0, .int .u8 0, .int .u8 0, .int .u8 0, .int .u8 0])⟩ := by kernel_rfl
theorem Tryd.tf127 : tf Tryd.prog 127 = some ⟨.func, 1, 8, false, some (.nilFunc)⟩ := by kernel_rfl
theorem Tryd.tf128 : tf Tryd.prog 128 = some ⟨.int .u64, 1, 8, false, some (.int .u64 0)⟩ := by kernel_rfl
theorem Tryd.tf129 : tf Tryd.prog 129 = some ⟨.func, 1, 8, false, some (.nilFunc)⟩ := by kernel_rfl
theorem Tryd.tf130 : tf Tryd.prog 130 = some ⟨.func, 1, 8, false, some (.nilFunc)⟩ := by kernel_rfl
theorem Tryd.tf131 : tf Tryd.prog 131 = some ⟨.array 32 5 1 false, 32, 32, true, some (.agg #[.int .u8 0, .int .u8 0, .int .u8 0, .int .u8 0, .int .u8 0, .int .u8 0, .int .u8 0, .int .u8 0, .int .u8 0, .int .u8 0, .int .u8 0, .int .u8 0, .int .u8 0, .int .u8 0, .int .u8 0, .int .u8 0, .int .u8 0, .int .u8 0, .int .u8 0, .int .u8 0, .int .u8 0, .int .u8 0, .int .u8 0, .int .u8 0, .int .u8 0, .int .u8 0, .int .u8 0, .int .u8 0, .int .u8 0, .int .u8 0, .int .u8 0, .int .u8 0])⟩ := by kernel_rfl
theorem Tryd.teq131 : teq Tryd.prog 131 = some (List.replicate 32 (.int .u8)) := by kernel_rfl
theorem Tryd.tf132 : tf Tryd.prog 132 = some ⟨.array 64 5 1 false, 64, 64, true, some (.agg #[.int .u8 0, .int .u8 0, .int .u8 0, .int .u8 0, .int .u8 0, .int .u8 0, .int .u8 0, .int .u8 0, .int .u8 0, .int .u8 0, .int .u8 0, .int .u8 0, .int .u8 0, .int .u8 0, .int .u8 0, .int .u8 0, .int .u8 0, .int .u8 0, .int .u8 0, .int .u8 0, .int .u8 0, .int .u8 0, .int .u8 0, .int .u8 0, .int .u8 0, .int .u8 0, .int .u8 0, .int .u8 0, .int .u8 0, .int .u8 0, .int .u8 0, .int .u8 0, .int .u8 0, .int .u8 0, .int .u8 0, .int .u8 0, .int .u8 0, .int .u8 0, .int .u8 0, .int .u8 0, .int .u8 0, .int .u8 0, .int .u8 0, .int .u8 0, .int .u8 0, .int .u8 0, .int .u8 0, .int .u8 0, .int .u8 0, .int .u8 0, .int .u8 0, .int .u8 0, .int .u8 0, .int .u8 0, .int .u8 0, .int .u8 0, .int .u8 0, .int .u8 0, .int .u8 0, .int .u8 0, .int .u8 0, .int .u8 0, .int .u8 0, .int .u8 0])⟩ := by kernel_rfl
theorem Tryd.teq132 : teq Tryd.prog 132 = some (List.replicate 64 (.int .u8)) := by kernel_rfl
theorem Tryd.tf133 : tf Tryd.prog 133 = some ⟨.struct [(0, 1, false), (1, 1, false), (2, 1, false), (3, 1, false)], 4, 40, true, some (.agg #[.pointer none, .pointer none, .pointer none, .string ⟨#[]⟩])⟩ := by kernel_rfl
theorem Tryd.tf134 : tf Tryd.prog 134 = some ⟨.struct [(0, 1, false), (1, 1, false), (2, 1, false), (3, 1, false)], 4, 40, true, some (.agg #[.pointer none, .pointer none, .pointer none, .string ⟨#[]⟩])⟩ := by kernel_rfl
theorem Tryd.tf135 : tf Tryd.prog 135 = some ⟨.array 0 16 1 false, 0, 0, true, some (.agg #[])⟩ := by kernel_rfl
theorem Tryd.tf136 : tf Tryd.prog 136 = some ⟨.struct [(0, 0, true)], 0, 0, true, some (.agg #[])⟩ := by kernel_rfl
theorem Tryd.tf137 : tf Tryd.prog 137 = some ⟨.struct [(0, 0, true)], 0, 0, true, some (.agg #[])⟩ := by kernel_rfl
theorem Tryd.tf138 : tf Tryd.prog 138 = some ⟨.func, 1, 8, false, some (.nilFunc)⟩ := by kernel_rfl
theorem Tryd.tf139 : tf Tryd.prog 139 = some ⟨.int .u8, 1, 1, false, some (.int .u8 0)⟩ := by kernel_rfl
theorem Tryd.tf140 : tf Tryd.prog 140 = some ⟨.int .u8, 1, 1, false, some (.int .u8 0)⟩ := by kernel_rfl
theorem Tryd.tf141 : tf Tryd.prog 141 = some ⟨.func, 1, 8, false, some (.nilFunc)⟩ := by kernel_rfl
theorem Tryd.tf142 : tf Tryd.prog 142 = some ⟨.int .i32, 1, 4, false, some (.int .i32 0)⟩ := by kernel_rfl
theorem Tryd.tf143 : tf Tryd.prog 143 = some ⟨.int .i32, 1, 4, false, some (.int .i32 0)⟩ := by kernel_rfl
theorem Tryd.tf144 : tf Tryd.prog 144 = some ⟨.struct [(0, 1, false), (1, 1, false), (2, 1, false), (3, 1, false), (4, 1, false), (5, 1, false), (6, 1, false), (7, 1, false), (8, 1, false), (9, 1, false), (10, 1, false)], 11, 48, true, some (.agg #[.int .u64 0, .int .u64 0, .int .u32 0, .int .u8 0, .int .u8 0, .int .u8 0, .int .u8 0, .nilFunc, .pointer none, .int .i32 0, .int .i32 0])⟩ := by kernel_rfl
theorem Tryd.tf145 : tf Tryd.prog 145 = some ⟨.struct [(0, 1, false), (1, 1, false), (2, 1, false), (3, 1, false), (4, 1, false), (5, 1, false), (6, 1, false), (7, 1, false), (8, 1, false), (9, 1, false), (10, 1, false)], 11, 48, true, some (.agg #[.int .u64 0, .int .u64 0, .int .u32 0, .int .u8 0, .int .u8 0, .int .u8 0, .int .u8 0, .nilFunc, .pointer none, .int .i32 0, .int .i32 0])⟩ := by kernel_rfl
theorem Tryd.call3 : callable Tryd.prog 3 = true := by kernel_rfl
theorem Tryd.call4 : callable Tryd.prog 4 = true := by kernel_rfl
theorem Tryd.call5 : callable Tryd.prog 5 = true := by kernel_rfl
theorem Tryd.call6 : callable Tryd.prog 6 = true := by kernel_rfl
theorem Tryd.call7 : callable Tryd.prog 7 = true := by kernel_rfl
theorem Tryd.call8 : callable Tryd.prog 8 = true := by kernel_rfl
theorem Tryd.call9 : callable Tryd.prog 9 = true := by kernel_rfl
theorem Tryd.call10 : callable Tryd.prog 10 = true := by kernel_rfl
theorem Tryd.call11 : callable Tryd.prog 11 = true := by kernel_rfl
theorem Tryd.call12 : callable Tryd.prog 12 = true := by kernel_rfl
theorem Tryd.call13 : callable Tryd.prog 13 = true := by kernel_rfl
theorem Tryd.call14 : callable Tryd.prog 14 = true := by kernel_rfl
theorem Tryd.call15 : callable Tryd.prog 15 = true := by kernel_rfl
theorem Tryd.call16 : callable Tryd.prog 16 = true := by kernel_rfl
theorem Tryd.call17 : callable Tryd.prog 17 = true := by kernel_rfl
theorem Tryd.call18 : callable Tryd.prog 18 = true := by kernel_rfl
theorem Tryd.call19 : callable Tryd.prog 19 = true := by kernel_rfl
theorem Tryd.call20 : callable Tryd.prog 20 = true := by kernel_rfl
theorem Tryd.call21 : callable Tryd.prog 21 = true := by kernel_rfl
theorem Tryd.call22 : callable Tryd.prog 22 = true := by kernel_rfl
theorem Tryd.call23 : callable Tryd.prog 23 = true := by kernel_rfl
theorem Tryd.call24 : callable Tryd.prog 24 = true := by kernel_rfl
theorem Tryd.call25 : callable Tryd.prog 25 = true := by kernel_rfl
theorem Tryd.call26 : callable Tryd.prog 26 = true := by kernel_rfl
theorem Tryd.call27 : callable Tryd.prog 27 = true := by kernel_rfl
theorem Tryd.call28 : callable Tryd.prog 28 = true := by kernel_rfl
theorem Tryd.call29 : callable Tryd.prog 29 = true := by kernel_rfl
theorem Tryd.call30 : callable Tryd.prog 30 = true := by kernel_rfl
theorem Tryd.call31 : callable Tryd.prog 31 = true := by kernel_rfl
theorem Tryd.call32 : callable Tryd.prog 32 = true := by kernel_rfl
theorem Tryd.call33 : callable Tryd.prog 33 = true := by kernel_rfl
theorem Tryd.call34 : callable Tryd.prog 34 = true := by kernel_rfl
theorem Tryd.call35 : callable Tryd.prog 35 = true := by kernel_rfl
theorem Tryd.call36 : callable Tryd.prog 36 = true := by kernel_rfl
theorem Tryd.call37 : callable Tryd.prog 37 = true := by kernel_rfl
theorem Tryd.call38 : callable Tryd.prog 38 = true := by kernel_rfl
theorem Tryd.call39 : callable Tryd.prog 39 = true := by kernel_rfl
theorem Tryd.call40 : callable Tryd.prog 40 = true := by kernel_rfl
theorem Tryd.call41 : callable Tryd.prog 41 = true := by kernel_rfl
theorem Tryd.call42 : callable Tryd.prog 42 = true := by kernel_rfl
theorem Tryd.call43 : callable Tryd.prog 43 = true := by kernel_rfl
theorem Tryd.call44 : callable Tryd.prog 44 = true := by kernel_rfl
theorem Tryd.call45 : callable Tryd.prog 45 = true := by kernel_rfl
theorem Tryd.call46 : callable Tryd.prog 46 = true := by kernel_rfl
theorem Tryd.call47 : callable Tryd.prog 47 = true := by kernel_rfl
theorem Tryd.call48 : callable Tryd.prog 48 = true := by kernel_rfl
theorem Tryd.call49 : callable Tryd.prog 49 = true := by kernel_rfl
theorem Tryd.call50 : callable Tryd.prog 50 = true := by kernel_rfl
theorem Tryd.call51 : callable Tryd.prog 51 = true := by kernel_rfl
theorem Tryd.call52 : callable Tryd.prog 52 = true := by kernel_rfl
theorem Tryd.call53 : callable Tryd.prog 53 = true := by kernel_rfl
theorem Tryd.call54 : callable Tryd.prog 54 = true := by kernel_rfl
theorem Tryd.call55 : callable Tryd.prog 55 = true := by kernel_rfl
theorem Tryd.call56 : callable Tryd.prog 56 = true := by kernel_rfl
theorem Tryd.call57 : callable Tryd.prog 57 = true := by kernel_rfl
theorem Tryd.call58 : callable Tryd.prog 58 = true := by kernel_rfl
theorem Tryd.call59 : callable Tryd.prog 59 = true := by kernel_rfl
theorem Tryd.call60 : callable Tryd.prog 60 = true := by kernel_rfl
theorem Tryd.call61 : callable Tryd.prog 61 = true := by kernel_rfl
theorem Tryd.call62 : callable Tryd.prog 62 = true := by kernel_rfl
theorem Tryd.call63 : callable Tryd.prog 63 = true := by kernel_rfl
theorem Tryd.call64 : callable Tryd.prog 64 = true := by kernel_rfl
theorem Tryd.call65 : callable Tryd.prog 65 = true := by kernel_rfl
theorem Tryd.call66 : callable Tryd.prog 66 = true := by kernel_rfl
theorem Tryd.call67 : callable Tryd.prog 67 = true := by kernel_rfl
theorem Tryd.call69 : callable Tryd.prog 69 = true := by kernel_rfl
theorem Tryd.call70 : callable Tryd.prog 70 = true := by kernel_rfl
theorem Tryd.call71 : callable Tryd.prog 71 = true := by kernel_rfl
theorem Tryd.call72 : callable Tryd.prog 72 = true := by kernel_rfl
theorem Tryd.call73 : callable Tryd.prog 73 = true := by kernel_rfl
theorem Tryd.call74 : callable Tryd.prog 74 = true := by kernel_rfl
theorem Tryd.call77 : callable Tryd.prog 77 = true := by kernel_rfl
theorem Tryd.call82 : callable Tryd.prog 82 = true := by kernel_rfl
theorem Tryd.call84 : callable Tryd.prog 84 = true := by kernel_rfl
theorem Tryd.call87 : callable Tryd.prog 87 = true := by kernel_rfl
theorem Tryd.call89 : callable Tryd.prog 89 = true := by kernel_rfl
theorem Tryd.call90 : callable Tryd.prog 90 = true := by kernel_rfl
end Go.PM

namespace Go.Proofs
open Go.Shelf
open Go.RowKit in
def Tryd.lays240_ren : Go.Shelf.Ren := ⟨fun | 240 => 69 | 276 => 76 | n => n, fun | 72 => 84 | 70 => 82 | 164 => 114 | 37 => 69 | n => n, fun | n => n⟩
theorem Tryd.lays240 : Go.Proofs.Lays.n240 Tryd.prog Tryd.lays240_ren := {
  mixed := by kernel_rfl
  f240 := Tryd.func69.trans (congrArg some (by kernel_rfl))
  f276 := Tryd.func76.trans (congrArg some (by kernel_rfl))
  t0 := Tryd.underlying0
  a0 := Tryd.isAgg0
  z0 := Tryd.sizeOf0
  v0 := Tryd.zeroValue0
  t4 := Tryd.underlying4
  a4 := Tryd.isAgg4
  z4 := Tryd.sizeOf4
  v4 := Tryd.zeroValue4
  t9 := Tryd.underlying9
  a9 := Tryd.isAgg9
  z9 := Tryd.sizeOf9
  v9 := Tryd.zeroValue9
  t20 := Tryd.underlying20
  a20 := Tryd.isAgg20
  z20 := Tryd.sizeOf20
  v20 := Tryd.zeroValue20
  t70 := Tryd.underlying82
  a70 := Tryd.isAgg82
  z70 := Tryd.sizeOf82
  v70 := Tryd.zeroValue82
  t72 := Tryd.underlying84
  a72 := Tryd.isAgg84
  z72 := Tryd.sizeOf84
  v72 := Tryd.zeroValue84
  t164 := Tryd.underlying114
  a164 := Tryd.isAgg114
  z164 := Tryd.sizeOf114
  v164 := Tryd.zeroValue114 }
theorem Tryd.Builder_X72_240 : Builder.X72 Tryd.prog Tryd.lays240_ren := {
  sizeBuilder := by kernel_rfl
  liesBuilder := by kernel_rfl }
def Tryd.lays137_ren : Go.Shelf.Ren := ⟨fun | 137 => 77 | 217 => 82 | 266 => 88 | n => n, fun | 9 => 9 | 5 => 5 | 3 => 3 | n => n, fun | n => n⟩
theorem Tryd.lays137 : Go.Proofs.Lays.n137 Tryd.prog Tryd.lays137_ren := {
  mixed := by kernel_rfl
  f137 := Tryd.func77.trans (congrArg some (by kernel_rfl))
  f217 := Tryd.func82.trans (congrArg some (by kernel_rfl))
  f266 := Tryd.func88.trans (congrArg some (by kernel_rfl))
  t3 := Tryd.underlying3
  a3 := Tryd.isAgg3
  z3 := Tryd.sizeOf3
  v3 := Tryd.zeroValue3
  t5 := Tryd.underlying5
  a5 := Tryd.isAgg5
  z5 := Tryd.sizeOf5
  v5 := Tryd.zeroValue5
  t9 := Tryd.underlying9
  a9 := Tryd.isAgg9
  z9 := Tryd.sizeOf9
  v9 := Tryd.zeroValue9 }
open Go.RowKit in
/-- strings.IndexByte: "IndexByte returns the index of the first instance of c in s, or -1 if c is not present in s.": IT RETURNS 'Lib.indexByte s c'; the world is as it was. (LAID: no walk: one application.) -/
theorem Tryd.strings_IndexByte (s : ByteArray) (c : Int) (w : World) :
    Calls Tryd.prog 77 #[.string s, .int .u8 c] w fun e w' => e = .returned (.int .i64 (Lib.indexByte s.data.toList c.toNat.toUInt8)) ∧ w' = w := Any.strings_IndexByte Tryd.lays137 s c w
end Go.Proofs

namespace Go.PM
open Go.Proofs
/-- A function of plain values that turns nothing. -/
theorem PCalls_pure {P : Program} {G : Globs} {f : FuncId} (vs : List Value) (r : Value) (h : ∀ w, Calls P f vs.toArray w fun e w' => e = .returned r ∧ w' = w) :
    PCalls P G f (vs.map .val) [] (fun res H => res = .val r ∧ H = []) := by
  unfold PCalls
  intro w A F vals hA hG hnd hobj hown hsz hvals
  have e : vals = vs.toArray := by
    apply Array.ext
    · simpa using hsz
    · intro i h1 h2
      have h3 : i < vs.length := by simpa using h2
      obtain ⟨v, hv, hr⟩ := hvals i (.val vs[i]) (by rw [List.getElem?_map, List.getElem?_eq_getElem h3]; rfl)
      rw [hr.val_eq] at hv
      rw [Array.getElem?_eq_getElem h1] at hv
      simpa using Option.some.inj hv
  subst e
  refine (h w).mono ?_
  rintro e w' ⟨rfl, rfl⟩
  exact ⟨r, A, .val r, [], rfl, ⟨rfl, rfl⟩, .val _, ⟨Ext.refl _ _, hA, fun _ h => h, fun _ h => .inl h, hG, by simp, by simp, by simp, by simp, rfl, rfl, by simp⟩⟩
theorem copyCheck_c (G : Globs) (b : Int) (p q : PV) (hp : p = .val (.pointer none) ∨ p = .ptr b 0) :
    PCalls Tryd.prog G 69 [.ptr b 0] [(b, ⟨84, false, 0, [p, q]⟩)] (fun res H => res = .val (.tuple #[]) ∧ H = [(b, ⟨84, false, 0, [.ptr b 0, q]⟩)]) := by
  unfold PCalls
  intro w A F vals hA hG hnd hobj hown hsz hvals
  obtain ⟨v, hv, hr⟩ := hvals 0 (.ptr b 0) rfl
  have hs : Sim G ⟨w, A, [b], F⟩ A ⟨[], [(b, ⟨84, false, 0, [p, q]⟩)]⟩ ⟨#[], []⟩ w :=
    ⟨Ext.refl _ _, hA, fun _ h => h, fun _ h => .inl h, hG, hnd, hobj, fun n o h x hx => by
      obtain ⟨h1, h2⟩ := hown n o h x hx
      refine ⟨h1, h2, .inr ?_⟩
      simp only [List.mem_cons, List.not_mem_nil, or_false] at h
      cases h
      simp [Amb.M, hx], fun n o h hn => .inr (by
      simp only [List.mem_cons, List.not_mem_nil, or_false] at h
      cases h
      simp), rfl, rfl, by simp⟩
  obtain ⟨b', x', rfl, rfl, hsh⟩ : ∃ (b' : Nat) (x' : TypeId × Nat), b = b' ∧ v = .pointer (some (at_ b' 0)) ∧ w.shape? b' = some x' := by
    cases hr with
    | ptr b' off x' hs' => exact ⟨b', x', rfl, rfl, hs'⟩
  have hvs : vals = #[.pointer (some (at_ b' 0))] := by
    apply Array.ext
    · simpa using hsz
    · intro i h1 h2
      have h3 : i = 0 := by simp at h2; omega
      subst h3
      rw [Array.getElem?_eq_getElem h1] at hv
      simpa using Option.some.inj hv
  subst hvs
  obtain ⟨cur, fz, f, hh, hu, hg, hc⟩ := (hobj _ _ List.mem_cons_self).block rfl hsh
  have hsize : cur.size = 2 := hg.2 rfl rfl
  obtain ⟨g1, g2, g3⟩ := hc 0 p rfl
  have hcell : w.cell? ⟨b', 0, none⟩ = some (f 0) := by
    have := cell_of_block (off := 0) hh
    simpa [g1] using this
  rcases hp with rfl | rfl
  · have e0 := g3.val_eq
    rw [e0] at hcell
    have hfz : w.frozen? ⟨b', 0, none⟩ = false := by
      have := hu 0 (by omega)
      simp only [World.frozen?, hh]
      simpa using this
    refine (Any.Builder_copyCheck_fresh Tryd.lays240 Tryd.Builder_X72_240 b' w hcell (by simp [World.shape?, hh, hsize]; rfl) hfz).mono ?_
    rintro e w' ⟨rfl, rfl⟩
    have hst := hs.store (n := (b' : Int)) (o := ⟨84, false, 0, [.val (.pointer none), q]⟩) (b := b') (off := 0) (by simp [look]) rfl hsh (xs := [.ptr b' 0]) (vs := [.pointer (some (at_ b' 0))]) rfl (by simp) (.inl (by simp)) (by
      intro j u hj
      match j, hj with
      | 0, hj => cases hj; exact ⟨rfl, _, rfl, hr⟩
      | j + 1, hj => simp at hj)
    refine ⟨_, A, .val (.tuple #[]), _, rfl, ⟨rfl, rfl⟩, .val _, ?_⟩
    have e1 : ∀ o o' : PObj, upd [((b' : Int), o)] (b' : Int) o' = [((b' : Int), o')] := fun o o' => by simp only [upd, if_true]
    rw [e1] at hst
    exact hst
  · have e0 : f 0 = .pointer (some (at_ b' 0)) := by
      generalize f 0 = v at g3
      cases g3 with
      | ptr b2 off x2 hs2 => rfl
    rw [e0] at hcell
    refine (Any.Builder_copyCheck_used Tryd.lays240 Tryd.Builder_X72_240 b' w hcell).mono ?_
    rintro e w' ⟨rfl, rfl⟩
    exact ⟨_, A, .val (.tuple #[]), _, rfl, ⟨rfl, rfl⟩, .val _, hs⟩
end Go.PM

namespace Go.PM
open Go.Proofs
section
variable {P : Program} {G : Globs} {E : Amb} {A : Nat → Prop} {σ : PState} {a : Act} {w : World} {I : List Int}
theorem PCalls.nd {f : FuncId} {args : List PV} {Hin : Heap} {R : PV → Heap → Prop} (h : (names Hin).Nodup → PCalls P G f args Hin R) : PCalls P G f args Hin R :=
  fun w A F vals h1 h2 h3 => h h3 w A F vals h1 h2 h3
theorem W_nd {c : Code} {K : Exit → PState → Prop} (h : (names σ.heap).Nodup → W P G I c σ K) : W P G I c σ K :=
  fun E hE A a w hs => h hs.nodup E hE A a w hs
/-- A call to which the objects Hin are handed, wherever they stand. -/
theorem pcall_midn {fn : FuncId} {args : List PV} {R : PV → Heap → Prop} {d : Option Tmp} {K : PState → Prop} (front Hin back : Heap) (he : σ.heap = front ++ (Hin ++ back)) (hc : PCalls P G fn args Hin R)
    (hk : ∀ res Hout, R res Hout → (names (front ++ (Hout ++ back))).Nodup → K (PState.put ⟨σ.frame, front ++ (Hout ++ back)⟩ d res)) : @pcallI false P G σ d fn args ⟨K⟩ := by
  intro E A a w vals hs hsz hvals
  have nd : (names σ.heap).Nodup := hs.nodup
  rw [he] at nd
  simp only [names, List.map_append] at nd
  obtain ⟨n1, n2, n3⟩ := List.nodup_append.1 nd
  obtain ⟨n4, n5, n6⟩ := List.nodup_append.1 n2
  have hin : ∀ x ∈ Hin, x ∈ σ.heap := fun x hx => by rw [he]; exact List.mem_append_right _ (List.mem_append_left _ hx)
  have hrest : ∀ x ∈ front ++ back, x ∈ σ.heap ∧ x.1 ∉ names Hin := fun x hx => by
    rw [he]
    rcases List.mem_append.1 hx with h | h
    · exact ⟨List.mem_append_left _ h, fun hn => n3 _ (List.mem_map.2 ⟨_, h, rfl⟩) _ (List.mem_append_left _ hn) rfl⟩
    · exact ⟨List.mem_append_right _ (List.mem_append_right _ h), fun hn => n6 _ hn _ (List.mem_map.2 ⟨_, h, rfl⟩) rfl⟩
  have hrn : (names (front ++ back)).Nodup := by
    simp only [names, List.map_append]
    exact List.nodup_append.2 ⟨n1, n5, fun x hx y hy => n3 x hx y (List.mem_append_right _ hy)⟩
  refine (hc w A (names σ.heap ++ E.F) vals hs.lt hs.globs n4 (fun n o h => hs.objs n o (hin _ h)) (fun n o h b hb => ⟨(hs.own n o (hin _ h) b hb).1, (hs.own n o (hin _ h) b hb).2.1⟩) hsz hvals).mono ?_
  rintro e w' ⟨v, A', res, Hout, rfl, hR, hr, hs'⟩
  obtain ⟨hdis, hsim⟩ := hs.calledI (fun n h => List.mem_append.2 h) hin hrest hrn hs'
  have hperm : (front ++ (Hout ++ back)).Perm (Hout ++ (front ++ back)) := by
    rw [← List.append_assoc, ← List.append_assoc]
    exact List.Perm.append_right _ List.perm_append_comm
  have hsim2 : Sim G E A' ⟨σ.frame, front ++ (Hout ++ back)⟩ a w' := hsim.sub ⟨fun x hx => hperm.mem_iff.1 hx, (List.Perm.nodup_iff (List.Perm.map _ hperm)).2 hsim.nodup⟩
  exact ⟨v, _, A', rfl, hk res Hout hR hsim2.nodup, hsim2.put d hr, fun h => Bool.noConfusion h⟩
theorem pcall_mid {fn : FuncId} {args : List PV} {R : PV → Heap → Prop} {d : Option Tmp} {K : PState → Prop} (front Hin back : Heap) (he : σ.heap = front ++ (Hin ++ back)) (hc : PCalls P G fn args Hin R)
    (hk : ∀ res Hout, R res Hout → K (PState.put ⟨σ.frame, front ++ (Hout ++ back)⟩ d res)) : @pcallI false P G σ d fn args ⟨K⟩ :=
  pcall_midn front Hin back he hc fun res Hout h _ => hk res Hout h
end
theorem unb_pb (l : List UInt8) : List.map unb (List.map pbyte l) = l := bytes_unb l
theorem isB_pb (l : List UInt8) : (List.map pbyte l).all isByte = true := bytes_isByte l
/-- A builder that holds bytes. -/
@[reducible] def BS (b : Int) (bs : List UInt8) (H : Heap) : Prop :=
  (bs = [] ∧ H = [(b, ⟨84, false, 0, [.val (.pointer none), pnil]⟩)]) ∨ (bs ≠ [] ∧ ∃ r : Int, H = [(b, ⟨84, false, 0, [.ptr b 0, .row r 1 bs.length]⟩), (r, ⟨5, true, 1, bs.map pbyte⟩)])
attribute [local irreducible] W PCalls pcall pcallI WL
set_option maxRecDepth 100000 in
set_option maxHeartbeats 8000000 in
theorem writeStr_c (G : Globs) (b : Int) (bs s : List UInt8) (hs0 : s ≠ []) (hsl : s.length ≤ 1000000) (hbl : bs.length ≤ 1000000000) (Hin : Heap) (hH : BS b bs Hin) :
    PCalls Tryd.prog G 54 [.ptr b 0, pstr s] Hin (fun res H => res = .tuple [pint .i64 s.length, .val .nilIface] ∧ BS b (bs ++ s) H) := by
  have hpos : 0 < s.length := List.length_pos_iff.2 hs0
  rcases hH with ⟨rfl, rfl⟩ | ⟨hb0, r, rfl⟩
  · have c1 := copyCheck_c G b (.val (.pointer none)) pnil (.inl rfl)
    (refine PCalls_f Tryd.func54 rfl Tryd.ntmps54 Tryd.results54 (by simp) fun fin hfin => ?_; have hnm : True := trivial; simp (maxSteps := 2000000) (disch := omega) only [evb, evd, eve, constPV, seqK, blockK, scopeK, pbound, pelems, PV.mem?, PV.one, PV.cells, peqs, peq1, pkeys, pkeyt, List.set, Value.cells, ↓popG_eq, ↓pop.eq_1, ↓List.getElem?_map, ↓List.getElem?_cons_zero, ↓List.getElem?_cons_succ, Value.oneCell', Nat.reduceAdd, Nat.reduceMul, Nat.reduceSub, Nat.reduceLeDiff, Nat.reduceEqDiff, ↓reduceIte, ne_eq, reduceCtorEq, forall_const, exists_and_left, exists_eq_left', eq_self, Nat.reduceLT, Int.reduceLT, Int.reduceLE, Int.reduceToNat, Int.reduceAdd, Int.reduceSub, Int.reduceNeg, hnm, Tryd.tf0, Tryd.tf1, Tryd.tf3, Tryd.tf5, Tryd.tf9, Tryd.tf69, Tryd.tf82, Tryd.tf84, Tryd.tf87, Tryd.call69])
    repeat' (first
    | (with_reducible apply W_seq_k; intro nx hnx)
    | (with_reducible first | apply W_block | apply W_scope)
    | (with_reducible refine W_prune 51 ?_; simp only [prb, Nat.reducePow, Nat.reduceDiv, Nat.reduceMod, Nat.reduceBEq]; with_reducible apply W_region_l)
    | ((first | (with_reducible apply WL_op; intro nx hnx) | with_reducible refine Ev_out ?_ | (with_reducible refine pfresh_k hnm fun nm hnm => ?_; (try simp only [fmb] at hnm)) | (with_reducible refine pborn_mu hnm fun nm hnm => ?_; (try simp only [fmb] at hnm))); try (simp (maxSteps := 2000000) (disch := omega) only [evb, evd, eve, constPV, seqK, blockK, scopeK, pbound, pelems, PV.mem?, PV.one, PV.cells, peqs, peq1, pkeys, pkeyt, List.set, Value.cells, ↓popG_eq, ↓pop.eq_1, ↓List.getElem?_map, ↓List.getElem?_cons_zero, ↓List.getElem?_cons_succ, Value.oneCell', Nat.reduceAdd, Nat.reduceMul, Nat.reduceSub, Nat.reduceLeDiff, Nat.reduceEqDiff, ↓reduceIte, ne_eq, reduceCtorEq, forall_const, exists_and_left, exists_eq_left', eq_self, Nat.reduceLT, Int.reduceLT, Int.reduceLE, Int.reduceToNat, Int.reduceAdd, Int.reduceSub, Int.reduceNeg, hnm, Tryd.tf0, Tryd.tf1, Tryd.tf3, Tryd.tf5, Tryd.tf9, Tryd.tf69, Tryd.tf82, Tryd.tf84, Tryd.tf87, Tryd.call69]); repeat (refine And.intro (by omega) ?_))
    | ((with_reducible first | apply WL_nil | apply W_label | apply W_skip | apply W_exit | apply W_ret); try simp only [seqK, blockK, scopeK, ↓reduceIte, Nat.reduceEqDiff])
    | (with_reducible apply W_cond_k; intro _ _ ea eb; (simp only [condK, cob, opnd, constPV, Nat.reduceEqDiff, Nat.reduceLT, ↓reduceIte, hcb, reduceCtorEq, forall_const, ne_eq]); subst ea eb; first | (refine ⟨fun hc => ?_, fun hc => ?_⟩ <;> first | (exfalso; omega) | (exfalso; exact hc trivial) | skip) | skip)
    | (with_reducible apply hnx; clear hnx nx)
    | (with_reducible refine And.intro (by omega) ?_)
    | (with_reducible refine And.intro ?_ ?_)
    | ((refine pcall_mid [] _ [] rfl c1 ?_; rintro _ _ ⟨rfl, rfl⟩; refine Ev_in ?_))
    | (clear hnx nx; with_reducible apply hnx; clear hnx nx)
    | (clear hnx nx; clear hnx nx; with_reducible apply hnx; clear hnx nx))
    refine hfin _ _ (Fin_ret2 rfl rfl (H := [(b, ⟨84, false, 0, [.ptr b 0, .row nm 1 s.length]⟩), (nm, ⟨5, true, 1, s.map pbyte⟩)]) ⟨?_, ?_⟩ ⟨?_, .inr ⟨by simpa using hs0, nm, rfl⟩⟩)
    · intro x hx
      simp only [List.mem_cons, List.not_mem_nil, or_false] at hx ⊢
      rcases hx with rfl | rfl
      · exact .inr rfl
      · exact .inl rfl
    · simp [names, hnm]
    · simp only [fr_getD_cons, Nat.reduceEqDiff, Nat.reduceLT, ↓reduceIte]
  · refine PCalls.nd fun nd => ?_
    have hne : (b = r) = False ∧ (r = b) = False := by
      simp only [names, List.map_cons, List.map_nil, List.nodup_cons, List.mem_cons, List.not_mem_nil, or_false] at nd
      exact ⟨eq_false nd.1, eq_false fun e => nd.1 e.symm⟩
    have c1 := copyCheck_c G b (.ptr b 0) (.row r 1 bs.length) (.inr rfl)
    (refine PCalls_f Tryd.func54 rfl Tryd.ntmps54 Tryd.results54 (by simp) fun fin hfin => ?_; have hnm : True := trivial; simp (maxSteps := 2000000) (disch := omega) only [evb, evd, eve, constPV, seqK, blockK, scopeK, pbound, pelems, PV.mem?, PV.one, PV.cells, peqs, peq1, pkeys, pkeyt, List.set, Value.cells, ↓popG_eq, ↓pop.eq_1, ↓List.getElem?_map, ↓List.getElem?_cons_zero, ↓List.getElem?_cons_succ, Value.oneCell', Nat.reduceAdd, Nat.reduceMul, Nat.reduceSub, Nat.reduceLeDiff, Nat.reduceEqDiff, ↓reduceIte, ne_eq, reduceCtorEq, forall_const, exists_and_left, exists_eq_left', eq_self, Nat.reduceLT, Int.reduceLT, Int.reduceLE, Int.reduceToNat, Int.reduceAdd, Int.reduceSub, Int.reduceNeg, hnm, Tryd.tf0, Tryd.tf1, Tryd.tf3, Tryd.tf5, Tryd.tf9, Tryd.tf69, Tryd.tf82, Tryd.tf84, Tryd.tf87, Tryd.call69])
    repeat' (first
    | (with_reducible apply W_seq_k; intro nx hnx)
    | (with_reducible first | apply W_block | apply W_scope)
    | (with_reducible refine W_prune 51 ?_; simp only [prb, Nat.reducePow, Nat.reduceDiv, Nat.reduceMod, Nat.reduceBEq]; with_reducible apply W_region_l)
    | ((first | (with_reducible apply WL_op; intro nx hnx) | with_reducible refine Ev_out ?_ | (with_reducible refine pfresh_k hnm fun nm hnm => ?_; (try simp only [fmb] at hnm)) | (with_reducible refine pborn_mu hnm fun nm hnm => ?_; (try simp only [fmb] at hnm))); try (simp (maxSteps := 2000000) (disch := omega) only [evb, evd, eve, constPV, seqK, blockK, scopeK, pbound, pelems, PV.mem?, PV.one, PV.cells, peqs, peq1, pkeys, pkeyt, List.set, Value.cells, ↓popG_eq, ↓pop.eq_1, ↓List.getElem?_map, ↓List.getElem?_cons_zero, ↓List.getElem?_cons_succ, Value.oneCell', Nat.reduceAdd, Nat.reduceMul, Nat.reduceSub, Nat.reduceLeDiff, Nat.reduceEqDiff, ↓reduceIte, ne_eq, reduceCtorEq, forall_const, exists_and_left, exists_eq_left', eq_self, Nat.reduceLT, Int.reduceLT, Int.reduceLE, Int.reduceToNat, Int.reduceAdd, Int.reduceSub, Int.reduceNeg, hnm, Tryd.tf0, Tryd.tf1, Tryd.tf3, Tryd.tf5, Tryd.tf9, Tryd.tf69, Tryd.tf82, Tryd.tf84, Tryd.tf87, Tryd.call69, hne]); repeat (refine And.intro (by omega) ?_))
    | ((with_reducible first | apply WL_nil | apply W_label | apply W_skip | apply W_exit | apply W_ret); try simp only [seqK, blockK, scopeK, ↓reduceIte, Nat.reduceEqDiff])
    | (with_reducible apply W_cond_k; intro _ _ ea eb; (simp only [condK, cob, opnd, constPV, Nat.reduceEqDiff, Nat.reduceLT, ↓reduceIte, hcb, reduceCtorEq, forall_const, ne_eq]); subst ea eb; first | (refine ⟨fun hc => ?_, fun hc => ?_⟩ <;> first | (exfalso; omega) | (exfalso; exact hc trivial) | skip) | skip)
    | (with_reducible apply hnx; clear hnx nx)
    | (with_reducible refine And.intro (by omega) ?_)
    | (with_reducible refine And.intro ?_ ?_)
    | ((refine pcall_mid [] [_] [_] rfl c1 ?_; rintro _ _ ⟨rfl, rfl⟩; refine Ev_in ?_))
    | (clear hnx nx; with_reducible apply hnx; clear hnx nx)
    | (clear hnx nx; clear hnx nx; with_reducible apply hnx; clear hnx nx))
    have e1 : (bs ++ s).map pbyte = bs.map pbyte ++ bytes s := by rw [List.map_append]; rfl
    have e2 : (bs ++ s).length = bs.length + s.length := List.length_append
    refine hfin _ _ (Fin_ret2 rfl rfl (H := [(b, ⟨84, false, 0, [.ptr b 0, .row nm 1 (bs ++ s).length]⟩), (nm, ⟨5, true, 1, (bs ++ s).map pbyte⟩)]) ⟨?_, ?_⟩ ⟨?_, .inr ⟨by simp [hb0], nm, rfl⟩⟩)
    · intro x hx
      rw [e1, e2] at hx
      simp only [List.mem_cons, List.not_mem_nil, or_false] at hx ⊢
      rcases hx with rfl | rfl
      · exact .inr rfl
      · exact .inl rfl
    · simp [names, hnm]
    · simp only [fr_getD_cons, Nat.reduceEqDiff, Nat.reduceLT, ↓reduceIte]
set_option maxRecDepth 100000 in
set_option maxHeartbeats 8000000 in
theorem string_c (G : Globs) (b : Int) (bs : List UInt8) (hbl : bs.length ≤ 1000000000) (Hin : Heap) (hH : BS b bs Hin) : PCalls Tryd.prog G 55 [.ptr b 0] Hin (fun res H => res = pstr bs ∧ H = []) := by
  rcases hH with ⟨rfl, rfl⟩ | ⟨hb0, r, rfl⟩
  · (refine PCalls_f Tryd.func55 rfl Tryd.ntmps55 Tryd.results55 (by simp) fun fin hfin => ?_; have hnm : True := trivial; simp (maxSteps := 2000000) (disch := omega) only [evb, evd, eve, constPV, seqK, blockK, scopeK, pbound, pelems, PV.mem?, PV.one, PV.cells, peqs, peq1, pkeys, pkeyt, List.set, Value.cells, ↓popG_eq, ↓pop.eq_1, ↓List.getElem?_map, ↓List.getElem?_cons_zero, ↓List.getElem?_cons_succ, Value.oneCell', Nat.reduceAdd, Nat.reduceMul, Nat.reduceSub, Nat.reduceLeDiff, Nat.reduceEqDiff, ↓reduceIte, ne_eq, reduceCtorEq, forall_const, exists_and_left, exists_eq_left', eq_self, Nat.reduceLT, Int.reduceLT, Int.reduceLE, Int.reduceToNat, Int.reduceAdd, Int.reduceSub, Int.reduceNeg, hnm, Tryd.tf0, Tryd.tf1, Tryd.tf3, Tryd.tf5, Tryd.tf9, Tryd.tf69, Tryd.tf82, Tryd.tf84, Tryd.tf107])
    repeat' (first
    | (with_reducible apply W_seq_k; intro nx hnx)
    | (with_reducible first | apply W_block | apply W_scope)
    | (with_reducible refine W_prune 5 ?_; simp only [prb, Nat.reducePow, Nat.reduceDiv, Nat.reduceMod, Nat.reduceBEq]; first | (with_reducible apply W_region_l) | with_reducible refine W_region_draw (id := 1) 4 (.op 0 true (.op 1 true (.op 2 true (.op 3 true (.op 5 true (.op 6 true (.op 7 true (.op 8 true (.op 9 true (.op 4 true (.op 10 false (.op 11 true (.done))))))))))))) (by kernel_rfl) ?_)
    | ((first | (with_reducible apply WL_op; intro nx hnx) | with_reducible refine Ev_out ?_ | (with_reducible apply popsD_op; intro nx hnx) | (with_reducible refine popsD_alt ?_ ?_; intro nx hnx)); try (simp (maxSteps := 2000000) (disch := omega) only [evb, evd, eve, constPV, seqK, blockK, scopeK, pbound, pelems, PV.mem?, PV.one, PV.cells, peqs, peq1, pkeys, pkeyt, List.set, Value.cells, ↓popG_eq, ↓pop.eq_1, ↓List.getElem?_map, ↓List.getElem?_cons_zero, ↓List.getElem?_cons_succ, Value.oneCell', Nat.reduceAdd, Nat.reduceMul, Nat.reduceSub, Nat.reduceLeDiff, Nat.reduceEqDiff, ↓reduceIte, ne_eq, reduceCtorEq, forall_const, exists_and_left, exists_eq_left', eq_self, Nat.reduceLT, Int.reduceLT, Int.reduceLE, Int.reduceToNat, Int.reduceAdd, Int.reduceSub, Int.reduceNeg, hnm, Tryd.tf0, Tryd.tf1, Tryd.tf3, Tryd.tf5, Tryd.tf9, Tryd.tf69, Tryd.tf82, Tryd.tf84, Tryd.tf107]); repeat (refine And.intro (by omega) ?_))
    | ((with_reducible first | apply WL_nil | apply W_label | apply W_skip | apply W_exit | apply W_ret | apply popsD_done); try simp only [seqK, blockK, scopeK, ↓reduceIte, Nat.reduceEqDiff])
    | with_reducible exact popsD_stop
    | (with_reducible apply W_cond_k; intro _ _ ea eb; (simp only [condK, cob, opnd, constPV, Nat.reduceEqDiff, Nat.reduceLT, ↓reduceIte, hcb, reduceCtorEq, forall_const, ne_eq]); subst ea eb; first | (refine ⟨fun hc => ?_, fun hc => ?_⟩ <;> first | (exfalso; omega) | (exfalso; exact hc trivial) | skip) | skip)
    | (with_reducible apply hnx; clear hnx nx)
    | (with_reducible refine And.intro (by omega) ?_)
    | (with_reducible refine And.intro ?_ ?_)
    | (clear hnx nx; with_reducible apply hnx; clear hnx nx)
    | (clear hnx nx; clear hnx nx; with_reducible apply hnx; clear hnx nx))
    (refine hfin _ _ (Fin_ret1 rfl (Sub_nil _) ?_); simp only [List.getD_cons_zero, List.getD_cons_succ, fr_getD_cons, fr_getD_nil, Nat.reduceEqDiff, Nat.reduceLT, ↓reduceIte]; first | trivial | exact ⟨rfl, by trivial⟩ | (simp; done) | (simp; omega))
  · refine PCalls.nd fun nd => ?_
    have hne : (b = r) = False ∧ (r = b) = False := by
      simp only [names, List.map_cons, List.map_nil, List.nodup_cons, List.mem_cons, List.not_mem_nil, or_false] at nd
      exact ⟨eq_false nd.1, eq_false fun e => nd.1 e.symm⟩
    have hpos : 0 < bs.length := List.length_pos_iff.2 hb0
    have u1 := unb_pb bs
    have u2 := isB_pb bs
    (refine PCalls_f Tryd.func55 rfl Tryd.ntmps55 Tryd.results55 (by simp) fun fin hfin => ?_; have hnm : True := trivial; simp (maxSteps := 2000000) (disch := omega) only [evb, evd, eve, constPV, seqK, blockK, scopeK, pbound, pelems, PV.mem?, PV.one, PV.cells, peqs, peq1, pkeys, pkeyt, List.set, Value.cells, ↓popG_eq, ↓pop.eq_1, ↓List.getElem?_map, ↓List.getElem?_cons_zero, ↓List.getElem?_cons_succ, Value.oneCell', Nat.reduceAdd, Nat.reduceMul, Nat.reduceSub, Nat.reduceLeDiff, Nat.reduceEqDiff, ↓reduceIte, ne_eq, reduceCtorEq, forall_const, exists_and_left, exists_eq_left', eq_self, Nat.reduceLT, Int.reduceLT, Int.reduceLE, Int.reduceToNat, Int.reduceAdd, Int.reduceSub, Int.reduceNeg, hnm, Tryd.tf0, Tryd.tf1, Tryd.tf3, Tryd.tf5, Tryd.tf9, Tryd.tf69, Tryd.tf82, Tryd.tf84, Tryd.tf107])
    repeat' (first
    | (with_reducible apply W_seq_k; intro nx hnx)
    | (with_reducible first | apply W_block | apply W_scope)
    | (with_reducible refine W_prune 5 ?_; simp only [prb, Nat.reducePow, Nat.reduceDiv, Nat.reduceMod, Nat.reduceBEq]; first | (with_reducible apply W_region_l) | with_reducible refine W_region_draw (id := 1) 4 (.op 0 true (.op 1 true (.op 2 true (.op 3 true (.op 5 true (.op 6 true (.op 7 true (.op 8 true (.op 9 true (.op 4 true (.op 10 false (.op 11 true (.done))))))))))))) (by kernel_rfl) ?_)
    | ((first | (with_reducible apply WL_op; intro nx hnx) | with_reducible refine Ev_out ?_ | (with_reducible apply popsD_op; intro nx hnx) | (with_reducible refine popsD_alt ?_ ?_; intro nx hnx)); try (simp (maxSteps := 2000000) (disch := omega) only [evb, evd, eve, constPV, seqK, blockK, scopeK, pbound, pelems, PV.mem?, PV.one, PV.cells, peqs, peq1, pkeys, pkeyt, List.set, Value.cells, ↓popG_eq, ↓pop.eq_1, ↓List.getElem?_map, ↓List.getElem?_cons_zero, ↓List.getElem?_cons_succ, Value.oneCell', Nat.reduceAdd, Nat.reduceMul, Nat.reduceSub, Nat.reduceLeDiff, Nat.reduceEqDiff, ↓reduceIte, ne_eq, reduceCtorEq, forall_const, exists_and_left, exists_eq_left', eq_self, Nat.reduceLT, Int.reduceLT, Int.reduceLE, Int.reduceToNat, Int.reduceAdd, Int.reduceSub, Int.reduceNeg, hnm, Tryd.tf0, Tryd.tf1, Tryd.tf3, Tryd.tf5, Tryd.tf9, Tryd.tf69, Tryd.tf82, Tryd.tf84, Tryd.tf107, hne, u1, u2, List.length_map]); repeat (refine And.intro (by omega) ?_))
    | ((with_reducible first | apply WL_nil | apply W_label | apply W_skip | apply W_exit | apply W_ret | apply popsD_done); try simp only [seqK, blockK, scopeK, ↓reduceIte, Nat.reduceEqDiff])
    | with_reducible exact popsD_stop
    | (with_reducible apply W_cond_k; intro _ _ ea eb; (simp only [condK, cob, opnd, constPV, Nat.reduceEqDiff, Nat.reduceLT, ↓reduceIte, hcb, reduceCtorEq, forall_const, ne_eq]); subst ea eb; first | (refine ⟨fun hc => ?_, fun hc => ?_⟩ <;> first | (exfalso; omega) | (exfalso; exact hc trivial) | skip) | skip)
    | (with_reducible apply hnx; clear hnx nx)
    | (with_reducible refine And.intro (by omega) ?_)
    | (with_reducible refine And.intro ?_ ?_)
    | (clear hnx nx; with_reducible apply hnx; clear hnx nx)
    | (clear hnx nx; clear hnx nx; with_reducible apply hnx; clear hnx nx))
    all_goals first
      | (refine hfin _ _ (Fin_ret1 rfl (Sub_nil _) ?_); simp only [List.getD_cons_zero, List.getD_cons_succ, fr_getD_cons, fr_getD_nil, Nat.reduceEqDiff, Nat.reduceLT, ↓reduceIte]; first | trivial | exact ⟨rfl, by trivial⟩ | (simp; done) | (simp; omega))
      | exact (by kernel_rfl : Tryd.prog.cellsOf 5 = 1)
theorem indexByte_c (G : Globs) (s : List UInt8) (c : UInt8) : PCalls Tryd.prog G 77 [pstr s, pbyte c] [] (fun res H => res = pint .i64 (Lib.indexByte s c) ∧ H = []) :=
  PCalls_pure (P := Tryd.prog) (G := G) (f := 77) [.string (mk s), .int .u8 c.toNat] (.int .i64 (Lib.indexByte s c)) (fun w => by
    have := Tryd.strings_IndexByte (mk s) c.toNat w
    simpa [mk] using this)
end Go.PM

namespace Go.PM
open Go.Proofs
attribute [local irreducible] W PCalls pcall pcallI WL
set_option maxRecDepth 100000 in
set_option maxHeartbeats 8000000 in
theorem within_c (G : Globs) (n lo hi : Int) : PCalls Tryd.prog G 53 [pint .i64 n, pint .i64 lo, pint .i64 hi] [] (fun res H => res = pbool (decide (lo ≤ n) && decide (n ≤ hi)) ∧ H = []) := by
  by_cases h1 : lo ≤ n
  · by_cases h2 : n ≤ hi
    · (refine PCalls_f Tryd.func53 rfl Tryd.ntmps53 Tryd.results53 (by simp) fun fin hfin => ?_; have hnm : True := trivial; simp (maxSteps := 2000000) (disch := omega) only [evb, evd, eve, constPV, seqK, blockK, scopeK, pbound, pelems, PV.mem?, PV.one, PV.cells, peqs, peq1, pkeys, pkeyt, List.set, Value.cells, ↓popG_eq, ↓pop.eq_1, ↓List.getElem?_map, ↓List.getElem?_cons_zero, ↓List.getElem?_cons_succ, Value.oneCell', Nat.reduceAdd, Nat.reduceMul, Nat.reduceSub, Nat.reduceLeDiff, Nat.reduceEqDiff, ↓reduceIte, ne_eq, reduceCtorEq, forall_const, exists_and_left, exists_eq_left', eq_self, Nat.reduceLT, Int.reduceLT, Int.reduceLE, Int.reduceToNat, Int.reduceAdd, Int.reduceSub, Int.reduceNeg, hnm, Tryd.tf3, Tryd.tf4])
      repeat' (first
    | (with_reducible apply W_seq_k; intro nx hnx)
    | (with_reducible first | apply W_block | apply W_scope)
    | (with_reducible refine W_prune 71 ?_; simp only [prb, Nat.reducePow, Nat.reduceDiv, Nat.reduceMod, Nat.reduceBEq]; with_reducible apply W_region_l)
    | ((first | (with_reducible apply WL_op; intro nx hnx) | with_reducible refine Ev_out ?_); try (simp (maxSteps := 2000000) (disch := omega) only [evb, evd, eve, constPV, seqK, blockK, scopeK, pbound, pelems, PV.mem?, PV.one, PV.cells, peqs, peq1, pkeys, pkeyt, List.set, Value.cells, ↓popG_eq, ↓pop.eq_1, ↓List.getElem?_map, ↓List.getElem?_cons_zero, ↓List.getElem?_cons_succ, Value.oneCell', Nat.reduceAdd, Nat.reduceMul, Nat.reduceSub, Nat.reduceLeDiff, Nat.reduceEqDiff, ↓reduceIte, ne_eq, reduceCtorEq, forall_const, exists_and_left, exists_eq_left', eq_self, Nat.reduceLT, Int.reduceLT, Int.reduceLE, Int.reduceToNat, Int.reduceAdd, Int.reduceSub, Int.reduceNeg, hnm, Tryd.tf3, Tryd.tf4]); repeat (refine And.intro (by omega) ?_))
    | ((with_reducible first | apply WL_nil | apply W_label | apply W_skip | apply W_exit | apply W_ret); try simp only [seqK, blockK, scopeK, ↓reduceIte, Nat.reduceEqDiff])
    | (with_reducible apply pguard_intro <;> (intro hc; (try simp only [hcb, reduceCtorEq, forall_const, ne_eq] at hc); first | (exfalso; omega) | (exfalso; exact hc trivial) | refine Ev_in ?_))
    | (with_reducible apply W_cond_k; intro _ _ ea eb; (simp only [condK, cob, opnd, constPV, Nat.reduceEqDiff, Nat.reduceLT, ↓reduceIte, hcb, reduceCtorEq, forall_const, ne_eq]); subst ea eb; first | (refine ⟨fun hc => ?_, fun hc => ?_⟩ <;> first | (exfalso; omega) | (exfalso; exact hc trivial) | skip) | skip)
    | (with_reducible apply hnx; clear hnx nx)
    | (with_reducible refine And.intro (by omega) ?_)
    | (with_reducible refine And.intro ?_ ?_)
    | (clear hnx nx; with_reducible apply hnx; clear hnx nx)
    | (clear hnx nx; clear hnx nx; with_reducible apply hnx; clear hnx nx))
      all_goals first
        | exact absurd trivial hc
        | (exfalso
           omega)
        | skip
      all_goals
        refine hfin _ _ (Fin_ret1 rfl (Sub_nil _) ?_); simp only [List.getD_cons_zero, List.getD_cons_succ, fr_getD_cons, fr_getD_nil, Nat.reduceEqDiff, Nat.reduceLT, ↓reduceIte]
        exact ⟨by simp [h1, h2], by trivial⟩
    · (refine PCalls_f Tryd.func53 rfl Tryd.ntmps53 Tryd.results53 (by simp) fun fin hfin => ?_; have hnm : True := trivial; simp (maxSteps := 2000000) (disch := omega) only [evb, evd, eve, constPV, seqK, blockK, scopeK, pbound, pelems, PV.mem?, PV.one, PV.cells, peqs, peq1, pkeys, pkeyt, List.set, Value.cells, ↓popG_eq, ↓pop.eq_1, ↓List.getElem?_map, ↓List.getElem?_cons_zero, ↓List.getElem?_cons_succ, Value.oneCell', Nat.reduceAdd, Nat.reduceMul, Nat.reduceSub, Nat.reduceLeDiff, Nat.reduceEqDiff, ↓reduceIte, ne_eq, reduceCtorEq, forall_const, exists_and_left, exists_eq_left', eq_self, Nat.reduceLT, Int.reduceLT, Int.reduceLE, Int.reduceToNat, Int.reduceAdd, Int.reduceSub, Int.reduceNeg, hnm, Tryd.tf3, Tryd.tf4])
      repeat' (first
    | (with_reducible apply W_seq_k; intro nx hnx)
    | (with_reducible first | apply W_block | apply W_scope)
    | (with_reducible refine W_prune 71 ?_; simp only [prb, Nat.reducePow, Nat.reduceDiv, Nat.reduceMod, Nat.reduceBEq]; with_reducible apply W_region_l)
    | ((first | (with_reducible apply WL_op; intro nx hnx) | with_reducible refine Ev_out ?_); try (simp (maxSteps := 2000000) (disch := omega) only [evb, evd, eve, constPV, seqK, blockK, scopeK, pbound, pelems, PV.mem?, PV.one, PV.cells, peqs, peq1, pkeys, pkeyt, List.set, Value.cells, ↓popG_eq, ↓pop.eq_1, ↓List.getElem?_map, ↓List.getElem?_cons_zero, ↓List.getElem?_cons_succ, Value.oneCell', Nat.reduceAdd, Nat.reduceMul, Nat.reduceSub, Nat.reduceLeDiff, Nat.reduceEqDiff, ↓reduceIte, ne_eq, reduceCtorEq, forall_const, exists_and_left, exists_eq_left', eq_self, Nat.reduceLT, Int.reduceLT, Int.reduceLE, Int.reduceToNat, Int.reduceAdd, Int.reduceSub, Int.reduceNeg, hnm, Tryd.tf3, Tryd.tf4]); repeat (refine And.intro (by omega) ?_))
    | ((with_reducible first | apply WL_nil | apply W_label | apply W_skip | apply W_exit | apply W_ret); try simp only [seqK, blockK, scopeK, ↓reduceIte, Nat.reduceEqDiff])
    | (with_reducible apply pguard_intro <;> (intro hc; (try simp only [hcb, reduceCtorEq, forall_const, ne_eq] at hc); first | (exfalso; omega) | (exfalso; exact hc trivial) | refine Ev_in ?_))
    | (with_reducible apply W_cond_k; intro _ _ ea eb; (simp only [condK, cob, opnd, constPV, Nat.reduceEqDiff, Nat.reduceLT, ↓reduceIte, hcb, reduceCtorEq, forall_const, ne_eq]); subst ea eb; first | (refine ⟨fun hc => ?_, fun hc => ?_⟩ <;> first | (exfalso; omega) | (exfalso; exact hc trivial) | skip) | skip)
    | (with_reducible apply hnx; clear hnx nx)
    | (with_reducible refine And.intro (by omega) ?_)
    | (with_reducible refine And.intro ?_ ?_)
    | (clear hnx nx; with_reducible apply hnx; clear hnx nx)
    | (clear hnx nx; clear hnx nx; with_reducible apply hnx; clear hnx nx))
      all_goals first
        | exact absurd trivial hc
        | (exfalso
           omega)
        | skip
      all_goals
        refine hfin _ _ (Fin_ret1 rfl (Sub_nil _) ?_); simp only [List.getD_cons_zero, List.getD_cons_succ, fr_getD_cons, fr_getD_nil, Nat.reduceEqDiff, Nat.reduceLT, ↓reduceIte]
        exact ⟨by simp [h1, h2], by trivial⟩
  · (refine PCalls_f Tryd.func53 rfl Tryd.ntmps53 Tryd.results53 (by simp) fun fin hfin => ?_; have hnm : True := trivial; simp (maxSteps := 2000000) (disch := omega) only [evb, evd, eve, constPV, seqK, blockK, scopeK, pbound, pelems, PV.mem?, PV.one, PV.cells, peqs, peq1, pkeys, pkeyt, List.set, Value.cells, ↓popG_eq, ↓pop.eq_1, ↓List.getElem?_map, ↓List.getElem?_cons_zero, ↓List.getElem?_cons_succ, Value.oneCell', Nat.reduceAdd, Nat.reduceMul, Nat.reduceSub, Nat.reduceLeDiff, Nat.reduceEqDiff, ↓reduceIte, ne_eq, reduceCtorEq, forall_const, exists_and_left, exists_eq_left', eq_self, Nat.reduceLT, Int.reduceLT, Int.reduceLE, Int.reduceToNat, Int.reduceAdd, Int.reduceSub, Int.reduceNeg, hnm, Tryd.tf3, Tryd.tf4])
    repeat' (first
    | (with_reducible apply W_seq_k; intro nx hnx)
    | (with_reducible first | apply W_block | apply W_scope)
    | (with_reducible refine W_prune 71 ?_; simp only [prb, Nat.reducePow, Nat.reduceDiv, Nat.reduceMod, Nat.reduceBEq]; with_reducible apply W_region_l)
    | ((first | (with_reducible apply WL_op; intro nx hnx) | with_reducible refine Ev_out ?_); try (simp (maxSteps := 2000000) (disch := omega) only [evb, evd, eve, constPV, seqK, blockK, scopeK, pbound, pelems, PV.mem?, PV.one, PV.cells, peqs, peq1, pkeys, pkeyt, List.set, Value.cells, ↓popG_eq, ↓pop.eq_1, ↓List.getElem?_map, ↓List.getElem?_cons_zero, ↓List.getElem?_cons_succ, Value.oneCell', Nat.reduceAdd, Nat.reduceMul, Nat.reduceSub, Nat.reduceLeDiff, Nat.reduceEqDiff, ↓reduceIte, ne_eq, reduceCtorEq, forall_const, exists_and_left, exists_eq_left', eq_self, Nat.reduceLT, Int.reduceLT, Int.reduceLE, Int.reduceToNat, Int.reduceAdd, Int.reduceSub, Int.reduceNeg, hnm, Tryd.tf3, Tryd.tf4]); repeat (refine And.intro (by omega) ?_))
    | ((with_reducible first | apply WL_nil | apply W_label | apply W_skip | apply W_exit | apply W_ret); try simp only [seqK, blockK, scopeK, ↓reduceIte, Nat.reduceEqDiff])
    | (with_reducible apply pguard_intro <;> (intro hc; (try simp only [hcb, reduceCtorEq, forall_const, ne_eq] at hc); first | (exfalso; omega) | (exfalso; exact hc trivial) | refine Ev_in ?_))
    | (with_reducible apply W_cond_k; intro _ _ ea eb; (simp only [condK, cob, opnd, constPV, Nat.reduceEqDiff, Nat.reduceLT, ↓reduceIte, hcb, reduceCtorEq, forall_const, ne_eq]); subst ea eb; first | (refine ⟨fun hc => ?_, fun hc => ?_⟩ <;> first | (exfalso; omega) | (exfalso; exact hc trivial) | skip) | skip)
    | (with_reducible apply hnx; clear hnx nx)
    | (with_reducible refine And.intro (by omega) ?_)
    | (with_reducible refine And.intro ?_ ?_)
    | (clear hnx nx; with_reducible apply hnx; clear hnx nx)
    | (clear hnx nx; clear hnx nx; with_reducible apply hnx; clear hnx nx))
    all_goals first
      | exact absurd trivial hc
      | (exfalso
         omega)
      | skip
    all_goals
      refine hfin _ _ (Fin_ret1 rfl (Sub_nil _) ?_); simp only [List.getD_cons_zero, List.getD_cons_succ, fr_getD_cons, fr_getD_nil, Nat.reduceEqDiff, Nat.reduceLT, ↓reduceIte]
      exact ⟨by simp [h1], by trivial⟩
theorem indexByte_iff (c : UInt8) : ∀ l : List UInt8, (0 ≤ Lib.indexByte l c ↔ l.contains c = true) ∧ -1 ≤ Lib.indexByte l c
  | [] => by simp [Lib.indexByte]
  | x :: r => by
    obtain ⟨h1, h2⟩ := indexByte_iff c r
    unfold Lib.indexByte
    by_cases hx : x = c
    · subst hx
      simp
    · have hb : (x == c) = false := by simpa using hx
      have hb2 : (c == x) = false := by simpa using fun e => hx (Eq.symm e)
      rw [hb]
      simp only [Bool.false_eq_true, if_false, List.contains_cons, hb2, Bool.false_or]
      split
      · rename_i h3
        have h3 : Lib.indexByte r c = -1 := by simpa using h3
        rw [← h1, h3]
        simp
      · rename_i h3
        have h3 : ¬ Lib.indexByte r c = -1 := by simpa using h3
        rw [← h1]
        omega
theorem okB_iff (c : UInt8) : okB c = (!(decide ((c.toNat : Int) < 33) || decide (0 ≤ Lib.indexByte resB c))) := by
  have := (indexByte_iff c resB).1
  unfold okB
  cases h : resB.contains c with
  | true =>
    have h2 := this.2 h
    simp [h2]
  | false =>
    have h2 : ¬ 0 ≤ Lib.indexByte resB c := fun k => by rw [this.1 k] at h; cases h
    by_cases h3 : 33 ≤ c.toNat
    · simp [h2, h3]
      omega
    · simp [h3]
      omega
set_option maxRecDepth 100000 in
set_option maxHeartbeats 8000000 in
theorem plain_c (G : Globs) (s : List UInt8) (hs : (s.length : Int) ≤ 9223372036854775807) : PCalls Tryd.prog G 71 [pstr s] [] (fun res H => res = pbool (plainB s) ∧ H = []) := by
  (refine PCalls_f Tryd.func71 rfl Tryd.ntmps71 Tryd.results71 (by simp) fun fin hfin => ?_; have hnm : True := trivial; simp (maxSteps := 2000000) (disch := omega) only [evb, evd, eve, constPV, seqK, blockK, scopeK, pbound, pelems, PV.mem?, PV.one, PV.cells, peqs, peq1, pkeys, pkeyt, List.set, Value.cells, ↓popG_eq, ↓pop.eq_1, ↓List.getElem?_map, ↓List.getElem?_cons_zero, ↓List.getElem?_cons_succ, Value.oneCell', Nat.reduceAdd, Nat.reduceMul, Nat.reduceSub, Nat.reduceLeDiff, Nat.reduceEqDiff, ↓reduceIte, ne_eq, reduceCtorEq, forall_const, exists_and_left, exists_eq_left', eq_self, Nat.reduceLT, Int.reduceLT, Int.reduceLE, Int.reduceToNat, Int.reduceAdd, Int.reduceSub, Int.reduceNeg, hnm, Tryd.tf3, Tryd.tf4, Tryd.tf5, Tryd.tf9, Tryd.call77])
  repeat' (first
    | (with_reducible apply W_seq_k; intro nx hnx)
    | (with_reducible first | apply W_block | apply W_scope)
    | (with_reducible refine W_prune 109 ?_; simp only [prb, Nat.reducePow, Nat.reduceDiv, Nat.reduceMod, Nat.reduceBEq]; with_reducible apply W_region_l)
    | ((first | (with_reducible apply WL_op; intro nx hnx) | with_reducible refine Ev_out ?_); try (simp (maxSteps := 2000000) (disch := omega) only [evb, evd, eve, constPV, seqK, blockK, scopeK, pbound, pelems, PV.mem?, PV.one, PV.cells, peqs, peq1, pkeys, pkeyt, List.set, Value.cells, ↓popG_eq, ↓pop.eq_1, ↓List.getElem?_map, ↓List.getElem?_cons_zero, ↓List.getElem?_cons_succ, Value.oneCell', Nat.reduceAdd, Nat.reduceMul, Nat.reduceSub, Nat.reduceLeDiff, Nat.reduceEqDiff, ↓reduceIte, ne_eq, reduceCtorEq, forall_const, exists_and_left, exists_eq_left', eq_self, Nat.reduceLT, Int.reduceLT, Int.reduceLE, Int.reduceToNat, Int.reduceAdd, Int.reduceSub, Int.reduceNeg, hnm, Tryd.tf3, Tryd.tf4, Tryd.tf5, Tryd.tf9, Tryd.call77]); repeat (refine And.intro (by omega) ?_))
    | ((with_reducible first | apply WL_nil | apply W_label | apply W_skip | apply W_exit | apply W_ret); try simp only [seqK, blockK, scopeK, ↓reduceIte, Nat.reduceEqDiff])
    | (with_reducible apply pguard_intro <;> (intro hc; (try simp only [hcb, reduceCtorEq, forall_const, ne_eq] at hc); first | (exfalso; omega) | (exfalso; exact hc trivial) | refine Ev_in ?_))
    | (with_reducible apply W_cond_k; intro _ _ ea eb; (simp only [condK, cob, opnd, constPV, Nat.reduceEqDiff, Nat.reduceLT, ↓reduceIte, hcb, reduceCtorEq, forall_const, ne_eq]); subst ea eb; first | (refine ⟨fun hc => ?_, fun hc => ?_⟩ <;> first | (exfalso; omega) | (exfalso; exact hc trivial) | skip) | skip)
    | (with_reducible apply hnx; clear hnx nx)
    | (with_reducible refine And.intro (by omega) ?_)
    | (with_reducible refine And.intro ?_ ?_)
    | (clear hnx nx; with_reducible apply hnx; clear hnx nx)
    | (clear hnx nx; clear hnx nx; with_reducible apply hnx; clear hnx nx))
  refine W_loop_k (fun z τ => ∃ i : Nat, i ≤ s.length ∧ z = s.length - i ∧ plainB s = ((s.drop i).all okB && (decide (1 ≤ s.length) && decide (s.length ≤ 4))) ∧ τ = ⟨fr 28 [(6, pn i), (5, pint .i64 s.length), (0, pstr s)], []⟩) s.length
    ⟨fr 28 [(6, pn 0), (5, pint .i64 s.length), (0, pstr s)], []⟩ (by
    exact Wk_fr (by simp only [wkb, Nat.reduceEqDiff, Nat.reduceLT, ↓reduceIte, pn]) (Sub_nil _)) ⟨0, by omega, by omega, rfl, rfl⟩ ?_
  rintro z τ ⟨i, hi, rfl, hp, rfl⟩ lp hlp
  by_cases hil : i < s.length
  · rw [List.drop_eq_getElem_cons hil, List.all_cons, okB_iff, Bool.and_assoc] at hp
    have hget : s.getD i 0 = s[i] := by rw [List.getD_eq_getElem?_getD, List.getElem?_eq_getElem hil]; rfl
    have c1 : PCalls Tryd.prog G 77 [.val (.string ⟨#[48, 49, 50, 51, 52, 53, 54, 55, 56, 57, 45, 35, 46, 124, 40, 41, 42, 63, 123, 125, 62, 47, 95, 126, 59, 58, 44, 61, 34, 64]⟩), pbyte s[i]] [] _ := indexByte_c G resB s[i]
    generalize s[i] = c at *
    generalize Lib.indexByte resB c = k at *
    repeat' (first
    | (with_reducible apply W_seq_k; intro nx hnx)
    | (with_reducible first | apply W_block | apply W_scope)
    | (with_reducible refine W_prune 109 ?_; simp only [prb, Nat.reducePow, Nat.reduceDiv, Nat.reduceMod, Nat.reduceBEq]; with_reducible apply W_region_l)
    | ((first | (with_reducible apply WL_op; intro nx hnx) | with_reducible refine Ev_out ?_); try (simp (maxSteps := 2000000) (disch := omega) only [evb, evd, eve, constPV, seqK, blockK, scopeK, pbound, pelems, PV.mem?, PV.one, PV.cells, peqs, peq1, pkeys, pkeyt, List.set, Value.cells, ↓popG_eq, ↓pop.eq_1, ↓List.getElem?_map, ↓List.getElem?_cons_zero, ↓List.getElem?_cons_succ, Value.oneCell', Nat.reduceAdd, Nat.reduceMul, Nat.reduceSub, Nat.reduceLeDiff, Nat.reduceEqDiff, ↓reduceIte, ne_eq, reduceCtorEq, forall_const, exists_and_left, exists_eq_left', eq_self, Nat.reduceLT, Int.reduceLT, Int.reduceLE, Int.reduceToNat, Int.reduceAdd, Int.reduceSub, Int.reduceNeg, hnm, Tryd.tf3, Tryd.tf4, Tryd.tf5, Tryd.tf9, Tryd.call77, hget]); repeat (refine And.intro (by omega) ?_))
    | ((with_reducible first | apply WL_nil | apply W_label | apply W_skip | apply W_exit | apply W_ret); try simp only [seqK, blockK, scopeK, ↓reduceIte, Nat.reduceEqDiff])
    | (with_reducible apply pguard_intro <;> (intro hc; (try simp only [hcb, reduceCtorEq, forall_const, ne_eq] at hc); first | (exfalso; omega) | (exfalso; exact hc trivial) | refine Ev_in ?_))
    | (with_reducible apply W_cond_k; intro _ _ ea eb; (simp only [condK, cob, opnd, constPV, Nat.reduceEqDiff, Nat.reduceLT, ↓reduceIte, hcb, reduceCtorEq, forall_const, ne_eq]); subst ea eb; first | (refine ⟨fun hc => ?_, fun hc => ?_⟩ <;> first | (exfalso; omega) | (exfalso; exact hc trivial) | skip) | skip)
    | (with_reducible apply hnx; clear hnx nx)
    | (with_reducible refine And.intro (by omega) ?_)
    | (with_reducible refine And.intro ?_ ?_)
    | (with_reducible refine pcall_k (c1) ?_; rintro _ _ ⟨rfl, rfl⟩ -; refine Ev_in ?_)
    | (clear hnx nx; with_reducible apply hnx; clear hnx nx)
    | (clear hnx nx; clear hnx nx; with_reducible apply hnx; clear hnx nx))
    all_goals first
      | exact absurd trivial hc
      | (exfalso
         omega)
      | skip
    all_goals first
      | (rw [hp] at hfin
         refine hfin _ _ (Fin_ret1 rfl (Sub_nil _) ?_); simp only [List.getD_cons_zero, List.getD_cons_succ, fr_getD_cons, fr_getD_nil, Nat.reduceEqDiff, Nat.reduceLT, ↓reduceIte]
         exact ⟨by simp_all, by trivial⟩)
      | (refine hlp _ (s.length - (i + 1)) _ (by omega) ?_ ⟨i + 1, by omega, rfl, by simp_all, rfl⟩
         exact Wk_fr (by simp only [wkb, Nat.reduceEqDiff, Nat.reduceLT, ↓reduceIte, pn]) (Sub_nil _))
  · have hi2 : i = s.length := by omega
    subst hi2
    repeat' (first
    | (with_reducible apply W_seq_k; intro nx hnx)
    | (with_reducible first | apply W_block | apply W_scope)
    | (with_reducible refine W_prune 109 ?_; simp only [prb, Nat.reducePow, Nat.reduceDiv, Nat.reduceMod, Nat.reduceBEq]; with_reducible apply W_region_l)
    | ((first | (with_reducible apply WL_op; intro nx hnx) | with_reducible refine Ev_out ?_); try (simp (maxSteps := 2000000) (disch := omega) only [evb, evd, eve, constPV, seqK, blockK, scopeK, pbound, pelems, PV.mem?, PV.one, PV.cells, peqs, peq1, pkeys, pkeyt, List.set, Value.cells, ↓popG_eq, ↓pop.eq_1, ↓List.getElem?_map, ↓List.getElem?_cons_zero, ↓List.getElem?_cons_succ, Value.oneCell', Nat.reduceAdd, Nat.reduceMul, Nat.reduceSub, Nat.reduceLeDiff, Nat.reduceEqDiff, ↓reduceIte, ne_eq, reduceCtorEq, forall_const, exists_and_left, exists_eq_left', eq_self, Nat.reduceLT, Int.reduceLT, Int.reduceLE, Int.reduceToNat, Int.reduceAdd, Int.reduceSub, Int.reduceNeg, hnm, Tryd.tf3, Tryd.tf4, Tryd.tf5, Tryd.tf9, Tryd.call77]); repeat (refine And.intro (by omega) ?_))
    | ((with_reducible first | apply WL_nil | apply W_label | apply W_skip | apply W_exit | apply W_ret); try simp only [seqK, blockK, scopeK, ↓reduceIte, Nat.reduceEqDiff])
    | (with_reducible apply pguard_intro <;> (intro hc; (try simp only [hcb, reduceCtorEq, forall_const, ne_eq] at hc); first | (exfalso; omega) | (exfalso; exact hc trivial) | refine Ev_in ?_))
    | (with_reducible apply W_cond_k; intro _ _ ea eb; (simp only [condK, cob, opnd, constPV, Nat.reduceEqDiff, Nat.reduceLT, ↓reduceIte, hcb, reduceCtorEq, forall_const, ne_eq]); subst ea eb; first | (refine ⟨fun hc => ?_, fun hc => ?_⟩ <;> first | (exfalso; omega) | (exfalso; exact hc trivial) | skip) | skip)
    | (with_reducible apply hnx; clear hnx nx)
    | (with_reducible refine And.intro (by omega) ?_)
    | (with_reducible refine And.intro ?_ ?_)
    | (clear hnx nx; with_reducible apply hnx; clear hnx nx)
    | (clear hnx nx; clear hnx nx; with_reducible apply hnx; clear hnx nx))
    all_goals first
      | exact absurd trivial hc
      | (exfalso
         omega)
      | skip
    rw [List.drop_length] at hp
    rw [hp] at hfin
    all_goals
      refine hfin _ _ (Fin_ret1 rfl (Sub_nil _) ?_); simp only [List.getD_cons_zero, List.getD_cons_succ, fr_getD_cons, fr_getD_nil, Nat.reduceEqDiff, Nat.reduceLT, ↓reduceIte]
      refine ⟨?_, by trivial⟩
      cases s with
      | nil => simp_all
      | cons x r =>
        first
          | (simp_all; done)
          | (simp_all
             omega)
/-- Letters. -/
@[reducible] def ltP (x : Ltr) : PV := .agg [pstr x.text, pint .i64 x.base, pint .i64 x.mark, pint .i64 x.case_, pint .i64 x.width]
@[reducible] def ltsP (a : List Ltr) : PV := .list 5 (a.map ltP)
/-- A map comes back, or none. -/
@[reducible] def IdxR (a : List Ltr) (res : PV) (H : Heap) : Prop := (validF a = false ∧ res = .val (.map none) ∧ H = []) ∨ (validF a = true ∧ ∃ n : Int, res = .mp n ∧ H = [(n, ⟨99, false, 0, entsS (growM (texts a) 0 [])⟩)])
theorem okLtr_iff {a : List Ltr} {i : Nat} {x : Ltr} : okLtr a i x = true ↔ plainB x.text = true ∧ 0 ≤ x.base ∧ x.base < a.length ∧ (∀ h : x.base.toNat < a.length, a[x.base.toNat].base = x.base) ∧ 0 ≤ x.mark ∧ x.mark ≤ 15 ∧ 0 ≤ x.case_ ∧ x.case_ ≤ 1 ∧ 1 ≤ x.width ∧ x.width ≤ 1000 ∧ (x.base = i → x.mark = 0 ∧ x.case_ = 0) := by
  by_cases h : 0 ≤ x.base ∧ x.base < a.length
  · have hb : x.base.toNat < a.length := by omega
    have e : a.getD x.base.toNat default = a[x.base.toNat] := by rw [List.getD_eq_getElem?_getD, List.getElem?_eq_getElem hb]; rfl
    unfold okLtr
    rw [e]
    simp only [Bool.and_eq_true, Bool.not_eq_true', Bool.and_eq_false_iff, Bool.or_eq_false_iff, decide_eq_true_eq, decide_eq_false_iff_not, ne_eq, Decidable.not_not]
    constructor
    · rintro ⟨⟨k1, k2⟩, k3⟩
      refine ⟨k1, by omega, by omega, fun _ => by omega, by omega, by omega, by omega, by omega, by omega, by omega, by omega⟩
    · rintro ⟨k1, k2, k3, k4, k5, k6, k7, k8, k9, k10, k11⟩
      have k4 := k4 hb
      refine ⟨⟨k1, by omega⟩, by omega⟩
  · constructor
    · intro k
      unfold okLtr at k
      simp only [Bool.and_eq_true, decide_eq_true_eq] at k
      omega
    · rintro ⟨k1, k2, k3, k4, k5, k6, k7, k8, k9, k10, k11⟩
      omega
theorem validF_bad {a : List Ltr} (h : okFrom a 0 = false) : validF a = false := by simp [validF, h]
set_option maxRecDepth 100000 in
set_option maxHeartbeats 8000000 in
theorem index_c (G : Globs) (a : List Ltr) (ha : (a.length : Int) ≤ 9223372036854775807) (ht : ∀ x ∈ a, (x.text.length : Int) ≤ 9223372036854775807 ∧ (-9223372036854775808 ≤ x.mark ∧ x.mark ≤ 9223372036854775807) ∧ (-9223372036854775808 ≤ x.case_ ∧ x.case_ ≤ 9223372036854775807)) :
    PCalls Tryd.prog G 64 [ltsP a] [] (IdxR a) := by
  have w1 := within_c G a.length 1 60
  have w1 : PCalls Tryd.prog G 53 [pint .i64 a.length, .val (.int .i64 1), .val (.int .i64 60)] [] _ := w1
  (refine PCalls_f Tryd.func64 rfl Tryd.ntmps64 Tryd.results64 (by simp) fun fin hfin => ?_; have hnm : True := trivial; simp (maxSteps := 2000000) (disch := omega) only [evb, evd, eve, constPV, seqK, blockK, scopeK, pbound, pelems, PV.mem?, PV.one, PV.cells, peqs, peq1, pkeys, pkeyt, List.set, Value.cells, ↓popG_eq, ↓pop.eq_1, ↓List.getElem?_map, ↓List.getElem?_cons_zero, ↓List.getElem?_cons_succ, Value.oneCell', Nat.reduceAdd, Nat.reduceMul, Nat.reduceSub, Nat.reduceLeDiff, Nat.reduceEqDiff, ↓reduceIte, ne_eq, reduceCtorEq, forall_const, exists_and_left, exists_eq_left', eq_self, Nat.reduceLT, Int.reduceLT, Int.reduceLE, Int.reduceToNat, Int.reduceAdd, Int.reduceSub, Int.reduceNeg, hnm, Tryd.tf0, Tryd.tf1, Tryd.tf2, Tryd.tf3, Tryd.tf4, Tryd.tf9, Tryd.tf23, Tryd.tf60, Tryd.tf99, Tryd.call53, Tryd.call71])
  repeat' (first
    | (with_reducible apply W_seq_k; intro nx hnx)
    | (with_reducible first | apply W_block | apply W_scope)
    | (with_reducible refine W_prune 57405 ?_; simp only [prb, Nat.reducePow, Nat.reduceDiv, Nat.reduceMod, Nat.reduceBEq]; first | (with_reducible apply W_region_l) | with_reducible refine W_region_draw (id := 7) 12 (.op 0 true (.op 1 true (.op 2 false (.op 3 true (.op 4 true (.op 5 true (.op 6 true (.op 7 true (.op 8 true (.op 9 true (.op 10 false (.op 11 true (.op 12 true (.op 13 true (.op 14 true (.op 15 true (.op 16 true (.op 17 true (.op 18 true (.op 19 true (.op 20 true (.op 21 true (.op 22 true (.op 23 true (.op 24 true (.op 25 true (.op 26 true (.op 27 false (.op 28 true (.op 29 true (.op 30 true (.op 31 true (.op 32 true (.op 33 false (.op 34 true (.op 35 true (.op 36 true (.op 37 true (.op 38 true (.op 39 false (.op 40 true (.op 41 true (.done))))))))))))))))))))))))))))))))))))))))))) (by kernel_rfl) ?_)
    | ((first | (with_reducible apply WL_op; intro nx hnx) | with_reducible refine Ev_out ?_ | (with_reducible apply popsD_op; intro nx hnx) | (with_reducible refine popsD_alt ?_ ?_; intro nx hnx) | (with_reducible refine pfresh_k hnm fun nm hnm => ?_; (try simp only [fmb] at hnm)) | (with_reducible refine pborn_mu hnm fun nm hnm => ?_; (try simp only [fmb] at hnm))); try (simp (maxSteps := 2000000) (disch := omega) only [evb, evd, eve, constPV, seqK, blockK, scopeK, pbound, pelems, PV.mem?, PV.one, PV.cells, peqs, peq1, pkeys, pkeyt, List.set, Value.cells, ↓popG_eq, ↓pop.eq_1, ↓List.getElem?_map, ↓List.getElem?_cons_zero, ↓List.getElem?_cons_succ, Value.oneCell', Nat.reduceAdd, Nat.reduceMul, Nat.reduceSub, Nat.reduceLeDiff, Nat.reduceEqDiff, ↓reduceIte, ne_eq, reduceCtorEq, forall_const, exists_and_left, exists_eq_left', eq_self, Nat.reduceLT, Int.reduceLT, Int.reduceLE, Int.reduceToNat, Int.reduceAdd, Int.reduceSub, Int.reduceNeg, hnm, Tryd.tf0, Tryd.tf1, Tryd.tf2, Tryd.tf3, Tryd.tf4, Tryd.tf9, Tryd.tf23, Tryd.tf60, Tryd.tf99, Tryd.call53, Tryd.call71]); repeat (refine And.intro (by omega) ?_))
    | ((with_reducible first | apply WL_nil | apply W_label | apply W_skip | apply W_exit | apply W_ret | apply popsD_done); try simp only [seqK, blockK, scopeK, ↓reduceIte, Nat.reduceEqDiff])
    | with_reducible exact popsD_stop
    | (with_reducible apply pguard_intro <;> (intro hc; (try simp only [hcb, reduceCtorEq, forall_const, ne_eq] at hc); first | (exfalso; omega) | (exfalso; exact hc trivial) | refine Ev_in ?_))
    | (with_reducible apply W_cond_k; intro _ _ ea eb; (simp only [condK, cob, opnd, constPV, Nat.reduceEqDiff, Nat.reduceLT, ↓reduceIte, hcb, reduceCtorEq, forall_const, ne_eq]); subst ea eb; first | (refine ⟨fun hc => ?_, fun hc => ?_⟩ <;> first | (exfalso; omega) | (exfalso; exact hc trivial) | skip) | skip)
    | (with_reducible apply hnx; clear hnx nx)
    | (with_reducible refine And.intro (by omega) ?_)
    | (with_reducible refine And.intro ?_ ?_)
    | (with_reducible refine pcall_k (w1) ?_; rintro _ _ ⟨rfl, rfl⟩ -; refine Ev_in ?_)
    | (clear hnx nx; with_reducible apply hnx; clear hnx nx)
    | (clear hnx nx; clear hnx nx; with_reducible apply hnx; clear hnx nx))
  all_goals first
    | exact absurd trivial hc
    | (exfalso
       omega)
    | skip
  · refine hfin _ _ (Fin_ret1 rfl (Sub_nil _) ?_); simp only [List.getD_cons_zero, List.getD_cons_succ, fr_getD_cons, fr_getD_nil, Nat.reduceEqDiff, Nat.reduceLT, ↓reduceIte]
    refine .inl ⟨?_, by trivial, by trivial⟩
    have : ¬ (1 ≤ a.length ∧ a.length ≤ 60) := by omega
    by_cases h1 : 1 ≤ a.length
    · have h2 : ¬ a.length ≤ 60 := fun h => this ⟨h1, h⟩
      simp [validF, h2]
    · simp [validF, h1]
  have hlen : 1 ≤ a.length ∧ a.length ≤ 60 := by omega
  have htl : (texts a).length = a.length := by simp [texts]
  generalize nm = mn at *
  refine W_loop_k (fun z τ => ∃ i : Nat, i ≤ a.length ∧ z = a.length - i ∧ okFrom a 0 = okFrom a i ∧ τ = ⟨fr 85 [(15, pn i), (14, pint .i64 a.length), (13, ltsP a), (3, .mp mn), (0, ltsP a)], [(mn, ⟨99, false, 0, entsS (growM ((texts a).take i) 0 [])⟩)]⟩) a.length
    ⟨fr 85 [(15, pn 0), (14, pint .i64 a.length), (13, ltsP a), (3, .mp mn), (0, ltsP a)], [(mn, ⟨99, false, 0, entsS (growM ((texts a).take 0) 0 [])⟩)]⟩ (by
    refine Wk_fr (by simp only [wkb, Nat.reduceEqDiff, Nat.reduceLT, ↓reduceIte, pn]) ?_
    exact Sub_refl (by simp [names])) ⟨0, by omega, by omega, rfl, rfl⟩ ?_
  rintro z τ ⟨i, hi, rfl, hok, rfl⟩ lp hlp
  by_cases hil : i < a.length
  · rw [okFrom_step hil] at hok
    obtain ⟨t1, t2, t3⟩ := ht a[i] (List.getElem_mem hil)
    have hsnoc : growM ((texts a).take (i + 1)) 0 [] = insM a[i].text i (growM ((texts a).take i) 0 []) := by
      rw [List.take_add_one, List.getElem?_eq_getElem (by omega)]
      simp only [Option.toList_some]
      rw [growM_snoc, List.length_take, Nat.min_eq_left (by omega)]
      simp [texts]
    have hfind := mfindS a[i].text (growM ((texts a).take i) 0 []) 0
    have hget : a[i]? = some a[i] := List.getElem?_eq_getElem hil
    have hx : okLtr a i a[i] = true ∨ okLtr a i a[i] = false := by cases okLtr a i a[i] <;> simp
    have c1 := plain_c G a[i].text t1
    have c2 := within_c G a[i].base 0 (a.length - 1)
    have c3 := within_c G a[i].mark 0 15
    have c4 := within_c G a[i].case_ 0 1
    have c5 := within_c G a[i].width 1 1000
    have c2 : PCalls Tryd.prog G 53 [pint .i64 a[i].base, .val (.int .i64 0), pint .i64 (a.length - 1)] [] _ := c2
    have c3 : PCalls Tryd.prog G 53 [pint .i64 a[i].mark, .val (.int .i64 0), .val (.int .i64 15)] [] _ := c3
    have c4 : PCalls Tryd.prog G 53 [pint .i64 a[i].case_, .val (.int .i64 0), .val (.int .i64 1)] [] _ := c4
    have c5 : PCalls Tryd.prog G 53 [pint .i64 a[i].width, .val (.int .i64 1), .val (.int .i64 1000)] [] _ := c5
    repeat' (first
    | (with_reducible apply W_seq_k; intro nx hnx)
    | (with_reducible first | apply W_block | apply W_scope)
    | (with_reducible refine W_prune 57405 ?_; simp only [prb, Nat.reducePow, Nat.reduceDiv, Nat.reduceMod, Nat.reduceBEq]; first | (with_reducible apply W_region_l) | with_reducible refine W_region_draw (id := 7) 12 (.op 0 true (.op 1 true (.op 2 false (.op 3 true (.op 4 true (.op 5 true (.op 6 true (.op 7 true (.op 8 true (.op 9 true (.op 10 false (.op 11 true (.op 12 true (.op 13 true (.op 14 true (.op 15 true (.op 16 true (.op 17 true (.op 18 true (.op 19 true (.op 20 true (.op 21 true (.op 22 true (.op 23 true (.op 24 true (.op 25 true (.op 26 true (.op 27 false (.op 28 true (.op 29 true (.op 30 true (.op 31 true (.op 32 true (.op 33 false (.op 34 true (.op 35 true (.op 36 true (.op 37 true (.op 38 true (.op 39 false (.op 40 true (.op 41 true (.done))))))))))))))))))))))))))))))))))))))))))) (by kernel_rfl) ?_)
    | ((first | (with_reducible apply WL_op; intro nx hnx) | with_reducible refine Ev_out ?_ | (with_reducible apply popsD_op; intro nx hnx) | (with_reducible refine popsD_alt ?_ ?_; intro nx hnx) | (with_reducible refine pfresh_k hnm fun nm hnm => ?_; (try simp only [fmb] at hnm)) | (with_reducible refine pborn_mu hnm fun nm hnm => ?_; (try simp only [fmb] at hnm))); try (simp (maxSteps := 2000000) (disch := omega) only [evb, evd, eve, constPV, seqK, blockK, scopeK, pbound, pelems, PV.mem?, PV.one, PV.cells, peqs, peq1, pkeys, pkeyt, List.set, Value.cells, ↓popG_eq, ↓pop.eq_1, ↓List.getElem?_map, ↓List.getElem?_cons_zero, ↓List.getElem?_cons_succ, Value.oneCell', Nat.reduceAdd, Nat.reduceMul, Nat.reduceSub, Nat.reduceLeDiff, Nat.reduceEqDiff, ↓reduceIte, ne_eq, reduceCtorEq, forall_const, exists_and_left, exists_eq_left', eq_self, Nat.reduceLT, Int.reduceLT, Int.reduceLE, Int.reduceToNat, Int.reduceAdd, Int.reduceSub, Int.reduceNeg, hnm, Tryd.tf0, Tryd.tf1, Tryd.tf2, Tryd.tf3, Tryd.tf4, Tryd.tf9, Tryd.tf23, Tryd.tf60, Tryd.tf99, Tryd.call53, Tryd.call71, hget]); repeat (refine And.intro (by omega) ?_))
    | ((with_reducible first | apply WL_nil | apply W_label | apply W_skip | apply W_exit | apply W_ret | apply popsD_done); try simp only [seqK, blockK, scopeK, ↓reduceIte, Nat.reduceEqDiff])
    | with_reducible exact popsD_stop
    | (with_reducible apply pguard_intro <;> (intro hc; (try simp only [hcb, reduceCtorEq, forall_const, ne_eq] at hc); first | (exfalso; omega) | (exfalso; exact hc trivial) | refine Ev_in ?_))
    | (with_reducible apply W_cond_k; intro _ _ ea eb; (simp only [condK, cob, opnd, constPV, Nat.reduceEqDiff, Nat.reduceLT, ↓reduceIte, hcb, reduceCtorEq, forall_const, ne_eq]); subst ea eb; first | (refine ⟨fun hc => ?_, fun hc => ?_⟩ <;> first | (exfalso; omega) | (exfalso; exact hc trivial) | skip) | skip)
    | (with_reducible apply hnx; clear hnx nx)
    | (with_reducible refine And.intro (by omega) ?_)
    | (with_reducible refine And.intro ?_ ?_)
    | (with_reducible refine pcall_k (c1) ?_; rintro _ _ ⟨rfl, rfl⟩ -; refine Ev_in ?_)
    | (with_reducible refine pcall_k (c2) ?_; rintro _ _ ⟨rfl, rfl⟩ -; refine Ev_in ?_)
    | (with_reducible refine pcall_k (c3) ?_; rintro _ _ ⟨rfl, rfl⟩ -; refine Ev_in ?_)
    | (with_reducible refine pcall_k (c4) ?_; rintro _ _ ⟨rfl, rfl⟩ -; refine Ev_in ?_)
    | (with_reducible refine pcall_k (c5) ?_; rintro _ _ ⟨rfl, rfl⟩ -; refine Ev_in ?_)
    | (clear hnx nx; with_reducible apply hnx; clear hnx nx)
    | (clear hnx nx; clear hnx nx; with_reducible apply hnx; clear hnx nx))
    all_goals first
      | (refine hfin _ _ (Fin_ret1 rfl (Sub_nil _) ?_); simp only [List.getD_cons_zero, List.getD_cons_succ, fr_getD_cons, fr_getD_nil, Nat.reduceEqDiff, Nat.reduceLT, ↓reduceIte]
         refine .inl ⟨?_, by trivial, by trivial⟩
         apply validF_bad
         rw [hok]
         cases hx2 : okLtr a i a[i] with
         | false => rfl
         | true =>
           exfalso
           obtain ⟨k1, k2, k3, k4, k5, k6, k7, k8, k9, k10, k11⟩ := okLtr_iff.1 hx2
           first
             | (simp_all; done)
             | (have hb : a[i].base.toNat < a.length := by omega
                have k4 := k4 hb
                omega))
      | skip
    all_goals
      have hx2 : okLtr a i a[i] = true := by
        rw [okLtr_iff]
        refine ⟨by assumption, by omega, by omega, fun hb => by assumption, by omega, by omega, by omega, by omega, by omega, by omega, by omega⟩
      rw [hx2, Bool.true_and] at hok
      rcases hfind with ⟨g1, g2, g3⟩ | ⟨j, v, g1, g2, g3⟩
      all_goals
        simp only [g2, Nat.zero_add]
        repeat' (first
    | (with_reducible apply W_seq_k; intro nx hnx)
    | (with_reducible first | apply W_block | apply W_scope)
    | (with_reducible refine W_prune 57405 ?_; simp only [prb, Nat.reducePow, Nat.reduceDiv, Nat.reduceMod, Nat.reduceBEq]; first | (with_reducible apply W_region_l) | with_reducible refine W_region_draw (id := 7) 12 (.op 0 true (.op 1 true (.op 2 false (.op 3 true (.op 4 true (.op 5 true (.op 6 true (.op 7 true (.op 8 true (.op 9 true (.op 10 false (.op 11 true (.op 12 true (.op 13 true (.op 14 true (.op 15 true (.op 16 true (.op 17 true (.op 18 true (.op 19 true (.op 20 true (.op 21 true (.op 22 true (.op 23 true (.op 24 true (.op 25 true (.op 26 true (.op 27 false (.op 28 true (.op 29 true (.op 30 true (.op 31 true (.op 32 true (.op 33 false (.op 34 true (.op 35 true (.op 36 true (.op 37 true (.op 38 true (.op 39 false (.op 40 true (.op 41 true (.done))))))))))))))))))))))))))))))))))))))))))) (by kernel_rfl) ?_)
    | ((first | (with_reducible apply WL_op; intro nx hnx) | with_reducible refine Ev_out ?_ | (with_reducible apply popsD_op; intro nx hnx) | (with_reducible refine popsD_alt ?_ ?_; intro nx hnx) | (with_reducible refine pfresh_k hnm fun nm hnm => ?_; (try simp only [fmb] at hnm)) | (with_reducible refine pborn_mu hnm fun nm hnm => ?_; (try simp only [fmb] at hnm))); try (simp (maxSteps := 2000000) (disch := omega) only [evb, evd, eve, constPV, seqK, blockK, scopeK, pbound, pelems, PV.mem?, PV.one, PV.cells, peqs, peq1, pkeys, pkeyt, List.set, Value.cells, ↓popG_eq, ↓pop.eq_1, ↓List.getElem?_map, ↓List.getElem?_cons_zero, ↓List.getElem?_cons_succ, Value.oneCell', Nat.reduceAdd, Nat.reduceMul, Nat.reduceSub, Nat.reduceLeDiff, Nat.reduceEqDiff, ↓reduceIte, ne_eq, reduceCtorEq, forall_const, exists_and_left, exists_eq_left', eq_self, Nat.reduceLT, Int.reduceLT, Int.reduceLE, Int.reduceToNat, Int.reduceAdd, Int.reduceSub, Int.reduceNeg, hnm, Tryd.tf0, Tryd.tf1, Tryd.tf2, Tryd.tf3, Tryd.tf4, Tryd.tf9, Tryd.tf23, Tryd.tf60, Tryd.tf99, Tryd.call53, Tryd.call71]); repeat (refine And.intro (by omega) ?_))
    | ((with_reducible first | apply WL_nil | apply W_label | apply W_skip | apply W_exit | apply W_ret | apply popsD_done); try simp only [seqK, blockK, scopeK, ↓reduceIte, Nat.reduceEqDiff])
    | with_reducible exact popsD_stop
    | (with_reducible apply pguard_intro <;> (intro hc; (try simp only [hcb, reduceCtorEq, forall_const, ne_eq] at hc); first | (exfalso; omega) | (exfalso; exact hc trivial) | refine Ev_in ?_))
    | (with_reducible apply W_cond_k; intro _ _ ea eb; (simp only [condK, cob, opnd, constPV, Nat.reduceEqDiff, Nat.reduceLT, ↓reduceIte, hcb, reduceCtorEq, forall_const, ne_eq]); subst ea eb; first | (refine ⟨fun hc => ?_, fun hc => ?_⟩ <;> first | (exfalso; omega) | (exfalso; exact hc trivial) | skip) | skip)
    | (with_reducible apply hnx; clear hnx nx)
    | (with_reducible refine And.intro (by omega) ?_)
    | (with_reducible refine And.intro ?_ ?_)
    | (clear hnx nx; with_reducible apply hnx; clear hnx nx)
    | (clear hnx nx; clear hnx nx; with_reducible apply hnx; clear hnx nx))
        refine hlp _ (a.length - (i + 1)) ⟨fr 85 [(15, pn (i + 1)), (14, pint .i64 a.length), (13, ltsP a), (3, .mp mn), (0, ltsP a)], [(mn, ⟨99, false, 0, entsS (growM ((texts a).take (i + 1)) 0 [])⟩)]⟩ (by omega) ?_ ⟨i + 1, by omega, rfl, hok, rfl⟩
        rw [hsnoc, g3]
        refine Wk_fr (by simp only [wkb, Nat.reduceEqDiff, Nat.reduceLT, ↓reduceIte, pn]) ?_
        all_goals exact ⟨fun x hx => List.mem_cons_of_mem _ hx, by simp [names]⟩
  · have hi2 : i = a.length := by omega
    subst hi2
    rw [okFrom_end] at hok
    have hfull : (texts a).take a.length = texts a := List.take_of_length_le (by omega)
    rw [hfull]
    repeat' (first
    | (with_reducible apply W_seq_k; intro nx hnx)
    | (with_reducible first | apply W_block | apply W_scope)
    | (with_reducible refine W_prune 57405 ?_; simp only [prb, Nat.reducePow, Nat.reduceDiv, Nat.reduceMod, Nat.reduceBEq]; first | (with_reducible apply W_region_l) | with_reducible refine W_region_draw (id := 7) 12 (.op 0 true (.op 1 true (.op 2 false (.op 3 true (.op 4 true (.op 5 true (.op 6 true (.op 7 true (.op 8 true (.op 9 true (.op 10 false (.op 11 true (.op 12 true (.op 13 true (.op 14 true (.op 15 true (.op 16 true (.op 17 true (.op 18 true (.op 19 true (.op 20 true (.op 21 true (.op 22 true (.op 23 true (.op 24 true (.op 25 true (.op 26 true (.op 27 false (.op 28 true (.op 29 true (.op 30 true (.op 31 true (.op 32 true (.op 33 false (.op 34 true (.op 35 true (.op 36 true (.op 37 true (.op 38 true (.op 39 false (.op 40 true (.op 41 true (.done))))))))))))))))))))))))))))))))))))))))))) (by kernel_rfl) ?_)
    | ((first | (with_reducible apply WL_op; intro nx hnx) | with_reducible refine Ev_out ?_ | (with_reducible apply popsD_op; intro nx hnx) | (with_reducible refine popsD_alt ?_ ?_; intro nx hnx) | (with_reducible refine pfresh_k hnm fun nm hnm => ?_; (try simp only [fmb] at hnm)) | (with_reducible refine pborn_mu hnm fun nm hnm => ?_; (try simp only [fmb] at hnm))); try (simp (maxSteps := 2000000) (disch := omega) only [evb, evd, eve, constPV, seqK, blockK, scopeK, pbound, pelems, PV.mem?, PV.one, PV.cells, peqs, peq1, pkeys, pkeyt, List.set, Value.cells, ↓popG_eq, ↓pop.eq_1, ↓List.getElem?_map, ↓List.getElem?_cons_zero, ↓List.getElem?_cons_succ, Value.oneCell', Nat.reduceAdd, Nat.reduceMul, Nat.reduceSub, Nat.reduceLeDiff, Nat.reduceEqDiff, ↓reduceIte, ne_eq, reduceCtorEq, forall_const, exists_and_left, exists_eq_left', eq_self, Nat.reduceLT, Int.reduceLT, Int.reduceLE, Int.reduceToNat, Int.reduceAdd, Int.reduceSub, Int.reduceNeg, hnm, Tryd.tf0, Tryd.tf1, Tryd.tf2, Tryd.tf3, Tryd.tf4, Tryd.tf9, Tryd.tf23, Tryd.tf60, Tryd.tf99, Tryd.call53, Tryd.call71]); repeat (refine And.intro (by omega) ?_))
    | ((with_reducible first | apply WL_nil | apply W_label | apply W_skip | apply W_exit | apply W_ret | apply popsD_done); try simp only [seqK, blockK, scopeK, ↓reduceIte, Nat.reduceEqDiff])
    | with_reducible exact popsD_stop
    | (with_reducible apply pguard_intro <;> (intro hc; (try simp only [hcb, reduceCtorEq, forall_const, ne_eq] at hc); first | (exfalso; omega) | (exfalso; exact hc trivial) | refine Ev_in ?_))
    | (with_reducible apply W_cond_k; intro _ _ ea eb; (simp only [condK, cob, opnd, constPV, Nat.reduceEqDiff, Nat.reduceLT, ↓reduceIte, hcb, reduceCtorEq, forall_const, ne_eq]); subst ea eb; first | (refine ⟨fun hc => ?_, fun hc => ?_⟩ <;> first | (exfalso; omega) | (exfalso; exact hc trivial) | skip) | skip)
    | (with_reducible apply hnx; clear hnx nx)
    | (with_reducible refine And.intro (by omega) ?_)
    | (with_reducible refine And.intro ?_ ?_)
    | (clear hnx nx; with_reducible apply hnx; clear hnx nx)
    | (clear hnx nx; clear hnx nx; with_reducible apply hnx; clear hnx nx))
    all_goals first
      | exact absurd trivial hc
      | (exfalso
         omega)
      | skip
    · refine hfin _ _ (Fin_ret1 rfl (Sub_nil _) ?_); simp only [List.getD_cons_zero, List.getD_cons_succ, fr_getD_cons, fr_getD_nil, Nat.reduceEqDiff, Nat.reduceLT, ↓reduceIte]
      refine .inl ⟨?_, by trivial, by trivial⟩
      have : ¬ (texts a).Nodup := by
        intro h
        have h2 := (growM_len (texts a) 0 []).2.2 ⟨h, fun t _ => by simp⟩
        simp only [List.length_nil, Nat.zero_add] at h2
        omega
      simp [validF, this]
    · refine hfin _ _ (Fin_ret1 rfl (Sub_refl (by simp [names])) ?_); simp only [List.getD_cons_zero, List.getD_cons_succ, fr_getD_cons, fr_getD_nil, Nat.reduceEqDiff, Nat.reduceLT, ↓reduceIte]
      refine .inr ⟨?_, _, rfl, rfl⟩
      obtain ⟨h1, h2⟩ := growM_len (texts a) 0 []
      simp only [List.length_nil, Nat.zero_add] at h1 h2
      have h3 := (h2.1 (by omega)).1
      simp [validF, h3, hok, hlen]
end Go.PM

namespace Go.PM
open Go.Proofs
attribute [local irreducible] W PCalls pcall pcallI WL
set_option maxRecDepth 100000
set_option maxHeartbeats 8000000
/-- Letters that a machine can hold. -/
@[reducible] def HA (a : List Ltr) : Prop := (a.length : Int) ≤ 9223372036854775807 ∧ ∀ x ∈ a, (x.text.length : Int) ≤ 9223372036854775807 ∧ (-9223372036854775808 ≤ x.mark ∧ x.mark ≤ 9223372036854775807) ∧ (-9223372036854775808 ≤ x.case_ ∧ x.case_ ≤ 9223372036854775807)
@[reducible] def wP (w : List Int) : PV := .list 1 (w.map (pint .i64))
theorem valid_c (G : Globs) (a : List Ltr) (ha : HA a) : PCalls Tryd.prog G 42 [ltsP a] [] (fun res H => res = pbool (validF a) ∧ H = []) := by
  have c1 := index_c G a ha.1 ha.2
  (refine PCalls_f Tryd.func42 rfl Tryd.ntmps42 Tryd.results42 (by simp) fun fin hfin => ?_; have hnm : True := trivial; simp (maxSteps := 2000000) (disch := omega) only [evb, evd, eve, constPV, seqK, blockK, scopeK, pbound, pelems, PV.mem?, PV.one, PV.cells, peqs, peq1, pkeys, pkeyt, List.set, Value.cells, ↓popG_eq, ↓pop.eq_1, ↓List.getElem?_map, ↓List.getElem?_cons_zero, ↓List.getElem?_cons_succ, Value.oneCell', Nat.reduceAdd, Nat.reduceMul, Nat.reduceSub, Nat.reduceLeDiff, Nat.reduceEqDiff, ↓reduceIte, ne_eq, reduceCtorEq, forall_const, exists_and_left, exists_eq_left', eq_self, Nat.reduceLT, Int.reduceLT, Int.reduceLE, Int.reduceToNat, Int.reduceAdd, Int.reduceSub, Int.reduceNeg, hnm, Tryd.tf4, Tryd.tf23, Tryd.tf60, Tryd.tf99, Tryd.call64])
  repeat' (first
    | (with_reducible apply W_seq_k; intro nx hnx)
    | (with_reducible first | apply W_block | apply W_scope)
    | (with_reducible refine W_prune 5 ?_; simp only [prb, Nat.reducePow, Nat.reduceDiv, Nat.reduceMod, Nat.reduceBEq]; with_reducible apply W_region_l)
    | ((first | (with_reducible apply WL_op; intro nx hnx) | with_reducible refine Ev_out ?_); try (simp (maxSteps := 2000000) (disch := omega) only [evb, evd, eve, constPV, seqK, blockK, scopeK, pbound, pelems, PV.mem?, PV.one, PV.cells, peqs, peq1, pkeys, pkeyt, List.set, Value.cells, ↓popG_eq, ↓pop.eq_1, ↓List.getElem?_map, ↓List.getElem?_cons_zero, ↓List.getElem?_cons_succ, Value.oneCell', Nat.reduceAdd, Nat.reduceMul, Nat.reduceSub, Nat.reduceLeDiff, Nat.reduceEqDiff, ↓reduceIte, ne_eq, reduceCtorEq, forall_const, exists_and_left, exists_eq_left', eq_self, Nat.reduceLT, Int.reduceLT, Int.reduceLE, Int.reduceToNat, Int.reduceAdd, Int.reduceSub, Int.reduceNeg, hnm, Tryd.tf4, Tryd.tf23, Tryd.tf60, Tryd.tf99, Tryd.call64]); repeat (refine And.intro (by omega) ?_))
    | ((with_reducible first | apply WL_nil | apply W_label | apply W_skip | apply W_exit | apply W_ret); try simp only [seqK, blockK, scopeK, ↓reduceIte, Nat.reduceEqDiff])
    | (with_reducible apply W_cond_k; intro _ _ ea eb; (simp only [condK, cob, opnd, constPV, Nat.reduceEqDiff, Nat.reduceLT, ↓reduceIte, hcb, reduceCtorEq, forall_const, ne_eq]); subst ea eb; first | (refine ⟨fun hc => ?_, fun hc => ?_⟩ <;> first | (exfalso; omega) | (exfalso; exact hc trivial) | skip) | skip)
    | (with_reducible apply hnx; clear hnx nx)
    | (with_reducible refine And.intro (by omega) ?_)
    | (with_reducible refine And.intro ?_ ?_)
    | ((with_reducible refine pcall_k c1 ?_; rintro _ _ (⟨hv, rfl, rfl⟩ | ⟨hv, n, rfl, rfl⟩) - <;> refine Ev_in ?_))
    | (clear hnx nx; with_reducible apply hnx; clear hnx nx)
    | (clear hnx nx; clear hnx nx; with_reducible apply hnx; clear hnx nx))
  all_goals
    refine hfin _ _ (Fin_ret1 rfl (Sub_nil _) ?_); simp only [List.getD_cons_zero, List.getD_cons_succ, fr_getD_cons, fr_getD_nil, Nat.reduceEqDiff, Nat.reduceLT, ↓reduceIte]
    exact ⟨by rw [hv], by trivial⟩
theorem sameInts_c (G : Globs) (xs ys : List Int) (hx : (xs.length : Int) ≤ 9223372036854775807) : PCalls Tryd.prog G 22 [.list 1 (xs.map (pint .i64)), .list 1 (ys.map (pint .i64))] [] (fun res H => res = pbool (decide (xs = ys)) ∧ H = []) := by
  (refine PCalls_f Tryd.func22 rfl Tryd.ntmps22 Tryd.results22 (by simp) fun fin hfin => ?_; have hnm : True := trivial; simp (maxSteps := 2000000) (disch := omega) only [evb, evd, eve, constPV, seqK, blockK, scopeK, pbound, pelems, PV.mem?, PV.one, PV.cells, peqs, peq1, pkeys, pkeyt, List.set, Value.cells, ↓popG_eq, ↓pop.eq_1, ↓List.getElem?_map, ↓List.getElem?_cons_zero, ↓List.getElem?_cons_succ, Value.oneCell', Nat.reduceAdd, Nat.reduceMul, Nat.reduceSub, Nat.reduceLeDiff, Nat.reduceEqDiff, ↓reduceIte, ne_eq, reduceCtorEq, forall_const, exists_and_left, exists_eq_left', eq_self, Nat.reduceLT, Int.reduceLT, Int.reduceLE, Int.reduceToNat, Int.reduceAdd, Int.reduceSub, Int.reduceNeg, hnm, Tryd.tf0, Tryd.tf3, Tryd.tf4, Tryd.tf22])
  repeat' (first
    | (with_reducible apply W_seq_k; intro nx hnx)
    | (with_reducible first | apply W_block | apply W_scope)
    | (with_reducible refine W_prune 51 ?_; simp only [prb, Nat.reducePow, Nat.reduceDiv, Nat.reduceMod, Nat.reduceBEq]; first | (with_reducible apply W_region_l) | with_reducible refine W_region_draw (id := 6) 1 (.op 0 true (.op 1 true (.op 2 true (.op 3 true (.op 4 true (.op 5 true (.op 6 true (.op 7 true (.op 8 true (.done)))))))))) (by kernel_rfl) ?_)
    | ((first | (with_reducible apply WL_op; intro nx hnx) | with_reducible refine Ev_out ?_ | (with_reducible apply popsD_op; intro nx hnx) | (with_reducible refine popsD_alt ?_ ?_; intro nx hnx)); try (simp (maxSteps := 2000000) (disch := omega) only [evb, evd, eve, constPV, seqK, blockK, scopeK, pbound, pelems, PV.mem?, PV.one, PV.cells, peqs, peq1, pkeys, pkeyt, List.set, Value.cells, ↓popG_eq, ↓pop.eq_1, ↓List.getElem?_map, ↓List.getElem?_cons_zero, ↓List.getElem?_cons_succ, Value.oneCell', Nat.reduceAdd, Nat.reduceMul, Nat.reduceSub, Nat.reduceLeDiff, Nat.reduceEqDiff, ↓reduceIte, ne_eq, reduceCtorEq, forall_const, exists_and_left, exists_eq_left', eq_self, Nat.reduceLT, Int.reduceLT, Int.reduceLE, Int.reduceToNat, Int.reduceAdd, Int.reduceSub, Int.reduceNeg, hnm, Tryd.tf0, Tryd.tf3, Tryd.tf4, Tryd.tf22]); repeat (refine And.intro (by omega) ?_))
    | ((with_reducible first | apply WL_nil | apply W_label | apply W_skip | apply W_exit | apply W_ret | apply popsD_done); try simp only [seqK, blockK, scopeK, ↓reduceIte, Nat.reduceEqDiff])
    | with_reducible exact popsD_stop
    | (with_reducible apply W_cond_k; intro _ _ ea eb; (simp only [condK, cob, opnd, constPV, Nat.reduceEqDiff, Nat.reduceLT, ↓reduceIte, hcb, reduceCtorEq, forall_const, ne_eq]); subst ea eb; first | (refine ⟨fun hc => ?_, fun hc => ?_⟩ <;> first | (exfalso; omega) | (exfalso; exact hc trivial) | skip) | skip)
    | (with_reducible apply hnx; clear hnx nx)
    | (with_reducible refine And.intro (by omega) ?_)
    | (with_reducible refine And.intro ?_ ?_)
    | (clear hnx nx; with_reducible apply hnx; clear hnx nx)
    | (clear hnx nx; clear hnx nx; with_reducible apply hnx; clear hnx nx))
  · refine hfin _ _ (Fin_ret1 rfl (Sub_nil _) ?_); simp only [List.getD_cons_zero, List.getD_cons_succ, fr_getD_cons, fr_getD_nil, Nat.reduceEqDiff, Nat.reduceLT, ↓reduceIte]
    simp
    intro h
    exact hc (by rw [h])
  · refine W_loop_k (fun n τ => ∃ i : Nat, i ≤ xs.length ∧ n = xs.length - i ∧ xs.take i = ys.take i ∧ τ = ⟨fr 26 [(0, .list 1 (xs.map (pint .i64))), (1, .list 1 (ys.map (pint .i64))), (5, pint .i64 i)], []⟩) xs.length ⟨fr 26 [(0, .list 1 (xs.map (pint .i64))), (1, .list 1 (ys.map (pint .i64))), (5, pint .i64 (0 : Nat))], []⟩ (by exact Wk_fr (by simp only [wkb, Nat.reduceEqDiff, Nat.reduceLT, ↓reduceIte]) (Sub_nil _)) ⟨0, by omega, by omega, by simp, rfl⟩ ?_
    rintro n τ ⟨i, hi, rfl, he, rfl⟩ lp hlp
    repeat' (first
    | (with_reducible apply W_seq_k; intro nx hnx)
    | (with_reducible first | apply W_block | apply W_scope)
    | (with_reducible refine W_prune 51 ?_; simp only [prb, Nat.reducePow, Nat.reduceDiv, Nat.reduceMod, Nat.reduceBEq]; first | (with_reducible apply W_region_l) | with_reducible refine W_region_draw (id := 6) 1 (.op 0 true (.op 1 true (.op 2 true (.op 3 true (.op 4 true (.op 5 true (.op 6 true (.op 7 true (.op 8 true (.done)))))))))) (by kernel_rfl) ?_)
    | ((first | (with_reducible apply WL_op; intro nx hnx) | with_reducible refine Ev_out ?_ | (with_reducible apply popsD_op; intro nx hnx) | (with_reducible refine popsD_alt ?_ ?_; intro nx hnx)); try (simp (maxSteps := 2000000) (disch := omega) only [evb, evd, eve, constPV, seqK, blockK, scopeK, pbound, pelems, PV.mem?, PV.one, PV.cells, peqs, peq1, pkeys, pkeyt, List.set, Value.cells, ↓popG_eq, ↓pop.eq_1, ↓List.getElem?_map, ↓List.getElem?_cons_zero, ↓List.getElem?_cons_succ, Value.oneCell', Nat.reduceAdd, Nat.reduceMul, Nat.reduceSub, Nat.reduceLeDiff, Nat.reduceEqDiff, ↓reduceIte, ne_eq, reduceCtorEq, forall_const, exists_and_left, exists_eq_left', eq_self, Nat.reduceLT, Int.reduceLT, Int.reduceLE, Int.reduceToNat, Int.reduceAdd, Int.reduceSub, Int.reduceNeg, hnm, Tryd.tf0, Tryd.tf3, Tryd.tf4, Tryd.tf22]); repeat (refine And.intro (by omega) ?_))
    | ((with_reducible first | apply WL_nil | apply W_label | apply W_skip | apply W_exit | apply W_ret | apply popsD_done); try simp only [seqK, blockK, scopeK, ↓reduceIte, Nat.reduceEqDiff])
    | with_reducible exact popsD_stop
    | (with_reducible apply W_cond_k; intro _ _ ea eb; (simp only [condK, cob, opnd, constPV, Nat.reduceEqDiff, Nat.reduceLT, ↓reduceIte, hcb, reduceCtorEq, forall_const, ne_eq]); subst ea eb; first | (refine ⟨fun hc => ?_, fun hc => ?_⟩ <;> first | (exfalso; omega) | (exfalso; exact hc trivial) | skip) | skip)
    | (with_reducible apply hnx; clear hnx nx)
    | (with_reducible refine And.intro (by omega) ?_)
    | (with_reducible refine And.intro ?_ ?_)
    | (clear hnx nx; with_reducible apply hnx; clear hnx nx)
    | (clear hnx nx; clear hnx nx; with_reducible apply hnx; clear hnx nx))
    · refine hfin _ _ (Fin_ret1 rfl (Sub_nil _) ?_); simp only [List.getD_cons_zero, List.getD_cons_succ, fr_getD_cons, fr_getD_nil, Nat.reduceEqDiff, Nat.reduceLT, ↓reduceIte]
      simp
      intro h
      subst h
      exact hc rfl
    · refine hlp _ (xs.length - (i+1)) _ (by omega) ?_ ⟨i+1, by omega, rfl, ?_, rfl⟩
      · exact Wk_fr (by simp only [wkb, Nat.reduceEqDiff, Nat.reduceLT, ↓reduceIte]) (Sub_nil _)
      · rw [List.take_add_one, List.take_add_one, he]
        have h1 : i < xs.length := by omega
        have h2 : i < ys.length := by omega
        rw [List.getElem?_eq_getElem h1, List.getElem?_eq_getElem h2, show xs[i] = ys[i] from hc]
    · refine hfin _ _ (Fin_ret1 rfl (Sub_nil _) ?_); simp only [List.getD_cons_zero, List.getD_cons_succ, fr_getD_cons, fr_getD_nil, Nat.reduceEqDiff, Nat.reduceLT, ↓reduceIte]
      simp
      rw [List.take_of_length_le (by omega), List.take_of_length_le (by omega)] at he
      exact he
theorem equal_c (G : Globs) (xs ys : List Int) (hx : (xs.length : Int) ≤ 9223372036854775807) : PCalls Tryd.prog G 52 [wP xs, wP ys] [] (fun res H => res = pbool (decide (xs = ys)) ∧ H = []) := by
  (refine PCalls_f Tryd.func52 rfl Tryd.ntmps52 Tryd.results52 (by simp) fun fin hfin => ?_; have hnm : True := trivial; simp (maxSteps := 2000000) (disch := omega) only [evb, evd, eve, constPV, seqK, blockK, scopeK, pbound, pelems, PV.mem?, PV.one, PV.cells, peqs, peq1, pkeys, pkeyt, List.set, Value.cells, ↓popG_eq, ↓pop.eq_1, ↓List.getElem?_map, ↓List.getElem?_cons_zero, ↓List.getElem?_cons_succ, Value.oneCell', Nat.reduceAdd, Nat.reduceMul, Nat.reduceSub, Nat.reduceLeDiff, Nat.reduceEqDiff, ↓reduceIte, ne_eq, reduceCtorEq, forall_const, exists_and_left, exists_eq_left', eq_self, Nat.reduceLT, Int.reduceLT, Int.reduceLE, Int.reduceToNat, Int.reduceAdd, Int.reduceSub, Int.reduceNeg, hnm, Tryd.tf0, Tryd.tf3, Tryd.tf4, Tryd.tf22])
  repeat' (first
    | (with_reducible apply W_seq_k; intro nx hnx)
    | (with_reducible first | apply W_block | apply W_scope)
    | (with_reducible refine W_prune 12339 ?_; simp only [prb, Nat.reducePow, Nat.reduceDiv, Nat.reduceMod, Nat.reduceBEq]; first | (with_reducible apply W_region_l) | with_reducible refine W_region_draw (id := 6) 1 (.op 0 true (.op 1 true (.op 2 true (.op 3 true (.op 4 true (.op 5 true (.op 6 true (.op 7 true (.op 8 true (.done)))))))))) (by kernel_rfl) ?_)
    | ((first | (with_reducible apply WL_op; intro nx hnx) | with_reducible refine Ev_out ?_ | (with_reducible apply popsD_op; intro nx hnx) | (with_reducible refine popsD_alt ?_ ?_; intro nx hnx)); try (simp (maxSteps := 2000000) (disch := omega) only [evb, evd, eve, constPV, seqK, blockK, scopeK, pbound, pelems, PV.mem?, PV.one, PV.cells, peqs, peq1, pkeys, pkeyt, List.set, Value.cells, ↓popG_eq, ↓pop.eq_1, ↓List.getElem?_map, ↓List.getElem?_cons_zero, ↓List.getElem?_cons_succ, Value.oneCell', Nat.reduceAdd, Nat.reduceMul, Nat.reduceSub, Nat.reduceLeDiff, Nat.reduceEqDiff, ↓reduceIte, ne_eq, reduceCtorEq, forall_const, exists_and_left, exists_eq_left', eq_self, Nat.reduceLT, Int.reduceLT, Int.reduceLE, Int.reduceToNat, Int.reduceAdd, Int.reduceSub, Int.reduceNeg, hnm, Tryd.tf0, Tryd.tf3, Tryd.tf4, Tryd.tf22]); repeat (refine And.intro (by omega) ?_))
    | ((with_reducible first | apply WL_nil | apply W_label | apply W_skip | apply W_exit | apply W_ret | apply popsD_done); try simp only [seqK, blockK, scopeK, ↓reduceIte, Nat.reduceEqDiff])
    | with_reducible exact popsD_stop
    | (with_reducible apply W_cond_k; intro _ _ ea eb; (simp only [condK, cob, opnd, constPV, Nat.reduceEqDiff, Nat.reduceLT, ↓reduceIte, hcb, reduceCtorEq, forall_const, ne_eq]); subst ea eb; first | (refine ⟨fun hc => ?_, fun hc => ?_⟩ <;> first | (exfalso; omega) | (exfalso; exact hc trivial) | skip) | skip)
    | (with_reducible apply hnx; clear hnx nx)
    | (with_reducible refine And.intro (by omega) ?_)
    | (with_reducible refine And.intro ?_ ?_)
    | (clear hnx nx; with_reducible apply hnx; clear hnx nx)
    | (clear hnx nx; clear hnx nx; with_reducible apply hnx; clear hnx nx))
  · refine hfin _ _ (Fin_ret1 rfl (Sub_nil _) ?_); simp only [List.getD_cons_zero, List.getD_cons_succ, fr_getD_cons, fr_getD_nil, Nat.reduceEqDiff, Nat.reduceLT, ↓reduceIte]
    simp
    intro h
    exact hc (by rw [h])
  · refine W_loop_k (fun n τ => ∃ i : Nat, i ≤ xs.length ∧ n = xs.length - i ∧ xs.take i = ys.take i ∧ τ = ⟨fr 26 [(0, wP xs), (1, wP ys), (13, pn i), (12, pint .i64 xs.length)], []⟩) xs.length ⟨fr 26 [(0, wP xs), (1, wP ys), (13, pn 0), (12, pint .i64 xs.length)], []⟩ (by exact Wk_fr (by simp only [wkb, Nat.reduceEqDiff, Nat.reduceLT, ↓reduceIte, pn]) (Sub_nil _)) ⟨0, by omega, by omega, by simp, rfl⟩ ?_
    rintro n τ ⟨i, hi, rfl, he, rfl⟩ lp hlp
    repeat' (first
    | (with_reducible apply W_seq_k; intro nx hnx)
    | (with_reducible first | apply W_block | apply W_scope)
    | (with_reducible refine W_prune 12339 ?_; simp only [prb, Nat.reducePow, Nat.reduceDiv, Nat.reduceMod, Nat.reduceBEq]; first | (with_reducible apply W_region_l) | with_reducible refine W_region_draw (id := 6) 1 (.op 0 true (.op 1 true (.op 2 true (.op 3 true (.op 4 true (.op 5 true (.op 6 true (.op 7 true (.op 8 true (.done)))))))))) (by kernel_rfl) ?_)
    | ((first | (with_reducible apply WL_op; intro nx hnx) | with_reducible refine Ev_out ?_ | (with_reducible apply popsD_op; intro nx hnx) | (with_reducible refine popsD_alt ?_ ?_; intro nx hnx)); try (simp (maxSteps := 2000000) (disch := omega) only [evb, evd, eve, constPV, seqK, blockK, scopeK, pbound, pelems, PV.mem?, PV.one, PV.cells, peqs, peq1, pkeys, pkeyt, List.set, Value.cells, ↓popG_eq, ↓pop.eq_1, ↓List.getElem?_map, ↓List.getElem?_cons_zero, ↓List.getElem?_cons_succ, Value.oneCell', Nat.reduceAdd, Nat.reduceMul, Nat.reduceSub, Nat.reduceLeDiff, Nat.reduceEqDiff, ↓reduceIte, ne_eq, reduceCtorEq, forall_const, exists_and_left, exists_eq_left', eq_self, Nat.reduceLT, Int.reduceLT, Int.reduceLE, Int.reduceToNat, Int.reduceAdd, Int.reduceSub, Int.reduceNeg, hnm, Tryd.tf0, Tryd.tf3, Tryd.tf4, Tryd.tf22]); repeat (refine And.intro (by omega) ?_))
    | ((with_reducible first | apply WL_nil | apply W_label | apply W_skip | apply W_exit | apply W_ret | apply popsD_done); try simp only [seqK, blockK, scopeK, ↓reduceIte, Nat.reduceEqDiff])
    | with_reducible exact popsD_stop
    | (with_reducible apply W_cond_k; intro _ _ ea eb; (simp only [condK, cob, opnd, constPV, Nat.reduceEqDiff, Nat.reduceLT, ↓reduceIte, hcb, reduceCtorEq, forall_const, ne_eq]); subst ea eb; first | (refine ⟨fun hc => ?_, fun hc => ?_⟩ <;> first | (exfalso; omega) | (exfalso; exact hc trivial) | skip) | skip)
    | (with_reducible apply hnx; clear hnx nx)
    | (with_reducible refine And.intro (by omega) ?_)
    | (with_reducible refine And.intro ?_ ?_)
    | (clear hnx nx; with_reducible apply hnx; clear hnx nx)
    | (clear hnx nx; clear hnx nx; with_reducible apply hnx; clear hnx nx))
    · refine hfin _ _ (Fin_ret1 rfl (Sub_nil _) ?_); simp only [List.getD_cons_zero, List.getD_cons_succ, fr_getD_cons, fr_getD_nil, Nat.reduceEqDiff, Nat.reduceLT, ↓reduceIte]
      simp
      intro h
      subst h
      exact hc rfl
    · refine hlp _ (xs.length - (i+1)) _ (by omega) ?_ ⟨i+1, by omega, rfl, ?_, rfl⟩
      · exact Wk_fr (by simp only [wkb, Nat.reduceEqDiff, Nat.reduceLT, ↓reduceIte, pn]) (Sub_nil _)
      · rw [List.take_add_one, List.take_add_one, he]
        have h1 : i < xs.length := by omega
        have h2 : i < ys.length := by omega
        rw [List.getElem?_eq_getElem h1, List.getElem?_eq_getElem h2, show xs[i] = ys[i] from hc]
    · refine hfin _ _ (Fin_ret1 rfl (Sub_nil _) ?_); simp only [List.getD_cons_zero, List.getD_cons_succ, fr_getD_cons, fr_getD_nil, Nat.reduceEqDiff, Nat.reduceLT, ↓reduceIte]
      simp
      rw [List.take_of_length_le (by omega), List.take_of_length_le (by omega)] at he
      exact he
end Go.PM

namespace Go.PM
/-- A kern. -/
structure Kern where
  left : List UInt8
  right : List UInt8
  by_ : Int
  deriving DecidableEq, Inhabited
/-- A font. -/
structure Font where
  space : Int
  digit : Int
  mark : Int
  bold : Int
  kerns : List Kern
  deriving DecidableEq, Inhabited
@[reducible] def kP (k : Kern) : PV := .agg [pstr k.left, pstr k.right, pint .i64 k.by_]
@[reducible] def ksP (l : List Kern) : PV := .list 3 (l.map kP)
@[reducible] def foP (f : Font) : PV := .agg [pint .i64 f.space, pint .i64 f.digit, pint .i64 f.mark, pint .i64 f.bold, ksP f.kerns]
def allIn (lo hi : Int) (l : List Int) : Bool := l.all fun x => decide (lo ≤ x) && decide (x ≤ hi)
def okKern (k : Kern) : Bool := (decide (1 ≤ k.left.length) && decide (k.left.length ≤ 4)) && (decide (1 ≤ k.right.length) && decide (k.right.length ≤ 4)) && (decide (1 ≤ k.by_) && decide (k.by_ ≤ 1000))
def pairs (ks : List Kern) : List (List UInt8 × List UInt8) := ks.map fun k => (k.left, k.right)
def okFont (f : Font) : Bool := allIn 1 1000 [f.space, f.digit, f.mark] && allIn 50 400 [f.bold] && decide (f.kerns.length ≤ 64) && f.kerns.all okKern && decide (pairs f.kerns).Nodup
/-- What a font's numbers and lengths may be at all. -/
def HF (f : Font) : Prop := ((-9223372036854775808 ≤ f.space ∧ f.space ≤ 9223372036854775807) ∧ (-9223372036854775808 ≤ f.digit ∧ f.digit ≤ 9223372036854775807) ∧ (-9223372036854775808 ≤ f.mark ∧ f.mark ≤ 9223372036854775807) ∧ (-9223372036854775808 ≤ f.bold ∧ f.bold ≤ 9223372036854775807)) ∧
  (f.kerns.length : Int) ≤ 9223372036854775807 ∧ ∀ k ∈ f.kerns, (k.left.length : Int) ≤ 9223372036854775807 ∧ (k.right.length : Int) ≤ 9223372036854775807 ∧ (-9223372036854775808 ≤ k.by_ ∧ k.by_ ≤ 9223372036854775807)
/-- The width of a byte that begins no letter. -/
def singleF (f : Font) (c : UInt8) : Int := if c.toNat = 32 then f.space else if 48 ≤ c.toNat ∧ c.toNat ≤ 57 then f.digit else if 32 < c.toNat then f.mark else 0
def fits (s : List UInt8) (x : Ltr) : Bool := decide (x.text.length ≤ s.length) && decide (s.take x.text.length = x.text)
def stepC (s : List UInt8) (b : Nat × Nat × Int) (x : Ltr) : Nat × Nat × Int := if b.1 < x.text.length ∧ fits s x = true then (x.text.length, x.text.length, x.width) else b
def foldC (a : List Ltr) (f : Font) (s : List UInt8) (i : Nat) : Nat × Nat × Int := (a.take i).foldl (stepC s) (0, 1, singleF f (s.getD 0 0))
/-- The first character of a text that is not empty: how many bytes it has, and its width. -/
def charF (a : List Ltr) (f : Font) (s : List UInt8) : Nat × Int := (foldC a f s a.length).2
theorem foldC_step {a : List Ltr} {f : Font} {s : List UInt8} {i : Nat} (h : i < a.length) : foldC a f s (i + 1) = stepC s (foldC a f s i) a[i] := by
  unfold foldC
  rw [List.take_succ_eq_append_getElem h, List.foldl_append]
  rfl
theorem foldC_len {a : List Ltr} {f : Font} {s : List UInt8} (hs : s ≠ []) : ∀ i, i ≤ a.length → 1 ≤ (foldC a f s i).2.1 ∧ (foldC a f s i).2.1 ≤ s.length ∧ ((foldC a f s i).1 = 0 ∧ (foldC a f s i).2 = (1, singleF f (s.getD 0 0)) ∨ 0 < (foldC a f s i).1 ∧ (foldC a f s i).2.1 = (foldC a f s i).1 ∧ ∃ x ∈ a, (foldC a f s i).2.2 = x.width)
  | 0, _ => ⟨Nat.le_refl _, by
      have : 0 < s.length := List.length_pos_iff.2 hs
      simp only [foldC, List.take_zero, List.foldl_nil]
      omega, .inl ⟨rfl, rfl⟩⟩
  | i + 1, h => by
    have ih := foldC_len (a := a) (f := f) hs i (by omega)
    rw [foldC_step (a := a) (i := i) (by omega)]
    unfold stepC
    split
    · rename_i hc
      simp only [fits, Bool.and_eq_true, decide_eq_true_eq] at hc
      exact ⟨by simp only; omega, hc.2.1, .inr ⟨by simp only; omega, rfl, a[i], List.getElem_mem _, rfl⟩⟩
    · exact ih
theorem charF_len {a : List Ltr} {f : Font} {s : List UInt8} (hs : s ≠ []) : 1 ≤ (charF a f s).1 ∧ (charF a f s).1 ≤ s.length := ⟨(foldC_len hs a.length (Nat.le_refl _)).1, (foldC_len hs a.length (Nat.le_refl _)).2.1⟩
/-- The characters of a text. -/
def charsN (a : List Ltr) (f : Font) : Nat → List UInt8 → List (List UInt8 × Int)
  | 0, _ => []
  | k + 1, s => if s = [] then [] else (s.take (charF a f s).1, (charF a f s).2) :: charsN a f k (s.drop (charF a f s).1)
def charsF (a : List Ltr) (f : Font) (s : List UInt8) : List (List UInt8 × Int) := charsN a f s.length s
theorem charsN_more (a : List Ltr) (f : Font) : ∀ (k m : Nat) (s : List UInt8), s.length ≤ k → s.length ≤ m → charsN a f k s = charsN a f m s
  | 0, 0, s, _, _ => rfl
  | 0, m + 1, s, h, _ => by
    have : s = [] := List.length_eq_zero_iff.1 (by omega)
    simp [charsN, this]
  | k + 1, 0, s, _, h => by
    have : s = [] := List.length_eq_zero_iff.1 (by omega)
    simp [charsN, this]
  | k + 1, m + 1, s, h1, h2 => by
    unfold charsN
    by_cases hs : s = []
    · rw [if_pos hs, if_pos hs]
    · rw [if_neg hs, if_neg hs]
      have := charF_len (a := a) (f := f) hs
      rw [charsN_more a f k m _ (by rw [List.length_drop]; omega) (by rw [List.length_drop]; omega)]
theorem charsF_nil (a : List Ltr) (f : Font) : charsF a f [] = [] := rfl
theorem charsF_cons (a : List Ltr) (f : Font) (s : List UInt8) (hs : s ≠ []) : charsF a f s = (s.take (charF a f s).1, (charF a f s).2) :: charsF a f (s.drop (charF a f s).1) := by
  have h0 : 0 < s.length := List.length_pos_iff.2 hs
  have := charF_len (a := a) (f := f) hs
  unfold charsF
  obtain ⟨k, hk⟩ : ∃ k, s.length = k + 1 := ⟨s.length - 1, by omega⟩
  rw [hk]
  conv => lhs; unfold charsN
  rw [if_neg hs, charsN_more a f k _ _ (by rw [List.length_drop]; omega) (Nat.le_refl _)]
/-- A text is its characters, one after the other. -/
theorem charsF_flat (a : List Ltr) (f : Font) (s : List UInt8) : (charsF a f s).flatMap (·.1) = s := by
  have key : ∀ (k : Nat) (s : List UInt8), s.length ≤ k → (charsF a f s).flatMap (·.1) = s := by
    intro k
    induction k with
    | zero =>
      intro s h
      have : s = [] := List.length_eq_zero_iff.1 (by omega)
      rw [this]
      rfl
    | succ k ih =>
      intro s h
      by_cases hs : s = []
      · rw [hs]
        rfl
      · have := charF_len (a := a) (f := f) hs
        rw [charsF_cons a f s hs, List.flatMap_cons, ih _ (by rw [List.length_drop]; omega), List.take_append_drop]
  exact key _ s (Nat.le_refl _)
/-- The kern of two characters; 0, if there is none. -/
def kernF (ks : List Kern) (l r : List UInt8) : Int := match ks.find? fun k => decide (k.left = l ∧ k.right = r) with
  | some k => k.by_
  | none => 0
def boldF (f : Font) (bold : Bool) (w : Int) : Int := if bold then (w * f.bold + 50).tdiv 100 else w
/-- One character more: where it ends, the width up to there, the character, the ends and widths so far. -/
def stepM (f : Font) (bold : Bool) (st : Nat × Int × List UInt8 × List (Nat × Int)) (c : List UInt8 × Int) : Nat × Int × List UInt8 × List (Nat × Int) :=
  (st.1 + c.1.length, st.2.1 + max 0 (boldF f bold c.2 - kernF f.kerns st.2.2.1 c.1), c.1, st.2.2.2 ++ [(st.1 + c.1.length, st.2.1 + max 0 (boldF f bold c.2 - kernF f.kerns st.2.2.1 c.1))])
def foldM (f : Font) (bold : Bool) (cs : List (List UInt8 × Int)) (i : Nat) : Nat × Int × List UInt8 × List (Nat × Int) := (cs.take i).foldl (stepM f bold) (0, 0, [], [])
/-- What measure hands back. -/
def measF (a : List Ltr) (f : Font) (s : List UInt8) (bold : Bool) : List (Nat × Int) × Int :=
  if 65536 < s.length then ([], 4) else if (charsF a f s).any (fun c => decide (c.2 = 0)) then ([], 2) else ((foldM f bold (charsF a f s) (charsF a f s).length).2.2.2, 0)
theorem foldM_step {f : Font} {bold : Bool} {cs : List (List UInt8 × Int)} {i : Nat} (h : i < cs.length) : foldM f bold cs (i + 1) = stepM f bold (foldM f bold cs i) cs[i] := by
  unfold foldM
  rw [List.take_succ_eq_append_getElem h, List.foldl_append]
  rfl
theorem foldM_len {f : Font} {bold : Bool} {cs : List (List UInt8 × Int)} : ∀ i, i ≤ cs.length → (foldM f bold cs i).2.2.2.length = i
  | 0, _ => rfl
  | i + 1, h => by
    rw [foldM_step (by omega), stepM]
    simp only [List.length_append, List.length_singleton]
    rw [foldM_len i (by omega)]
theorem foldM_at {f : Font} {bold : Bool} {cs : List (List UInt8 × Int)} : ∀ i, i ≤ cs.length → (foldM f bold cs i).1 = ((cs.take i).flatMap (·.1)).length
  | 0, _ => rfl
  | i + 1, h => by
    rw [foldM_step (by omega), stepM, List.take_succ_eq_append_getElem (by omega), List.flatMap_append, List.length_append, ← foldM_at (f := f) (bold := bold) i (by omega)]
    simp
/-- No character is wider than 4001. -/
def lowW (f : Font) (bold : Bool) (cs : List (List UInt8 × Int)) : Prop := ∀ c ∈ cs, 0 ≤ boldF f bold c.2 ∧ boldF f bold c.2 ≤ 4001
theorem foldM_sum {f : Font} {bold : Bool} {cs : List (List UInt8 × Int)} (hw : lowW f bold cs) (hk : ∀ l r, 0 ≤ kernF f.kerns l r) : ∀ i, i ≤ cs.length → 0 ≤ (foldM f bold cs i).2.1 ∧ (foldM f bold cs i).2.1 ≤ 4001 * i
  | 0, _ => by simp [foldM]
  | i + 1, h => by
    have ih := foldM_sum hw hk i (by omega)
    rw [foldM_step (by omega), stepM]
    have h1 := hw cs[i] (List.getElem_mem _)
    have h2 := hk (foldM f bold cs i).2.2.1 cs[i].1
    simp only
    omega
end Go.PM

namespace Go.PM
open Go.Proofs
attribute [local irreducible] W PCalls pcall pcallI WL
theorem allIn_take {lo hi : Int} {l : List Int} {i : Nat} (h : i < l.length) : allIn lo hi (l.take (i + 1)) = (allIn lo hi (l.take i) && (decide (lo ≤ l[i]) && decide (l[i] ≤ hi))) := by
  unfold allIn
  rw [List.take_succ_eq_append_getElem h, List.all_append]
  simp
theorem allIn_not {lo hi : Int} {l : List Int} {i : Nat} (h : i < l.length) (hn : l[i] < lo ∨ hi < l[i]) : allIn lo hi l = false := by
  unfold allIn
  rw [List.all_eq_false]
  refine ⟨l[i], List.getElem_mem h, ?_⟩
  simp
  omega
set_option maxRecDepth 100000
set_option maxHeartbeats 8000000
theorem within_all (G : Globs) (lo hi : Int) (l : List Int) (hl : (l.length : Int) ≤ 9223372036854775807) : PCalls Tryd.prog G 40 [pint .i64 lo, pint .i64 hi, .list 1 (l.map (pint .i64))] [] (fun res H => res = pbool (allIn lo hi l) ∧ H = []) := by
  (refine PCalls_f Tryd.func40 rfl Tryd.ntmps40 Tryd.results40 (by simp) fun fin hfin => ?_; have hnm : True := trivial; simp (maxSteps := 2000000) (disch := omega) only [evb, evd, eve, constPV, seqK, blockK, scopeK, pbound, pelems, PV.mem?, PV.one, PV.cells, peqs, peq1, pkeys, pkeyt, List.set, Value.cells, ↓popG_eq, ↓pop.eq_1, ↓List.getElem?_map, ↓List.getElem?_cons_zero, ↓List.getElem?_cons_succ, Value.oneCell', Nat.reduceAdd, Nat.reduceMul, Nat.reduceSub, Nat.reduceLeDiff, Nat.reduceEqDiff, ↓reduceIte, ne_eq, reduceCtorEq, forall_const, exists_and_left, exists_eq_left', eq_self, Nat.reduceLT, Int.reduceLT, Int.reduceLE, Int.reduceToNat, Int.reduceAdd, Int.reduceSub, Int.reduceNeg, hnm, Tryd.tf0, Tryd.tf3, Tryd.tf4, Tryd.tf22])
  repeat' (first
    | (with_reducible apply W_seq_k; intro nx hnx)
    | (with_reducible first | apply W_block | apply W_scope)
    | (with_reducible refine W_prune 3911 ?_; simp only [prb, Nat.reducePow, Nat.reduceDiv, Nat.reduceMod, Nat.reduceBEq]; with_reducible apply W_region_l)
    | ((first | (with_reducible apply WL_op; intro nx hnx) | with_reducible refine Ev_out ?_); try (simp (maxSteps := 2000000) (disch := omega) only [evb, evd, eve, constPV, seqK, blockK, scopeK, pbound, pelems, PV.mem?, PV.one, PV.cells, peqs, peq1, pkeys, pkeyt, List.set, Value.cells, ↓popG_eq, ↓pop.eq_1, ↓List.getElem?_map, ↓List.getElem?_cons_zero, ↓List.getElem?_cons_succ, Value.oneCell', Nat.reduceAdd, Nat.reduceMul, Nat.reduceSub, Nat.reduceLeDiff, Nat.reduceEqDiff, ↓reduceIte, ne_eq, reduceCtorEq, forall_const, exists_and_left, exists_eq_left', eq_self, Nat.reduceLT, Int.reduceLT, Int.reduceLE, Int.reduceToNat, Int.reduceAdd, Int.reduceSub, Int.reduceNeg, hnm, Tryd.tf0, Tryd.tf3, Tryd.tf4, Tryd.tf22]); repeat (refine And.intro (by omega) ?_))
    | ((with_reducible first | apply WL_nil | apply W_label | apply W_skip | apply W_exit | apply W_ret); try simp only [seqK, blockK, scopeK, ↓reduceIte, Nat.reduceEqDiff])
    | (with_reducible apply pguard_intro <;> (intro hc; (try simp only [hcb, reduceCtorEq, forall_const, ne_eq] at hc); first | (exfalso; omega) | (exfalso; exact hc trivial) | refine Ev_in ?_))
    | (with_reducible apply W_cond_k; intro _ _ ea eb; (simp only [condK, cob, opnd, constPV, Nat.reduceEqDiff, Nat.reduceLT, ↓reduceIte, hcb, reduceCtorEq, forall_const, ne_eq]); subst ea eb; first | (refine ⟨fun hc => ?_, fun hc => ?_⟩ <;> first | (exfalso; omega) | (exfalso; exact hc trivial) | skip) | skip)
    | (with_reducible apply hnx; clear hnx nx)
    | (with_reducible refine And.intro (by omega) ?_)
    | (with_reducible refine And.intro ?_ ?_)
    | (clear hnx nx; with_reducible apply hnx; clear hnx nx)
    | (clear hnx nx; clear hnx nx; with_reducible apply hnx; clear hnx nx))
  refine W_loop_k (fun n τ => ∃ i : Nat, i ≤ l.length ∧ n = l.length - i ∧ allIn lo hi (l.take i) = true ∧ τ = ⟨fr 24 [(11, pn i), (10, pint .i64 l.length), (9, .list 1 (l.map (pint .i64))), (1, pint .i64 hi), (0, pint .i64 lo)], []⟩) l.length
    ⟨fr 24 [(11, pn 0), (10, pint .i64 l.length), (9, .list 1 (l.map (pint .i64))), (1, pint .i64 hi), (0, pint .i64 lo)], []⟩ (by exact Wk_fr (by simp only [wkb, Nat.reduceEqDiff, Nat.reduceLT, ↓reduceIte, pn]) (Sub_nil _)) ⟨0, by omega, by omega, rfl, rfl⟩ ?_
  rintro n τ ⟨i, hi_, rfl, hall, rfl⟩ lp hlp
  repeat' (first
    | (with_reducible apply W_seq_k; intro nx hnx)
    | (with_reducible first | apply W_block | apply W_scope)
    | (with_reducible refine W_prune 3911 ?_; simp only [prb, Nat.reducePow, Nat.reduceDiv, Nat.reduceMod, Nat.reduceBEq]; with_reducible apply W_region_l)
    | ((first | (with_reducible apply WL_op; intro nx hnx) | with_reducible refine Ev_out ?_); try (simp (maxSteps := 2000000) (disch := omega) only [evb, evd, eve, constPV, seqK, blockK, scopeK, pbound, pelems, PV.mem?, PV.one, PV.cells, peqs, peq1, pkeys, pkeyt, List.set, Value.cells, ↓popG_eq, ↓pop.eq_1, ↓List.getElem?_map, ↓List.getElem?_cons_zero, ↓List.getElem?_cons_succ, Value.oneCell', Nat.reduceAdd, Nat.reduceMul, Nat.reduceSub, Nat.reduceLeDiff, Nat.reduceEqDiff, ↓reduceIte, ne_eq, reduceCtorEq, forall_const, exists_and_left, exists_eq_left', eq_self, Nat.reduceLT, Int.reduceLT, Int.reduceLE, Int.reduceToNat, Int.reduceAdd, Int.reduceSub, Int.reduceNeg, hnm, Tryd.tf0, Tryd.tf3, Tryd.tf4, Tryd.tf22]); repeat (refine And.intro (by omega) ?_))
    | ((with_reducible first | apply WL_nil | apply W_label | apply W_skip | apply W_exit | apply W_ret); try simp only [seqK, blockK, scopeK, ↓reduceIte, Nat.reduceEqDiff])
    | (with_reducible apply pguard_intro <;> (intro hc; (try simp only [hcb, reduceCtorEq, forall_const, ne_eq] at hc); first | (exfalso; omega) | (exfalso; exact hc trivial) | refine Ev_in ?_))
    | (with_reducible apply W_cond_k; intro _ _ ea eb; (simp only [condK, cob, opnd, constPV, Nat.reduceEqDiff, Nat.reduceLT, ↓reduceIte, hcb, reduceCtorEq, forall_const, ne_eq]); subst ea eb; first | (refine ⟨fun hc => ?_, fun hc => ?_⟩ <;> first | (exfalso; omega) | (exfalso; exact hc trivial) | skip) | skip)
    | (with_reducible apply hnx; clear hnx nx)
    | (with_reducible refine And.intro (by omega) ?_)
    | (with_reducible refine And.intro ?_ ?_)
    | (clear hnx nx; with_reducible apply hnx; clear hnx nx)
    | (clear hnx nx; clear hnx nx; with_reducible apply hnx; clear hnx nx))
  all_goals first | exact absurd trivial hc | contradiction | exact fun h => False.elim h | (exfalso; omega) | (exfalso; have hc := of_decide_eq_false hc; omega) | (exfalso; simp only [Bool.not_false, Bool.not_true, decide_eq_true_eq, decide_eq_false_iff_not] at *; omega) | skip
  · refine hfin _ _ (Fin_ret1 rfl (Sub_nil _) ?_); simp only [List.getD_cons_zero, List.getD_cons_succ, fr_getD_cons, fr_getD_nil, Nat.reduceEqDiff, Nat.reduceLT, ↓reduceIte]
    exact ⟨by rw [allIn_not (i := i) (by omega) (by omega)], by trivial⟩
  · refine hlp _ (l.length - (i+1)) _ (by omega) ?_ ⟨i+1, by omega, rfl, ?_, rfl⟩
    · exact Wk_fr (by simp only [wkb, Nat.reduceEqDiff, Nat.reduceLT, ↓reduceIte, pn]) (Sub_nil _)
    · rw [allIn_take (by omega), hall]
      simp
      omega
  · refine hfin _ _ (Fin_ret1 rfl (Sub_nil _) ?_); simp only [List.getD_cons_zero, List.getD_cons_succ, fr_getD_cons, fr_getD_nil, Nat.reduceEqDiff, Nat.reduceLT, ↓reduceIte]
    exact ⟨by rw [allIn_not (i := i) (by omega) (by omega)], by trivial⟩
  · refine hfin _ _ (Fin_ret1 rfl (Sub_nil _) ?_); simp only [List.getD_cons_zero, List.getD_cons_succ, fr_getD_cons, fr_getD_nil, Nat.reduceEqDiff, Nat.reduceLT, ↓reduceIte]
    rw [List.take_of_length_le (by omega)] at hall
    exact ⟨by rw [hall], by trivial⟩
theorem single_c (G : Globs) (f : Font) (c : UInt8) : PCalls Tryd.prog G 73 [foP f, pbyte c] [] (fun res H => res = pint .i64 (singleF f c) ∧ H = []) := by
  (refine PCalls_f Tryd.func73 rfl Tryd.ntmps73 Tryd.results73 (by simp) fun fin hfin => ?_; have hnm : True := trivial; simp (maxSteps := 2000000) (disch := omega) only [evb, evd, eve, constPV, seqK, blockK, scopeK, pbound, pelems, PV.mem?, PV.one, PV.cells, peqs, peq1, pkeys, pkeyt, List.set, Value.cells, ↓popG_eq, ↓pop.eq_1, ↓List.getElem?_map, ↓List.getElem?_cons_zero, ↓List.getElem?_cons_succ, Value.oneCell', Nat.reduceAdd, Nat.reduceMul, Nat.reduceSub, Nat.reduceLeDiff, Nat.reduceEqDiff, ↓reduceIte, ne_eq, reduceCtorEq, forall_const, exists_and_left, exists_eq_left', eq_self, Nat.reduceLT, Int.reduceLT, Int.reduceLE, Int.reduceToNat, Int.reduceAdd, Int.reduceSub, Int.reduceNeg, hnm, Tryd.tf0, Tryd.tf1, Tryd.tf2, Tryd.tf3, Tryd.tf4, Tryd.tf5, Tryd.tf27])
  repeat' (first
    | (with_reducible apply W_seq_k; intro nx hnx)
    | (with_reducible first | apply W_block | apply W_scope)
    | (with_reducible refine W_prune 23 ?_; simp only [prb, Nat.reducePow, Nat.reduceDiv, Nat.reduceMod, Nat.reduceBEq]; with_reducible apply W_region_l)
    | ((first | (with_reducible apply WL_op; intro nx hnx) | with_reducible refine Ev_out ?_ | (with_reducible refine pfresh_k hnm fun nm hnm => ?_; (try simp only [fmb] at hnm)) | (with_reducible refine pborn_mu hnm fun nm hnm => ?_; (try simp only [fmb] at hnm))); try (simp (maxSteps := 2000000) (disch := omega) only [evb, evd, eve, constPV, seqK, blockK, scopeK, pbound, pelems, PV.mem?, PV.one, PV.cells, peqs, peq1, pkeys, pkeyt, List.set, Value.cells, ↓popG_eq, ↓pop.eq_1, ↓List.getElem?_map, ↓List.getElem?_cons_zero, ↓List.getElem?_cons_succ, Value.oneCell', Nat.reduceAdd, Nat.reduceMul, Nat.reduceSub, Nat.reduceLeDiff, Nat.reduceEqDiff, ↓reduceIte, ne_eq, reduceCtorEq, forall_const, exists_and_left, exists_eq_left', eq_self, Nat.reduceLT, Int.reduceLT, Int.reduceLE, Int.reduceToNat, Int.reduceAdd, Int.reduceSub, Int.reduceNeg, hnm, Tryd.tf0, Tryd.tf1, Tryd.tf2, Tryd.tf3, Tryd.tf4, Tryd.tf5, Tryd.tf27]); repeat (refine And.intro (by omega) ?_))
    | ((with_reducible first | apply WL_nil | apply W_label | apply W_skip | apply W_exit | apply W_ret); try simp only [seqK, blockK, scopeK, ↓reduceIte, Nat.reduceEqDiff])
    | (with_reducible apply pguard_intro <;> (intro hc; (try simp only [hcb, reduceCtorEq, forall_const, ne_eq] at hc); first | (exfalso; omega) | (exfalso; exact hc trivial) | refine Ev_in ?_))
    | (with_reducible apply W_cond_k; intro _ _ ea eb; (simp only [condK, cob, opnd, constPV, Nat.reduceEqDiff, Nat.reduceLT, ↓reduceIte, hcb, reduceCtorEq, forall_const, ne_eq]); subst ea eb; first | (refine ⟨fun hc => ?_, fun hc => ?_⟩ <;> first | (exfalso; omega) | (exfalso; exact hc trivial) | skip) | skip)
    | (with_reducible apply hnx; clear hnx nx)
    | (with_reducible refine And.intro (by omega) ?_)
    | (with_reducible refine And.intro ?_ ?_)
    | (clear hnx nx; with_reducible apply hnx; clear hnx nx)
    | (clear hnx nx; clear hnx nx; with_reducible apply hnx; clear hnx nx))
  all_goals first | exact absurd trivial hc | contradiction | exact fun h => False.elim h | (exfalso; omega) | (exfalso; have hc := of_decide_eq_false hc; omega) | (exfalso; simp only [Bool.not_false, Bool.not_true, decide_eq_true_eq, decide_eq_false_iff_not] at *; omega) | skip
  all_goals
    refine hfin _ _ (Fin_ret1 rfl (Sub_nil _) ?_); simp only [List.getD_cons_zero, List.getD_cons_succ, fr_getD_cons, fr_getD_nil, Nat.reduceEqDiff, Nat.reduceLT, ↓reduceIte]
    refine ⟨?_, by trivial⟩
    unfold singleF
    repeat' split
    all_goals first
      | rfl
      | (exfalso
         omega)
end Go.PM

namespace Go.PM
open Go.Proofs
attribute [local irreducible] W PCalls pcall pcallI WL
/-- The key of a kern. -/
@[reducible] def keyS (l r : List UInt8) : Value := .agg #[.string (mk l), .string (mk r)]
/-- The cells of the map. -/
def memK (ks : List Kern) : List PV := ks.map fun k => .ent (.val (keyS k.left k.right)) (pint .i64 k.by_)
theorem vsame_keyS (l r l' r' : List UInt8) : vsame (keyS l r) (keyS l' r') = some (decide ((l, r) = (l', r'))) := by
  simp only [vsame, keyS, List.toList_toArray, vsames, bl_mk, Option.some.injEq, Bool.and_true]
  rw [Bool.eq_iff_iff]
  simp only [Bool.and_eq_true, beq_iff_eq, decide_eq_true_eq, Prod.mk.injEq]
theorem mfindK (l r : List UInt8) : ∀ (ks : List Kern) (i : Nat), ((l, r) ∉ pairs ks ∧ (ks.find? fun k => decide (k.left = l ∧ k.right = r)) = none ∧ mfind (keyS l r) (memK ks) i = some none) ∨
    (∃ j k, (l, r) ∈ pairs ks ∧ (ks.find? fun k => decide (k.left = l ∧ k.right = r)) = some k ∧ mfind (keyS l r) (memK ks) i = some (some (i + j, pint .i64 k.by_)))
  | [], _ => .inl ⟨by simp [pairs], rfl, rfl⟩
  | x :: ks, i => by
    by_cases hx : (l, r) = (x.left, x.right)
    · refine .inr ⟨0, x, by simp [pairs, hx], ?_, ?_⟩
      · rw [List.find?_cons_of_pos]
        cases hx
        simp
      · simp only [memK, List.map_cons, mfind, vsame_keyS, hx, decide_true, Nat.add_zero]
    · have hn : ¬ (x.left = l ∧ x.right = r) := fun h => hx (by rw [h.1, h.2])
      have hf : ((x :: ks).find? fun k => decide (k.left = l ∧ k.right = r)) = ks.find? fun k => decide (k.left = l ∧ k.right = r) := List.find?_cons_of_neg (by simpa using hn)
      have hm : mfind (keyS l r) (memK (x :: ks)) i = mfind (keyS l r) (memK ks) (i + 1) := by
        simp only [memK, List.map_cons, mfind, vsame_keyS, decide_eq_false hx]
      rw [hf, hm]
      rcases mfindK l r ks (i + 1) with ⟨h1, h2, h3⟩ | ⟨j, k, h1, h2, h3⟩
      · refine .inl ⟨fun h => ?_, h2, h3⟩
        rcases List.mem_cons.1 h with h | h
        · exact hx h
        · exact h1 h
      · exact .inr ⟨j + 1, k, List.mem_cons_of_mem _ h1, h2, by rw [h3, show i + (j + 1) = i + 1 + j by omega]⟩
theorem memK_app (ks : List Kern) (k : Kern) : memK ks ++ [.ent (.val (keyS k.left k.right)) (pint .i64 k.by_)] = memK (ks ++ [k]) := by
  simp [memK]
theorem pairs_take {ks : List Kern} {i : Nat} (h : i < ks.length) : pairs (ks.take (i + 1)) = pairs (ks.take i) ++ [(ks[i].left, ks[i].right)] := by
  rw [List.take_succ_eq_append_getElem h, pairs, List.map_append]
  rfl
theorem memK_take {ks : List Kern} {i : Nat} (h : i < ks.length) : memK (ks.take (i + 1)) = memK (ks.take i) ++ [.ent (.val (keyS ks[i].left ks[i].right)) (pint .i64 ks[i].by_)] := by
  rw [List.take_succ_eq_append_getElem h, memK_app]
theorem pairs_bad {ks : List Kern} {i : Nat} (h : i < ks.length) (hm : (ks[i].left, ks[i].right) ∈ pairs (ks.take i)) : ¬ (pairs ks).Nodup := by
  intro hn
  have h1 : (pairs (ks.take (i + 1))).Nodup := by
    refine List.Nodup.sublist ?_ hn
    exact (List.take_sublist _ _).map _
  rw [pairs_take h] at h1
  exact (List.nodup_append.1 h1).2.2 _ hm _ (by simp) rfl
/-- What kerns hands back. -/
@[reducible] def KR (ks : List Kern) (res : PV) (H : Heap) : Prop := ((pairs ks).Nodup ∧ ∃ M : Int, res = .mp M ∧ H = [(M, ⟨72, false, 0, memK ks⟩)]) ∨ (¬ (pairs ks).Nodup ∧ res = .val (.map none) ∧ H = [])
set_option maxRecDepth 100000
set_option maxHeartbeats 8000000
theorem kerns_c (G : Globs) (f : Font) (hf : HF f) : PCalls Tryd.prog G 41 [foP f] [] (KR f.kerns) := by
  have hkl := hf.2.1
  (refine PCalls_f Tryd.func41 rfl Tryd.ntmps41 Tryd.results41 (by simp) fun fin hfin => ?_; have hnm : True := trivial; simp (maxSteps := 2000000) (disch := omega) only [evb, evd, eve, constPV, seqK, blockK, scopeK, pbound, pelems, PV.mem?, PV.one, PV.cells, peqs, peq1, pkeys, pkeyt, List.set, Value.cells, ↓popG_eq, ↓pop.eq_1, ↓List.getElem?_map, ↓List.getElem?_cons_zero, ↓List.getElem?_cons_succ, Value.oneCell', Nat.reduceAdd, Nat.reduceMul, Nat.reduceSub, Nat.reduceLeDiff, Nat.reduceEqDiff, ↓reduceIte, ne_eq, reduceCtorEq, forall_const, exists_and_left, exists_eq_left', eq_self, Nat.reduceLT, Int.reduceLT, Int.reduceLE, Int.reduceToNat, Int.reduceAdd, Int.reduceSub, Int.reduceNeg, hnm, Tryd.tf0, Tryd.tf1, Tryd.tf2, Tryd.tf3, Tryd.tf4, Tryd.tf9, Tryd.tf25, Tryd.tf27, Tryd.tf68, Tryd.tf72, Tryd.tf97, Tryd.tf98])
  repeat' (first
    | (with_reducible apply W_seq_k; intro nx hnx)
    | (with_reducible first | apply W_block | apply W_scope)
    | (with_reducible refine W_prune 14703 ?_; simp only [prb, Nat.reducePow, Nat.reduceDiv, Nat.reduceMod, Nat.reduceBEq]; with_reducible apply W_region_l)
    | ((first | (with_reducible apply WL_op; intro nx hnx) | with_reducible refine Ev_out ?_ | (with_reducible refine pfresh_k hnm fun nm hnm => ?_; (try simp only [fmb] at hnm)) | (with_reducible refine pborn_mu hnm fun nm hnm => ?_; (try simp only [fmb] at hnm))); try (simp (maxSteps := 2000000) (disch := omega) only [evb, evd, eve, constPV, seqK, blockK, scopeK, pbound, pelems, PV.mem?, PV.one, PV.cells, peqs, peq1, pkeys, pkeyt, List.set, Value.cells, ↓popG_eq, ↓pop.eq_1, ↓List.getElem?_map, ↓List.getElem?_cons_zero, ↓List.getElem?_cons_succ, Value.oneCell', Nat.reduceAdd, Nat.reduceMul, Nat.reduceSub, Nat.reduceLeDiff, Nat.reduceEqDiff, ↓reduceIte, ne_eq, reduceCtorEq, forall_const, exists_and_left, exists_eq_left', eq_self, Nat.reduceLT, Int.reduceLT, Int.reduceLE, Int.reduceToNat, Int.reduceAdd, Int.reduceSub, Int.reduceNeg, hnm, Tryd.tf0, Tryd.tf1, Tryd.tf2, Tryd.tf3, Tryd.tf4, Tryd.tf9, Tryd.tf25, Tryd.tf27, Tryd.tf68, Tryd.tf72, Tryd.tf97, Tryd.tf98]); repeat (refine And.intro (by omega) ?_))
    | ((with_reducible first | apply WL_nil | apply W_label | apply W_skip | apply W_exit | apply W_ret); try simp only [seqK, blockK, scopeK, ↓reduceIte, Nat.reduceEqDiff])
    | (with_reducible apply W_cond_k; intro _ _ ea eb; (simp only [condK, cob, opnd, constPV, Nat.reduceEqDiff, Nat.reduceLT, ↓reduceIte, hcb, reduceCtorEq, forall_const, ne_eq]); subst ea eb; first | (refine ⟨fun hc => ?_, fun hc => ?_⟩ <;> first | (exfalso; omega) | (exfalso; exact hc trivial) | skip) | skip)
    | (with_reducible apply hnx; clear hnx nx)
    | (with_reducible refine And.intro (by omega) ?_)
    | (with_reducible refine And.intro ?_ ?_)
    | (clear hnx nx; with_reducible apply hnx; clear hnx nx)
    | (clear hnx nx; clear hnx nx; with_reducible apply hnx; clear hnx nx))
  generalize nm = mn at *
  refine W_loop_k (fun z τ => ∃ i : Nat, i ≤ f.kerns.length ∧ z = f.kerns.length - i ∧ (pairs (f.kerns.take i)).Nodup ∧ τ = ⟨fr 35 [(13, pn i), (12, pint .i64 f.kerns.length), (11, ksP f.kerns), (3, .mp mn)], [(mn, ⟨72, false, 0, memK (f.kerns.take i)⟩)]⟩) f.kerns.length
    ⟨fr 35 [(13, pn 0), (12, pint .i64 f.kerns.length), (11, ksP f.kerns), (3, .mp mn)], [(mn, ⟨72, false, 0, memK (f.kerns.take 0)⟩)]⟩ (by
    refine Wk_fr (by simp only [wkb, Nat.reduceEqDiff, Nat.reduceLT, ↓reduceIte, pn]) ?_
    exact ⟨by simp [memK], by simp [names]⟩) ⟨0, by omega, by omega, by simp [pairs], rfl⟩ ?_
  rintro z τ ⟨i, hi, rfl, hok, rfl⟩ lp hlp
  by_cases hil : i < f.kerns.length
  · obtain ⟨t1, t2, t3⟩ := hf.2.2 f.kerns[i] (List.getElem_mem hil)
    have hget : f.kerns[i]? = some f.kerns[i] := List.getElem?_eq_getElem hil
    have h1 := pairs_take hil
    have h2 := memK_take hil
    rcases mfindK f.kerns[i].left f.kerns[i].right (f.kerns.take i) 0 with ⟨g1, g2, g3⟩ | ⟨j, v, g1, g2, g3⟩
    · repeat' (first
    | (with_reducible apply W_seq_k; intro nx hnx)
    | (with_reducible first | apply W_block | apply W_scope)
    | (with_reducible refine W_prune 14703 ?_; simp only [prb, Nat.reducePow, Nat.reduceDiv, Nat.reduceMod, Nat.reduceBEq]; with_reducible apply W_region_l)
    | ((first | (with_reducible apply WL_op; intro nx hnx) | with_reducible refine Ev_out ?_ | (with_reducible refine pfresh_k hnm fun nm hnm => ?_; (try simp only [fmb] at hnm)) | (with_reducible refine pborn_mu hnm fun nm hnm => ?_; (try simp only [fmb] at hnm))); try (simp (maxSteps := 2000000) (disch := omega) only [evb, evd, eve, constPV, seqK, blockK, scopeK, pbound, pelems, PV.mem?, PV.one, PV.cells, peqs, peq1, pkeys, pkeyt, List.set, Value.cells, ↓popG_eq, ↓pop.eq_1, ↓List.getElem?_map, ↓List.getElem?_cons_zero, ↓List.getElem?_cons_succ, Value.oneCell', Nat.reduceAdd, Nat.reduceMul, Nat.reduceSub, Nat.reduceLeDiff, Nat.reduceEqDiff, ↓reduceIte, ne_eq, reduceCtorEq, forall_const, exists_and_left, exists_eq_left', eq_self, Nat.reduceLT, Int.reduceLT, Int.reduceLE, Int.reduceToNat, Int.reduceAdd, Int.reduceSub, Int.reduceNeg, hnm, Tryd.tf0, Tryd.tf1, Tryd.tf2, Tryd.tf3, Tryd.tf4, Tryd.tf9, Tryd.tf25, Tryd.tf27, Tryd.tf68, Tryd.tf72, Tryd.tf97, Tryd.tf98, hget, g3]); repeat (refine And.intro (by omega) ?_))
    | ((with_reducible first | apply WL_nil | apply W_label | apply W_skip | apply W_exit | apply W_ret); try simp only [seqK, blockK, scopeK, ↓reduceIte, Nat.reduceEqDiff])
    | (with_reducible apply W_cond_k; intro _ _ ea eb; (simp only [condK, cob, opnd, constPV, Nat.reduceEqDiff, Nat.reduceLT, ↓reduceIte, hcb, reduceCtorEq, forall_const, ne_eq]); subst ea eb; first | (refine ⟨fun hc => ?_, fun hc => ?_⟩ <;> first | (exfalso; omega) | (exfalso; exact hc trivial) | skip) | skip)
    | (with_reducible apply hnx; clear hnx nx)
    | (with_reducible refine And.intro (by omega) ?_)
    | (with_reducible refine And.intro ?_ ?_)
    | (clear hnx nx; with_reducible apply hnx; clear hnx nx)
    | (clear hnx nx; clear hnx nx; with_reducible apply hnx; clear hnx nx))
      all_goals first | exact absurd trivial hc | contradiction | exact fun h => False.elim h | (exfalso; omega) | (exfalso; have hc := of_decide_eq_false hc; omega) | (exfalso; simp only [Bool.not_false, Bool.not_true, decide_eq_true_eq, decide_eq_false_iff_not] at *; omega) | skip
      all_goals
        refine hlp _ (f.kerns.length - (i + 1)) ⟨fr 35 [(13, pn (i + 1)), (12, pint .i64 f.kerns.length), (11, ksP f.kerns), (3, .mp mn)], [(mn, ⟨72, false, 0, memK (f.kerns.take (i + 1))⟩)]⟩ (by omega) ?_ ⟨i + 1, by omega, rfl, ?_, rfl⟩
        · rw [h2]
          refine Wk_fr (by simp only [wkb, Nat.reduceEqDiff, Nat.reduceLT, ↓reduceIte, pn]) ?_
          exact ⟨fun x hx => by simp at hx; simp [hx], by simp [names]⟩
        · rw [h1]
          exact List.nodup_append.2 ⟨hok, by simp, fun x hx y hy => by
            simp only [List.mem_singleton] at hy
            subst hy
            exact fun e => g1 (e ▸ hx)⟩
    · repeat' (first
    | (with_reducible apply W_seq_k; intro nx hnx)
    | (with_reducible first | apply W_block | apply W_scope)
    | (with_reducible refine W_prune 14703 ?_; simp only [prb, Nat.reducePow, Nat.reduceDiv, Nat.reduceMod, Nat.reduceBEq]; with_reducible apply W_region_l)
    | ((first | (with_reducible apply WL_op; intro nx hnx) | with_reducible refine Ev_out ?_ | (with_reducible refine pfresh_k hnm fun nm hnm => ?_; (try simp only [fmb] at hnm)) | (with_reducible refine pborn_mu hnm fun nm hnm => ?_; (try simp only [fmb] at hnm))); try (simp (maxSteps := 2000000) (disch := omega) only [evb, evd, eve, constPV, seqK, blockK, scopeK, pbound, pelems, PV.mem?, PV.one, PV.cells, peqs, peq1, pkeys, pkeyt, List.set, Value.cells, ↓popG_eq, ↓pop.eq_1, ↓List.getElem?_map, ↓List.getElem?_cons_zero, ↓List.getElem?_cons_succ, Value.oneCell', Nat.reduceAdd, Nat.reduceMul, Nat.reduceSub, Nat.reduceLeDiff, Nat.reduceEqDiff, ↓reduceIte, ne_eq, reduceCtorEq, forall_const, exists_and_left, exists_eq_left', eq_self, Nat.reduceLT, Int.reduceLT, Int.reduceLE, Int.reduceToNat, Int.reduceAdd, Int.reduceSub, Int.reduceNeg, hnm, Tryd.tf0, Tryd.tf1, Tryd.tf2, Tryd.tf3, Tryd.tf4, Tryd.tf9, Tryd.tf25, Tryd.tf27, Tryd.tf68, Tryd.tf72, Tryd.tf97, Tryd.tf98, hget, g3]); repeat (refine And.intro (by omega) ?_))
    | ((with_reducible first | apply WL_nil | apply W_label | apply W_skip | apply W_exit | apply W_ret); try simp only [seqK, blockK, scopeK, ↓reduceIte, Nat.reduceEqDiff])
    | (with_reducible apply W_cond_k; intro _ _ ea eb; (simp only [condK, cob, opnd, constPV, Nat.reduceEqDiff, Nat.reduceLT, ↓reduceIte, hcb, reduceCtorEq, forall_const, ne_eq]); subst ea eb; first | (refine ⟨fun hc => ?_, fun hc => ?_⟩ <;> first | (exfalso; omega) | (exfalso; exact hc trivial) | skip) | skip)
    | (with_reducible apply hnx; clear hnx nx)
    | (with_reducible refine And.intro (by omega) ?_)
    | (with_reducible refine And.intro ?_ ?_)
    | (clear hnx nx; with_reducible apply hnx; clear hnx nx)
    | (clear hnx nx; clear hnx nx; with_reducible apply hnx; clear hnx nx))
      all_goals first | exact absurd trivial hc | contradiction | exact fun h => False.elim h | (exfalso; omega) | (exfalso; have hc := of_decide_eq_false hc; omega) | (exfalso; simp only [Bool.not_false, Bool.not_true, decide_eq_true_eq, decide_eq_false_iff_not] at *; omega) | skip
      all_goals
        refine hfin _ _ (Fin_ret1 rfl (Sub_nil _) ?_); simp only [List.getD_cons_zero, List.getD_cons_succ, fr_getD_cons, fr_getD_nil, Nat.reduceEqDiff, Nat.reduceLT, ↓reduceIte]
        exact .inr ⟨pairs_bad hil g1, rfl, rfl⟩
  · have hi2 : i = f.kerns.length := by omega
    subst hi2
    rw [List.take_of_length_le (Nat.le_refl _)] at hok ⊢
    repeat' (first
    | (with_reducible apply W_seq_k; intro nx hnx)
    | (with_reducible first | apply W_block | apply W_scope)
    | (with_reducible refine W_prune 14703 ?_; simp only [prb, Nat.reducePow, Nat.reduceDiv, Nat.reduceMod, Nat.reduceBEq]; with_reducible apply W_region_l)
    | ((first | (with_reducible apply WL_op; intro nx hnx) | with_reducible refine Ev_out ?_ | (with_reducible refine pfresh_k hnm fun nm hnm => ?_; (try simp only [fmb] at hnm)) | (with_reducible refine pborn_mu hnm fun nm hnm => ?_; (try simp only [fmb] at hnm))); try (simp (maxSteps := 2000000) (disch := omega) only [evb, evd, eve, constPV, seqK, blockK, scopeK, pbound, pelems, PV.mem?, PV.one, PV.cells, peqs, peq1, pkeys, pkeyt, List.set, Value.cells, ↓popG_eq, ↓pop.eq_1, ↓List.getElem?_map, ↓List.getElem?_cons_zero, ↓List.getElem?_cons_succ, Value.oneCell', Nat.reduceAdd, Nat.reduceMul, Nat.reduceSub, Nat.reduceLeDiff, Nat.reduceEqDiff, ↓reduceIte, ne_eq, reduceCtorEq, forall_const, exists_and_left, exists_eq_left', eq_self, Nat.reduceLT, Int.reduceLT, Int.reduceLE, Int.reduceToNat, Int.reduceAdd, Int.reduceSub, Int.reduceNeg, hnm, Tryd.tf0, Tryd.tf1, Tryd.tf2, Tryd.tf3, Tryd.tf4, Tryd.tf9, Tryd.tf25, Tryd.tf27, Tryd.tf68, Tryd.tf72, Tryd.tf97, Tryd.tf98]); repeat (refine And.intro (by omega) ?_))
    | ((with_reducible first | apply WL_nil | apply W_label | apply W_skip | apply W_exit | apply W_ret); try simp only [seqK, blockK, scopeK, ↓reduceIte, Nat.reduceEqDiff])
    | (with_reducible apply W_cond_k; intro _ _ ea eb; (simp only [condK, cob, opnd, constPV, Nat.reduceEqDiff, Nat.reduceLT, ↓reduceIte, hcb, reduceCtorEq, forall_const, ne_eq]); subst ea eb; first | (refine ⟨fun hc => ?_, fun hc => ?_⟩ <;> first | (exfalso; omega) | (exfalso; exact hc trivial) | skip) | skip)
    | (with_reducible apply hnx; clear hnx nx)
    | (with_reducible refine And.intro (by omega) ?_)
    | (with_reducible refine And.intro ?_ ?_)
    | (clear hnx nx; with_reducible apply hnx; clear hnx nx)
    | (clear hnx nx; clear hnx nx; with_reducible apply hnx; clear hnx nx))
    all_goals first | exact absurd trivial hc | contradiction | exact fun h => False.elim h | (exfalso; omega) | (exfalso; have hc := of_decide_eq_false hc; omega) | (exfalso; simp only [Bool.not_false, Bool.not_true, decide_eq_true_eq, decide_eq_false_iff_not] at *; omega) | skip
    all_goals
      refine hfin _ _ (Fin_ret1 rfl (H := [(mn, ⟨72, false, 0, memK f.kerns⟩)]) ⟨?_, by simp [names]⟩ ?_)
      · simp
      · exact .inl ⟨hok, mn, by simp only [fr_getD_cons, fr_getD_nil, Nat.reduceEqDiff, Nat.reduceLT, ↓reduceIte], rfl⟩
end Go.PM

namespace Go.PM
open Go.Proofs
attribute [local irreducible] W PCalls pcall pcallI WL
theorem okKern_eq (k : Kern) : okKern k = (allIn 1 4 [(k.left.length : Int), k.right.length] && allIn 1 1000 [k.by_]) := by
  unfold okKern allIn
  rw [Bool.eq_iff_iff]
  simp only [List.all_cons, List.all_nil, Bool.and_eq_true, decide_eq_true_eq, Bool.and_true]
  omega
theorem okK_take {ks : List Kern} {i : Nat} (h : i < ks.length) : (ks.take (i + 1)).all okKern = ((ks.take i).all okKern && okKern ks[i]) := by
  rw [List.take_succ_eq_append_getElem h, List.all_append]
  simp
theorem okK_not {ks : List Kern} {i : Nat} (h : i < ks.length) (hn : okKern ks[i] = false) : ks.all okKern = false := by
  rw [List.all_eq_false]
  exact ⟨ks[i], List.getElem_mem h, by simp [hn]⟩
set_option maxRecDepth 100000
set_option maxHeartbeats 8000000
theorem fvalid_c (G : Globs) (f : Font) (hf : HF f) : PCalls Tryd.prog G 16 [foP f] [] (fun res H => res = pbool (okFont f) ∧ H = []) := by
  have hkl := hf.2.1
  have c1 := within_all G 1 1000 [f.space, f.digit, f.mark] (by simp)
  have c2 := within_all G 50 400 [f.bold] (by simp)
  have c3 := kerns_c G f hf
  have hok : okFont f = (allIn 1 1000 [f.space, f.digit, f.mark] && allIn 50 400 [f.bold] && decide (f.kerns.length ≤ 64) && f.kerns.all okKern && decide (pairs f.kerns).Nodup) := rfl
  generalize allIn 1 1000 [f.space, f.digit, f.mark] = b1 at *
  generalize allIn 50 400 [f.bold] = b2 at *
  have c1 : PCalls Tryd.prog G 40 [.val (.int .i64 1), .val (.int .i64 1000), .list 1 [pint .i64 f.space, pint .i64 f.digit, pint .i64 f.mark]] [] _ := c1
  have c2 : PCalls Tryd.prog G 40 [.val (.int .i64 50), .val (.int .i64 400), .list 1 [pint .i64 f.bold]] [] _ := c2
  rw [hok]
  (refine PCalls_f Tryd.func16 rfl Tryd.ntmps16 Tryd.results16 (by simp) fun fin hfin => ?_; have hnm : True := trivial; simp (maxSteps := 2000000) (disch := omega) only [evb, evd, eve, constPV, seqK, blockK, scopeK, pbound, pelems, PV.mem?, PV.one, PV.cells, peqs, peq1, pkeys, pkeyt, List.set, Value.cells, ↓popG_eq, ↓pop.eq_1, ↓List.getElem?_map, ↓List.getElem?_cons_zero, ↓List.getElem?_cons_succ, Value.oneCell', Nat.reduceAdd, Nat.reduceMul, Nat.reduceSub, Nat.reduceLeDiff, Nat.reduceEqDiff, ↓reduceIte, ne_eq, reduceCtorEq, forall_const, exists_and_left, exists_eq_left', eq_self, Nat.reduceLT, Int.reduceLT, Int.reduceLE, Int.reduceToNat, Int.reduceAdd, Int.reduceSub, Int.reduceNeg, hnm, Tryd.tf0, Tryd.tf1, Tryd.tf2, Tryd.tf3, Tryd.tf4, Tryd.tf9, Tryd.tf22, Tryd.tf25, Tryd.tf27, Tryd.tf68, Tryd.tf72, Tryd.call40, Tryd.call41])
  repeat' (first
    | (with_reducible apply W_seq_k; intro nx hnx)
    | (with_reducible first | apply W_block | apply W_scope)
    | (with_reducible refine W_prune 1879048215 ?_; simp only [prb, Nat.reducePow, Nat.reduceDiv, Nat.reduceMod, Nat.reduceBEq]; with_reducible apply W_region_l)
    | (with_reducible refine WL_born (by simp) rfl (by simp) ?_; simp only [elemsOf, nl, List.map_cons, List.map_nil, Nat.reduceEqDiff, ↓reduceIte, List.take_succ_cons, List.take_zero, List.range_succ, List.range_zero, List.nil_append, List.cons_append, List.map_append, List.drop_succ_cons, List.drop_zero, Nat.reduceMul, Nat.zero_mul, Nat.one_mul, Nat.reduceAdd])
    | (with_reducible refine WL_bornH (by simp) (by simp) ?_ ?_ ?_; (· simp [frz, frz1, hnm]); (· simp [frz1, hnm, PV.one, Value.oneCell']); simp only [elemsOf, nl, List.map_cons, List.map_nil, Nat.reduceEqDiff, ↓reduceIte, List.take_succ_cons, List.take_zero, List.range_succ, List.range_zero, List.nil_append, List.cons_append, List.map_append, List.drop_succ_cons, List.drop_zero, Nat.reduceMul, Nat.zero_mul, Nat.one_mul, Nat.reduceAdd])
    | ((first | (with_reducible apply WL_op; intro nx hnx) | with_reducible refine Ev_out ?_ | (with_reducible refine pfresh_k hnm fun nm hnm => ?_; (try simp only [fmb] at hnm)) | (with_reducible refine pborn_im ?_; simp only [elemsOf, nl, List.map_cons, List.map_nil, Nat.reduceEqDiff, ↓reduceIte, List.take_succ_cons, List.take_zero, List.range_succ, List.range_zero, List.nil_append, List.cons_append, List.map_append, List.drop_succ_cons, List.drop_zero, Nat.reduceMul, Nat.zero_mul, Nat.one_mul, Nat.reduceAdd])); try (simp (maxSteps := 2000000) (disch := omega) only [evb, evd, eve, constPV, seqK, blockK, scopeK, pbound, pelems, PV.mem?, PV.one, PV.cells, peqs, peq1, pkeys, pkeyt, List.set, Value.cells, ↓popG_eq, ↓pop.eq_1, ↓List.getElem?_map, ↓List.getElem?_cons_zero, ↓List.getElem?_cons_succ, Value.oneCell', Nat.reduceAdd, Nat.reduceMul, Nat.reduceSub, Nat.reduceLeDiff, Nat.reduceEqDiff, ↓reduceIte, ne_eq, reduceCtorEq, forall_const, exists_and_left, exists_eq_left', eq_self, Nat.reduceLT, Int.reduceLT, Int.reduceLE, Int.reduceToNat, Int.reduceAdd, Int.reduceSub, Int.reduceNeg, hnm, Tryd.tf0, Tryd.tf1, Tryd.tf2, Tryd.tf3, Tryd.tf4, Tryd.tf9, Tryd.tf22, Tryd.tf25, Tryd.tf27, Tryd.tf68, Tryd.tf72, Tryd.call40, Tryd.call41]); repeat (refine And.intro (by omega) ?_))
    | ((with_reducible first | apply WL_nil | apply W_label | apply W_skip | apply W_exit | apply W_ret); try simp only [seqK, blockK, scopeK, ↓reduceIte, Nat.reduceEqDiff])
    | (with_reducible apply pguard_intro <;> (intro hc; (try simp only [hcb, reduceCtorEq, forall_const, ne_eq] at hc); first | (exfalso; omega) | (exfalso; exact hc trivial) | refine Ev_in ?_))
    | (with_reducible apply W_cond_k; intro _ _ ea eb; (simp only [condK, cob, opnd, constPV, Nat.reduceEqDiff, Nat.reduceLT, ↓reduceIte, hcb, reduceCtorEq, forall_const, ne_eq]); subst ea eb; first | (refine ⟨fun hc => ?_, fun hc => ?_⟩ <;> first | (exfalso; omega) | (exfalso; exact hc trivial) | skip) | skip)
    | (with_reducible apply hnx; clear hnx nx)
    | (with_reducible refine And.intro (by omega) ?_)
    | (with_reducible refine And.intro ?_ ?_)
    | (with_reducible refine pcall_k (c1) ?_; rintro _ _ ⟨rfl, rfl⟩ -; refine Ev_in ?_)
    | (with_reducible refine pcall_k (c2) ?_; rintro _ _ ⟨rfl, rfl⟩ -; refine Ev_in ?_)
    | (clear hnx nx; with_reducible apply hnx; clear hnx nx)
    | (clear hnx nx; clear hnx nx; with_reducible apply hnx; clear hnx nx))
  all_goals first | exact absurd trivial hc | contradiction | exact fun h => False.elim h | (exfalso; omega) | (exfalso; have hc := of_decide_eq_false hc; omega) | (exfalso; simp only [Bool.not_false, Bool.not_true, decide_eq_true_eq, decide_eq_false_iff_not] at *; omega) | skip
  all_goals first
    | (refine hfin _ _ (Fin_ret1 rfl (Sub_nil _) ?_); simp only [List.getD_cons_zero, List.getD_cons_succ, fr_getD_cons, fr_getD_nil, Nat.reduceEqDiff, Nat.reduceLT, ↓reduceIte]
       refine ⟨?_, by trivial⟩
       first
         | (subst hc; simp; done)
         | (have : ¬ f.kerns.length ≤ 64 := by omega
            simp [this]; done))
    | skip
  have h64 : f.kerns.length ≤ 64 := by omega
  generalize nm = mn at *
  refine W_loop_k (fun z τ => ∃ i : Nat, i ≤ f.kerns.length ∧ z = f.kerns.length - i ∧ (f.kerns.take i).all okKern = true ∧ τ = ⟨fr 54 [(30, pn i), (29, pint .i64 f.kerns.length), (28, ksP f.kerns), (1, .ptr mn 0)], [(mn, ⟨27, false, 0, [pint .i64 f.space, pint .i64 f.digit, pint .i64 f.mark, pint .i64 f.bold, ksP f.kerns]⟩)]⟩) f.kerns.length
    ⟨fr 54 [(30, pn 0), (29, pint .i64 f.kerns.length), (28, ksP f.kerns), (1, .ptr mn 0)], [(mn, ⟨27, false, 0, [pint .i64 f.space, pint .i64 f.digit, pint .i64 f.mark, pint .i64 f.bold, ksP f.kerns]⟩)]⟩ (by
    refine Wk_fr (by simp only [wkb, Nat.reduceEqDiff, Nat.reduceLT, ↓reduceIte, pn]) ?_
    exact ⟨by simp, by simp [names]⟩) ⟨0, by omega, by omega, rfl, rfl⟩ ?_
  rintro z τ ⟨i, hi, rfl, hall, rfl⟩ lp hlp
  by_cases hil : i < f.kerns.length
  · obtain ⟨t1, t2, t3⟩ := hf.2.2 f.kerns[i] (List.getElem_mem hil)
    have hget : f.kerns[i]? = some f.kerns[i] := List.getElem?_eq_getElem hil
    have h1 := okK_take hil
    have h2 := okKern_eq f.kerns[i]
    have d1 := within_all G 1 4 [(f.kerns[i].left.length : Int), f.kerns[i].right.length] (by simp)
    have d2 := within_all G 1 1000 [f.kerns[i].by_] (by simp)
    have hno := okK_not hil
    generalize allIn 1 4 [(f.kerns[i].left.length : Int), f.kerns[i].right.length] = e1 at *
    generalize allIn 1 1000 [f.kerns[i].by_] = e2 at *
    have d1 : PCalls Tryd.prog G 40 [.val (.int .i64 1), .val (.int .i64 4), .list 1 [pint .i64 f.kerns[i].left.length, pint .i64 f.kerns[i].right.length]] [] _ := d1
    have d2 : PCalls Tryd.prog G 40 [.val (.int .i64 1), .val (.int .i64 1000), .list 1 [pint .i64 f.kerns[i].by_]] [] _ := d2
    repeat' (first
    | (with_reducible apply W_seq_k; intro nx hnx)
    | (with_reducible first | apply W_block | apply W_scope)
    | (with_reducible refine W_prune 1879048215 ?_; simp only [prb, Nat.reducePow, Nat.reduceDiv, Nat.reduceMod, Nat.reduceBEq]; with_reducible apply W_region_l)
    | (with_reducible refine WL_born (by simp) rfl (by simp) ?_; simp only [elemsOf, nl, List.map_cons, List.map_nil, Nat.reduceEqDiff, ↓reduceIte, List.take_succ_cons, List.take_zero, List.range_succ, List.range_zero, List.nil_append, List.cons_append, List.map_append, List.drop_succ_cons, List.drop_zero, Nat.reduceMul, Nat.zero_mul, Nat.one_mul, Nat.reduceAdd])
    | (with_reducible refine WL_bornH (by simp) (by simp) ?_ ?_ ?_; (· simp [frz, frz1, hnm]); (· simp [frz1, hnm, PV.one, Value.oneCell']); simp only [elemsOf, nl, List.map_cons, List.map_nil, Nat.reduceEqDiff, ↓reduceIte, List.take_succ_cons, List.take_zero, List.range_succ, List.range_zero, List.nil_append, List.cons_append, List.map_append, List.drop_succ_cons, List.drop_zero, Nat.reduceMul, Nat.zero_mul, Nat.one_mul, Nat.reduceAdd])
    | ((first | (with_reducible apply WL_op; intro nx hnx) | with_reducible refine Ev_out ?_ | (with_reducible refine pfresh_k hnm fun nm hnm => ?_; (try simp only [fmb] at hnm)) | (with_reducible refine pborn_im ?_; simp only [elemsOf, nl, List.map_cons, List.map_nil, Nat.reduceEqDiff, ↓reduceIte, List.take_succ_cons, List.take_zero, List.range_succ, List.range_zero, List.nil_append, List.cons_append, List.map_append, List.drop_succ_cons, List.drop_zero, Nat.reduceMul, Nat.zero_mul, Nat.one_mul, Nat.reduceAdd])); try (simp (maxSteps := 2000000) (disch := omega) only [evb, evd, eve, constPV, seqK, blockK, scopeK, pbound, pelems, PV.mem?, PV.one, PV.cells, peqs, peq1, pkeys, pkeyt, List.set, Value.cells, ↓popG_eq, ↓pop.eq_1, ↓List.getElem?_map, ↓List.getElem?_cons_zero, ↓List.getElem?_cons_succ, Value.oneCell', Nat.reduceAdd, Nat.reduceMul, Nat.reduceSub, Nat.reduceLeDiff, Nat.reduceEqDiff, ↓reduceIte, ne_eq, reduceCtorEq, forall_const, exists_and_left, exists_eq_left', eq_self, Nat.reduceLT, Int.reduceLT, Int.reduceLE, Int.reduceToNat, Int.reduceAdd, Int.reduceSub, Int.reduceNeg, hnm, Tryd.tf0, Tryd.tf1, Tryd.tf2, Tryd.tf3, Tryd.tf4, Tryd.tf9, Tryd.tf22, Tryd.tf25, Tryd.tf27, Tryd.tf68, Tryd.tf72, Tryd.call40, Tryd.call41, hget]); repeat (refine And.intro (by omega) ?_))
    | ((with_reducible first | apply WL_nil | apply W_label | apply W_skip | apply W_exit | apply W_ret); try simp only [seqK, blockK, scopeK, ↓reduceIte, Nat.reduceEqDiff])
    | (with_reducible apply pguard_intro <;> (intro hc; (try simp only [hcb, reduceCtorEq, forall_const, ne_eq] at hc); first | (exfalso; omega) | (exfalso; exact hc trivial) | refine Ev_in ?_))
    | (with_reducible apply W_cond_k; intro _ _ ea eb; (simp only [condK, cob, opnd, constPV, Nat.reduceEqDiff, Nat.reduceLT, ↓reduceIte, hcb, reduceCtorEq, forall_const, ne_eq]); subst ea eb; first | (refine ⟨fun hc => ?_, fun hc => ?_⟩ <;> first | (exfalso; omega) | (exfalso; exact hc trivial) | skip) | skip)
    | (with_reducible apply hnx; clear hnx nx)
    | (with_reducible refine And.intro (by omega) ?_)
    | (with_reducible refine And.intro ?_ ?_)
    | (with_reducible refine pcall_k (d1) ?_; rintro _ _ ⟨rfl, rfl⟩ -; refine Ev_in ?_)
    | (with_reducible refine pcall_k (d2) ?_; rintro _ _ ⟨rfl, rfl⟩ -; refine Ev_in ?_)
    | (clear hnx nx; with_reducible apply hnx; clear hnx nx)
    | (clear hnx nx; clear hnx nx; with_reducible apply hnx; clear hnx nx))
    all_goals first | exact absurd trivial hc | contradiction | exact fun h => False.elim h | (exfalso; omega) | (exfalso; have hc := of_decide_eq_false hc; omega) | (exfalso; simp only [Bool.not_false, Bool.not_true, decide_eq_true_eq, decide_eq_false_iff_not] at *; omega) | skip
    all_goals first
      | (refine hfin _ _ (Fin_ret1 rfl (Sub_nil _) ?_); simp only [List.getD_cons_zero, List.getD_cons_succ, fr_getD_cons, fr_getD_nil, Nat.reduceEqDiff, Nat.reduceLT, ↓reduceIte]
         refine ⟨?_, by trivial⟩
         have hk : okKern f.kerns[i] = false := by
           rw [h2]
           subst hc
           simp
         rw [hno hk]
         simp
         done)
      | skip
    refine hlp _ (f.kerns.length - (i + 1)) ⟨fr 54 [(30, pn (i + 1)), (29, pint .i64 f.kerns.length), (28, ksP f.kerns), (1, .ptr mn 0)], [(mn, ⟨27, false, 0, [pint .i64 f.space, pint .i64 f.digit, pint .i64 f.mark, pint .i64 f.bold, ksP f.kerns]⟩)]⟩ (by omega) ?_ ⟨i + 1, by omega, rfl, ?_, rfl⟩
    · refine Wk_fr (by simp only [wkb, Nat.reduceEqDiff, Nat.reduceLT, ↓reduceIte, pn]) ?_
      exact ⟨fun x hx => List.mem_cons_of_mem _ hx, by simp [names]⟩
    · rw [h1, hall, h2]
      subst e1 e2
      rfl
  · have hi2 : i = f.kerns.length := by omega
    subst hi2
    rw [List.take_of_length_le (Nat.le_refl _)] at hall
    repeat' (first
    | (with_reducible apply W_seq_k; intro nx hnx)
    | (with_reducible first | apply W_block | apply W_scope)
    | (with_reducible refine W_prune 1879048215 ?_; simp only [prb, Nat.reducePow, Nat.reduceDiv, Nat.reduceMod, Nat.reduceBEq]; with_reducible apply W_region_l)
    | ((first | (with_reducible apply WL_op; intro nx hnx) | with_reducible refine Ev_out ?_ | (with_reducible refine pfresh_k hnm fun nm hnm => ?_; (try simp only [fmb] at hnm)) | (with_reducible refine pborn_mu hnm fun nm hnm => ?_; (try simp only [fmb] at hnm))); try (simp (maxSteps := 2000000) (disch := omega) only [evb, evd, eve, constPV, seqK, blockK, scopeK, pbound, pelems, PV.mem?, PV.one, PV.cells, peqs, peq1, pkeys, pkeyt, List.set, Value.cells, ↓popG_eq, ↓pop.eq_1, ↓List.getElem?_map, ↓List.getElem?_cons_zero, ↓List.getElem?_cons_succ, Value.oneCell', Nat.reduceAdd, Nat.reduceMul, Nat.reduceSub, Nat.reduceLeDiff, Nat.reduceEqDiff, ↓reduceIte, ne_eq, reduceCtorEq, forall_const, exists_and_left, exists_eq_left', eq_self, Nat.reduceLT, Int.reduceLT, Int.reduceLE, Int.reduceToNat, Int.reduceAdd, Int.reduceSub, Int.reduceNeg, hnm, Tryd.tf0, Tryd.tf1, Tryd.tf2, Tryd.tf3, Tryd.tf4, Tryd.tf9, Tryd.tf22, Tryd.tf25, Tryd.tf27, Tryd.tf68, Tryd.tf72, Tryd.call40, Tryd.call41]); repeat (refine And.intro (by omega) ?_))
    | ((with_reducible first | apply WL_nil | apply W_label | apply W_skip | apply W_exit | apply W_ret); try simp only [seqK, blockK, scopeK, ↓reduceIte, Nat.reduceEqDiff])
    | (with_reducible apply pguard_intro <;> (intro hc; (try simp only [hcb, reduceCtorEq, forall_const, ne_eq] at hc); first | (exfalso; omega) | (exfalso; exact hc trivial) | refine Ev_in ?_))
    | (with_reducible apply W_cond_k; intro _ _ ea eb; (simp only [condK, cob, opnd, constPV, Nat.reduceEqDiff, Nat.reduceLT, ↓reduceIte, hcb, reduceCtorEq, forall_const, ne_eq]); subst ea eb; first | (refine ⟨fun hc => ?_, fun hc => ?_⟩ <;> first | (exfalso; omega) | (exfalso; exact hc trivial) | skip) | skip)
    | (with_reducible apply hnx; clear hnx nx)
    | (with_reducible refine And.intro (by omega) ?_)
    | (with_reducible refine And.intro ?_ ?_)
    | ((with_reducible refine pcall_k c3 ?_; rintro _ _ (⟨hv, n, rfl, rfl⟩ | ⟨hv, rfl, rfl⟩) - <;> refine Ev_in ?_))
    | (clear hnx nx; with_reducible apply hnx; clear hnx nx)
    | (clear hnx nx; clear hnx nx; with_reducible apply hnx; clear hnx nx))
    all_goals first | exact absurd trivial hc | contradiction | exact fun h => False.elim h | (exfalso; omega) | (exfalso; have hc := of_decide_eq_false hc; omega) | (exfalso; simp only [Bool.not_false, Bool.not_true, decide_eq_true_eq, decide_eq_false_iff_not] at *; omega) | skip
    all_goals
      refine hfin _ _ (Fin_ret1 rfl (Sub_nil _) ?_); simp only [List.getD_cons_zero, List.getD_cons_succ, fr_getD_cons, fr_getD_nil, Nat.reduceEqDiff, Nat.reduceLT, ↓reduceIte]
      refine ⟨?_, by trivial⟩
      simp [h64, hall, hv, *]
end Go.PM

namespace Go.PM
open Go.Proofs
attribute [local irreducible] W PCalls pcall pcallI WL
theorem okFont_iff (f : Font) : okFont f = true ↔ (1 ≤ f.space ∧ f.space ≤ 1000) ∧ (1 ≤ f.digit ∧ f.digit ≤ 1000) ∧ (1 ≤ f.mark ∧ f.mark ≤ 1000) ∧ (50 ≤ f.bold ∧ f.bold ≤ 400) ∧ f.kerns.length ≤ 64 ∧ f.kerns.all okKern = true ∧ (pairs f.kerns).Nodup := by
  unfold okFont allIn
  simp only [List.all_cons, List.all_nil, Bool.and_eq_true, decide_eq_true_eq, Bool.and_true]
  constructor
  · rintro ⟨⟨⟨⟨⟨h1, h2, h3⟩, h4⟩, h5⟩, h6⟩, h7⟩
    exact ⟨h1, h2, h3, h4, h5, h6, h7⟩
  · rintro ⟨h1, h2, h3, h4, h5, h6, h7⟩
    exact ⟨⟨⟨⟨⟨h1, h2, h3⟩, h4⟩, h5⟩, h6⟩, h7⟩
theorem okKern_iff (k : Kern) : okKern k = true ↔ (1 ≤ k.left.length ∧ k.left.length ≤ 4) ∧ (1 ≤ k.right.length ∧ k.right.length ≤ 4) ∧ (1 ≤ k.by_ ∧ k.by_ ≤ 1000) := by
  unfold okKern
  simp only [Bool.and_eq_true, decide_eq_true_eq]
  constructor
  · rintro ⟨⟨h1, h2⟩, h3⟩
    exact ⟨h1, h2, h3⟩
  · rintro ⟨h1, h2, h3⟩
    exact ⟨⟨h1, h2⟩, h3⟩
@[reducible] def foC (f : Font) : PObj := ⟨27, false, 0, [pint .i64 f.space, pint .i64 f.digit, pint .i64 f.mark, pint .i64 f.bold, ksP f.kerns]⟩
@[reducible] def keC (k : Kern) : PObj := ⟨68, false, 0, [pstr k.left, pstr k.right, pint .i64 k.by_]⟩
set_option maxRecDepth 100000
set_option maxHeartbeats 8000000
theorem rfvalid_c (G : Globs) (f : Font) (hf : HF f) : PCalls Tryd.prog G 17 [foP f] [] (fun res H => res = pbool (okFont f) ∧ H = []) := by
  have hkl := hf.2.1
  have hbad : ¬ ((1 ≤ f.space ∧ f.space ≤ 1000) ∧ (1 ≤ f.digit ∧ f.digit ≤ 1000) ∧ (1 ≤ f.mark ∧ f.mark ≤ 1000) ∧ (50 ≤ f.bold ∧ f.bold ≤ 400) ∧ f.kerns.length ≤ 64) → okFont f = false := fun h => by
    rw [← Bool.not_eq_true, okFont_iff]
    exact fun k => h ⟨k.1, k.2.1, k.2.2.1, k.2.2.2.1, k.2.2.2.2.1⟩
  (refine PCalls_f Tryd.func17 rfl Tryd.ntmps17 Tryd.results17 (by simp) fun fin hfin => ?_; have hnm : True := trivial; simp (maxSteps := 2000000) (disch := omega) only [evb, evd, eve, constPV, seqK, blockK, scopeK, pbound, pelems, PV.mem?, PV.one, PV.cells, peqs, peq1, pkeys, pkeyt, List.set, Value.cells, ↓popG_eq, ↓pop.eq_1, ↓List.getElem?_map, ↓List.getElem?_cons_zero, ↓List.getElem?_cons_succ, Value.oneCell', Nat.reduceAdd, Nat.reduceMul, Nat.reduceSub, Nat.reduceLeDiff, Nat.reduceEqDiff, ↓reduceIte, ne_eq, reduceCtorEq, forall_const, exists_and_left, exists_eq_left', eq_self, Nat.reduceLT, Int.reduceLT, Int.reduceLE, Int.reduceToNat, Int.reduceAdd, Int.reduceSub, Int.reduceNeg, hnm, Tryd.tf0, Tryd.tf1, Tryd.tf2, Tryd.tf3, Tryd.tf4, Tryd.tf9, Tryd.tf25, Tryd.tf27, Tryd.tf68])
  repeat' (first
    | (with_reducible apply W_seq_k; intro nx hnx)
    | (with_reducible first | apply W_block | apply W_scope)
    | (with_reducible refine W_prune 63 ?_; simp only [prb, Nat.reducePow, Nat.reduceDiv, Nat.reduceMod, Nat.reduceBEq]; first | (with_reducible apply W_region_l) | with_reducible refine W_region_draw (id := 12) 1 (.op 0 true (.op 1 true (.op 2 true (.op 3 true (.op 4 true (.op 5 true (.op 6 true (.op 7 true (.op 8 true (.op 9 true (.op 10 true (.op 11 true (.op 12 true (.op 13 true (.op 14 true (.op 15 true (.op 16 true (.op 17 true (.op 18 true (.op 19 true (.done))))))))))))))))))))) (by kernel_rfl) ?_)
    | ((first | (with_reducible apply WL_op; intro nx hnx) | with_reducible refine Ev_out ?_ | (with_reducible apply popsD_op; intro nx hnx) | (with_reducible refine popsD_alt ?_ ?_; intro nx hnx) | (with_reducible refine pfresh_k hnm fun nm hnm => ?_; (try simp only [fmb] at hnm)) | (with_reducible refine pborn_mu hnm fun nm hnm => ?_; (try simp only [fmb] at hnm))); try (simp (maxSteps := 2000000) (disch := omega) only [evb, evd, eve, constPV, seqK, blockK, scopeK, pbound, pelems, PV.mem?, PV.one, PV.cells, peqs, peq1, pkeys, pkeyt, List.set, Value.cells, ↓popG_eq, ↓pop.eq_1, ↓List.getElem?_map, ↓List.getElem?_cons_zero, ↓List.getElem?_cons_succ, Value.oneCell', Nat.reduceAdd, Nat.reduceMul, Nat.reduceSub, Nat.reduceLeDiff, Nat.reduceEqDiff, ↓reduceIte, ne_eq, reduceCtorEq, forall_const, exists_and_left, exists_eq_left', eq_self, Nat.reduceLT, Int.reduceLT, Int.reduceLE, Int.reduceToNat, Int.reduceAdd, Int.reduceSub, Int.reduceNeg, hnm, Tryd.tf0, Tryd.tf1, Tryd.tf2, Tryd.tf3, Tryd.tf4, Tryd.tf9, Tryd.tf25, Tryd.tf27, Tryd.tf68]); repeat (refine And.intro (by omega) ?_))
    | ((with_reducible first | apply WL_nil | apply W_label | apply W_skip | apply W_exit | apply W_ret | apply popsD_done); try simp only [seqK, blockK, scopeK, ↓reduceIte, Nat.reduceEqDiff])
    | with_reducible exact popsD_stop
    | (with_reducible apply pguard_intro <;> (intro hc; (try simp only [hcb, reduceCtorEq, forall_const, ne_eq] at hc); first | (exfalso; omega) | (exfalso; exact hc trivial) | refine Ev_in ?_))
    | (with_reducible apply W_cond_k; intro _ _ ea eb; (simp only [condK, cob, opnd, constPV, Nat.reduceEqDiff, Nat.reduceLT, ↓reduceIte, hcb, reduceCtorEq, forall_const, ne_eq]); subst ea eb; first | (refine ⟨fun hc => ?_, fun hc => ?_⟩ <;> first | (exfalso; omega) | (exfalso; exact hc trivial) | skip) | skip)
    | (with_reducible apply hnx; clear hnx nx)
    | (with_reducible refine And.intro (by omega) ?_)
    | (with_reducible refine And.intro ?_ ?_)
    | (clear hnx nx; with_reducible apply hnx; clear hnx nx)
    | (clear hnx nx; clear hnx nx; with_reducible apply hnx; clear hnx nx))
  all_goals first | exact absurd trivial hc | contradiction | exact fun h => False.elim h | (exfalso; omega) | (exfalso; have hc := of_decide_eq_false hc; omega) | (exfalso; simp only [Bool.not_false, Bool.not_true, decide_eq_true_eq, decide_eq_false_iff_not] at *; omega) | skip
  all_goals first
    | (refine hfin _ _ (Fin_ret1 rfl (Sub_nil _) ?_); simp only [List.getD_cons_zero, List.getD_cons_succ, fr_getD_cons, fr_getD_nil, Nat.reduceEqDiff, Nat.reduceLT, ↓reduceIte]
       rw [hbad (by omega)]
       exact ⟨rfl, by trivial⟩)
    | skip
  generalize nm = mn at *
  refine W_loop_k (fun z τ => ∃ i : Nat, i ≤ f.kerns.length ∧ z = f.kerns.length - i ∧ (f.kerns.take i).all okKern = true ∧ (pairs (f.kerns.take i)).Nodup ∧ τ = ⟨fr 119 [(3, pn i), (1, .ptr mn 0)], [(mn, foC f)]⟩) f.kerns.length
    ⟨fr 119 [(3, pn 0), (1, .ptr mn 0)], [(mn, foC f)]⟩ (by
    refine Wk_fr (by simp only [wkb, Nat.reduceEqDiff, Nat.reduceLT, ↓reduceIte, pn]) ?_
    exact ⟨by simp, by simp [names]⟩) ⟨0, by omega, by omega, rfl, by simp [pairs], rfl⟩ ?_
  rintro z τ ⟨i, hi, rfl, hall, hnd, rfl⟩ lp hlp
  by_cases hil : i < f.kerns.length
  · obtain ⟨t1, t2, t3⟩ := hf.2.2 f.kerns[i] (List.getElem_mem hil)
    have hget : f.kerns[i]? = some f.kerns[i] := List.getElem?_eq_getElem hil
    have h1 := okK_take hil
    have hno := okK_not hil
    have hno2 : ¬ ((1 ≤ f.kerns[i].left.length ∧ f.kerns[i].left.length ≤ 4) ∧ (1 ≤ f.kerns[i].right.length ∧ f.kerns[i].right.length ≤ 4) ∧ (1 ≤ f.kerns[i].by_ ∧ f.kerns[i].by_ ≤ 1000)) → okFont f = false := fun h => by
      rw [← Bool.not_eq_true, okFont_iff]
      intro k
      have := hno (by rw [← Bool.not_eq_true, okKern_iff]; exact h)
      rw [this] at k
      exact Bool.noConfusion k.2.2.2.2.2.1
    repeat' (first
    | (with_reducible apply W_seq_k; intro nx hnx)
    | (with_reducible first | apply W_block | apply W_scope)
    | (with_reducible refine W_prune 63 ?_; simp only [prb, Nat.reducePow, Nat.reduceDiv, Nat.reduceMod, Nat.reduceBEq]; first | (with_reducible apply W_region_l) | with_reducible refine W_region_draw (id := 12) 1 (.op 0 true (.op 1 true (.op 2 true (.op 3 true (.op 4 true (.op 5 true (.op 6 true (.op 7 true (.op 8 true (.op 9 true (.op 10 true (.op 11 true (.op 12 true (.op 13 true (.op 14 true (.op 15 true (.op 16 true (.op 17 true (.op 18 true (.op 19 true (.done))))))))))))))))))))) (by kernel_rfl) ?_)
    | ((first | (with_reducible apply WL_op; intro nx hnx) | with_reducible refine Ev_out ?_ | (with_reducible apply popsD_op; intro nx hnx) | (with_reducible refine popsD_alt ?_ ?_; intro nx hnx) | (with_reducible refine pfresh_k hnm fun nm hnm => ?_; (try simp only [fmb] at hnm)) | (with_reducible refine pborn_mu hnm fun nm hnm => ?_; (try simp only [fmb] at hnm))); try (simp (maxSteps := 2000000) (disch := omega) only [evb, evd, eve, constPV, seqK, blockK, scopeK, pbound, pelems, PV.mem?, PV.one, PV.cells, peqs, peq1, pkeys, pkeyt, List.set, Value.cells, ↓popG_eq, ↓pop.eq_1, ↓List.getElem?_map, ↓List.getElem?_cons_zero, ↓List.getElem?_cons_succ, Value.oneCell', Nat.reduceAdd, Nat.reduceMul, Nat.reduceSub, Nat.reduceLeDiff, Nat.reduceEqDiff, ↓reduceIte, ne_eq, reduceCtorEq, forall_const, exists_and_left, exists_eq_left', eq_self, Nat.reduceLT, Int.reduceLT, Int.reduceLE, Int.reduceToNat, Int.reduceAdd, Int.reduceSub, Int.reduceNeg, hnm, Tryd.tf0, Tryd.tf1, Tryd.tf2, Tryd.tf3, Tryd.tf4, Tryd.tf9, Tryd.tf25, Tryd.tf27, Tryd.tf68, hget]); repeat (refine And.intro (by omega) ?_))
    | ((with_reducible first | apply WL_nil | apply W_label | apply W_skip | apply W_exit | apply W_ret | apply popsD_done); try simp only [seqK, blockK, scopeK, ↓reduceIte, Nat.reduceEqDiff])
    | with_reducible exact popsD_stop
    | (with_reducible apply pguard_intro <;> (intro hc; (try simp only [hcb, reduceCtorEq, forall_const, ne_eq] at hc); first | (exfalso; omega) | (exfalso; exact hc trivial) | refine Ev_in ?_))
    | (with_reducible apply W_cond_k; intro _ _ ea eb; (simp only [condK, cob, opnd, constPV, Nat.reduceEqDiff, Nat.reduceLT, ↓reduceIte, hcb, reduceCtorEq, forall_const, ne_eq]); subst ea eb; first | (refine ⟨fun hc => ?_, fun hc => ?_⟩ <;> first | (exfalso; omega) | (exfalso; exact hc trivial) | skip) | skip)
    | (with_reducible apply hnx; clear hnx nx)
    | (with_reducible refine And.intro (by omega) ?_)
    | (with_reducible refine And.intro ?_ ?_)
    | (clear hnx nx; with_reducible apply hnx; clear hnx nx)
    | (clear hnx nx; clear hnx nx; with_reducible apply hnx; clear hnx nx))
    all_goals first | exact absurd trivial hc | contradiction | exact fun h => False.elim h | (exfalso; omega) | (exfalso; have hc := of_decide_eq_false hc; omega) | (exfalso; simp only [Bool.not_false, Bool.not_true, decide_eq_true_eq, decide_eq_false_iff_not] at *; omega) | skip
    all_goals first
      | (refine hfin _ _ (Fin_ret1 rfl (Sub_nil _) ?_); simp only [List.getD_cons_zero, List.getD_cons_succ, fr_getD_cons, fr_getD_nil, Nat.reduceEqDiff, Nat.reduceLT, ↓reduceIte]
         rw [hno2 (by omega)]
         exact ⟨rfl, by trivial⟩)
      | skip
    generalize nm = kn at *
    refine W_loop_k (fun z τ => ∃ n : Nat, n ≤ i ∧ z = i - n ∧ (f.kerns[i].left, f.kerns[i].right) ∉ pairs (f.kerns.take n) ∧ τ = ⟨fr 119 [(5, pn n), (4, .ptr kn 0), (3, pn i), (1, .ptr mn 0)], [(kn, keC f.kerns[i]), (mn, foC f)]⟩) i
      ⟨fr 119 [(5, pn 0), (4, .ptr kn 0), (3, pn i), (1, .ptr mn 0)], [(kn, keC f.kerns[i]), (mn, foC f)]⟩ (by
      refine Wk_fr (by simp only [wkb, Nat.reduceEqDiff, Nat.reduceLT, ↓reduceIte, pn]) ?_
      exact ⟨by simp, by simp [names, hnm]⟩) ⟨0, by omega, by omega, by simp [pairs], rfl⟩ ?_
    rintro z τ ⟨n, hn, rfl, hnot, rfl⟩ lp2 hlp2
    by_cases hni : n < i
    · have hget2 : f.kerns[n]? = some f.kerns[n] := List.getElem?_eq_getElem (by omega)
      have h2 := pairs_take (ks := f.kerns) (i := n) (by omega)
      have hnodup : (f.kerns[n].left, f.kerns[n].right) = (f.kerns[i].left, f.kerns[i].right) → okFont f = false := fun e => by
        rw [← Bool.not_eq_true, okFont_iff]
        intro k
        refine pairs_bad hil ?_ k.2.2.2.2.2.2
        rw [← e]
        have : (f.kerns[n].left, f.kerns[n].right) ∈ pairs (f.kerns.take (n + 1)) := by
          rw [h2]
          simp
        exact List.mem_of_mem_take (i := n + 1) (by
          rw [pairs, ← List.map_take, List.take_take, Nat.min_eq_left (by omega)]
          exact this)
      repeat' (first
    | (with_reducible apply W_seq_k; intro nx hnx)
    | (with_reducible first | apply W_block | apply W_scope)
    | (with_reducible refine W_prune 63 ?_; simp only [prb, Nat.reducePow, Nat.reduceDiv, Nat.reduceMod, Nat.reduceBEq]; first | (with_reducible apply W_region_l) | with_reducible refine W_region_draw (id := 12) 1 (.op 0 true (.op 1 true (.op 2 true (.op 3 true (.op 4 true (.op 5 true (.op 6 true (.op 7 true (.op 8 true (.op 9 true (.op 10 true (.op 11 true (.op 12 true (.op 13 true (.op 14 true (.op 15 true (.op 16 true (.op 17 true (.op 18 true (.op 19 true (.done))))))))))))))))))))) (by kernel_rfl) ?_)
    | ((first | (with_reducible apply WL_op; intro nx hnx) | with_reducible refine Ev_out ?_ | (with_reducible apply popsD_op; intro nx hnx) | (with_reducible refine popsD_alt ?_ ?_; intro nx hnx) | (with_reducible refine pfresh_k hnm fun nm hnm => ?_; (try simp only [fmb] at hnm)) | (with_reducible refine pborn_mu hnm fun nm hnm => ?_; (try simp only [fmb] at hnm))); try (simp (maxSteps := 2000000) (disch := omega) only [evb, evd, eve, constPV, seqK, blockK, scopeK, pbound, pelems, PV.mem?, PV.one, PV.cells, peqs, peq1, pkeys, pkeyt, List.set, Value.cells, ↓popG_eq, ↓pop.eq_1, ↓List.getElem?_map, ↓List.getElem?_cons_zero, ↓List.getElem?_cons_succ, Value.oneCell', Nat.reduceAdd, Nat.reduceMul, Nat.reduceSub, Nat.reduceLeDiff, Nat.reduceEqDiff, ↓reduceIte, ne_eq, reduceCtorEq, forall_const, exists_and_left, exists_eq_left', eq_self, Nat.reduceLT, Int.reduceLT, Int.reduceLE, Int.reduceToNat, Int.reduceAdd, Int.reduceSub, Int.reduceNeg, hnm, Tryd.tf0, Tryd.tf1, Tryd.tf2, Tryd.tf3, Tryd.tf4, Tryd.tf9, Tryd.tf25, Tryd.tf27, Tryd.tf68, hget2]); repeat (refine And.intro (by omega) ?_))
    | ((with_reducible first | apply WL_nil | apply W_label | apply W_skip | apply W_exit | apply W_ret | apply popsD_done); try simp only [seqK, blockK, scopeK, ↓reduceIte, Nat.reduceEqDiff])
    | with_reducible exact popsD_stop
    | (with_reducible apply pguard_intro <;> (intro hc; (try simp only [hcb, reduceCtorEq, forall_const, ne_eq] at hc); first | (exfalso; omega) | (exfalso; exact hc trivial) | refine Ev_in ?_))
    | (with_reducible apply W_cond_k; intro _ _ ea eb; (simp only [condK, cob, opnd, constPV, Nat.reduceEqDiff, Nat.reduceLT, ↓reduceIte, hcb, reduceCtorEq, forall_const, ne_eq]); subst ea eb; first | (refine ⟨fun hc => ?_, fun hc => ?_⟩ <;> first | (exfalso; omega) | (exfalso; exact hc trivial) | skip) | skip)
    | (with_reducible apply hnx; clear hnx nx)
    | (with_reducible refine And.intro (by omega) ?_)
    | (with_reducible refine And.intro ?_ ?_)
    | (clear hnx nx; with_reducible apply hnx; clear hnx nx)
    | (clear hnx nx; clear hnx nx; with_reducible apply hnx; clear hnx nx))
      all_goals first | exact absurd trivial hc | contradiction | exact fun h => False.elim h | (exfalso; omega) | (exfalso; have hc := of_decide_eq_false hc; omega) | (exfalso; simp only [Bool.not_false, Bool.not_true, decide_eq_true_eq, decide_eq_false_iff_not] at *; omega) | skip
      all_goals first
        | (refine hfin _ _ (Fin_ret1 rfl (Sub_nil _) ?_); simp only [List.getD_cons_zero, List.getD_cons_succ, fr_getD_cons, fr_getD_nil, Nat.reduceEqDiff, Nat.reduceLT, ↓reduceIte]
           rw [hnodup (by simp_all)]
           exact ⟨rfl, by trivial⟩)
        | skip
      all_goals
        refine hlp2 _ (i - (n + 1)) ⟨fr 119 [(5, pn (n + 1)), (4, .ptr kn 0), (3, pn i), (1, .ptr mn 0)], [(kn, keC f.kerns[i]), (mn, foC f)]⟩ (by omega) ?_ ⟨n + 1, by omega, rfl, ?_, rfl⟩
        · refine Wk_fr (by simp only [wkb, Nat.reduceEqDiff, Nat.reduceLT, ↓reduceIte, pn]) ?_
          exact ⟨by simp, by simp [names, hnm]⟩
        · rw [h2]
          intro h
          rcases List.mem_append.1 h with h | h
          · exact hnot h
          · simp_all
    · repeat' (first
    | (with_reducible apply W_seq_k; intro nx hnx)
    | (with_reducible first | apply W_block | apply W_scope)
    | (with_reducible refine W_prune 63 ?_; simp only [prb, Nat.reducePow, Nat.reduceDiv, Nat.reduceMod, Nat.reduceBEq]; first | (with_reducible apply W_region_l) | with_reducible refine W_region_draw (id := 12) 1 (.op 0 true (.op 1 true (.op 2 true (.op 3 true (.op 4 true (.op 5 true (.op 6 true (.op 7 true (.op 8 true (.op 9 true (.op 10 true (.op 11 true (.op 12 true (.op 13 true (.op 14 true (.op 15 true (.op 16 true (.op 17 true (.op 18 true (.op 19 true (.done))))))))))))))))))))) (by kernel_rfl) ?_)
    | ((first | (with_reducible apply WL_op; intro nx hnx) | with_reducible refine Ev_out ?_ | (with_reducible apply popsD_op; intro nx hnx) | (with_reducible refine popsD_alt ?_ ?_; intro nx hnx) | (with_reducible refine pfresh_k hnm fun nm hnm => ?_; (try simp only [fmb] at hnm)) | (with_reducible refine pborn_mu hnm fun nm hnm => ?_; (try simp only [fmb] at hnm))); try (simp (maxSteps := 2000000) (disch := omega) only [evb, evd, eve, constPV, seqK, blockK, scopeK, pbound, pelems, PV.mem?, PV.one, PV.cells, peqs, peq1, pkeys, pkeyt, List.set, Value.cells, ↓popG_eq, ↓pop.eq_1, ↓List.getElem?_map, ↓List.getElem?_cons_zero, ↓List.getElem?_cons_succ, Value.oneCell', Nat.reduceAdd, Nat.reduceMul, Nat.reduceSub, Nat.reduceLeDiff, Nat.reduceEqDiff, ↓reduceIte, ne_eq, reduceCtorEq, forall_const, exists_and_left, exists_eq_left', eq_self, Nat.reduceLT, Int.reduceLT, Int.reduceLE, Int.reduceToNat, Int.reduceAdd, Int.reduceSub, Int.reduceNeg, hnm, Tryd.tf0, Tryd.tf1, Tryd.tf2, Tryd.tf3, Tryd.tf4, Tryd.tf9, Tryd.tf25, Tryd.tf27, Tryd.tf68]); repeat (refine And.intro (by omega) ?_))
    | ((with_reducible first | apply WL_nil | apply W_label | apply W_skip | apply W_exit | apply W_ret | apply popsD_done); try simp only [seqK, blockK, scopeK, ↓reduceIte, Nat.reduceEqDiff])
    | with_reducible exact popsD_stop
    | (with_reducible apply pguard_intro <;> (intro hc; (try simp only [hcb, reduceCtorEq, forall_const, ne_eq] at hc); first | (exfalso; omega) | (exfalso; exact hc trivial) | refine Ev_in ?_))
    | (with_reducible apply W_cond_k; intro _ _ ea eb; (simp only [condK, cob, opnd, constPV, Nat.reduceEqDiff, Nat.reduceLT, ↓reduceIte, hcb, reduceCtorEq, forall_const, ne_eq]); subst ea eb; first | (refine ⟨fun hc => ?_, fun hc => ?_⟩ <;> first | (exfalso; omega) | (exfalso; exact hc trivial) | skip) | skip)
    | (with_reducible apply hnx; clear hnx nx)
    | (with_reducible refine And.intro (by omega) ?_)
    | (with_reducible refine And.intro ?_ ?_)
    | (clear hnx nx; with_reducible apply hnx; clear hnx nx)
    | (clear hnx nx; clear hnx nx; with_reducible apply hnx; clear hnx nx))
      all_goals first | exact absurd trivial hc | contradiction | exact fun h => False.elim h | (exfalso; omega) | (exfalso; have hc := of_decide_eq_false hc; omega) | (exfalso; simp only [Bool.not_false, Bool.not_true, decide_eq_true_eq, decide_eq_false_iff_not] at *; omega) | skip
      all_goals
        refine hlp _ (f.kerns.length - (i + 1)) ⟨fr 119 [(3, pn (i + 1)), (1, .ptr mn 0)], [(mn, foC f)]⟩ (by omega) ?_ ⟨i + 1, by omega, rfl, ?_, ?_, rfl⟩
        · refine Wk_fr (by simp only [wkb, Nat.reduceEqDiff, Nat.reduceLT, ↓reduceIte, pn]) ?_
          exact ⟨by simp, by simp [names, hnm]⟩
        · rw [h1, hall, (okKern_iff _).2 ⟨by omega, by omega, by omega⟩]
          rfl
        · rw [pairs_take hil]
          refine List.nodup_append.2 ⟨hnd, by simp, fun x hx y hy => ?_⟩
          simp only [List.mem_singleton] at hy
          subst hy
          have hin : n = i := by omega
          subst hin
          exact fun e => hnot (e ▸ hx)
  · repeat' (first
    | (with_reducible apply W_seq_k; intro nx hnx)
    | (with_reducible first | apply W_block | apply W_scope)
    | (with_reducible refine W_prune 63 ?_; simp only [prb, Nat.reducePow, Nat.reduceDiv, Nat.reduceMod, Nat.reduceBEq]; first | (with_reducible apply W_region_l) | with_reducible refine W_region_draw (id := 12) 1 (.op 0 true (.op 1 true (.op 2 true (.op 3 true (.op 4 true (.op 5 true (.op 6 true (.op 7 true (.op 8 true (.op 9 true (.op 10 true (.op 11 true (.op 12 true (.op 13 true (.op 14 true (.op 15 true (.op 16 true (.op 17 true (.op 18 true (.op 19 true (.done))))))))))))))))))))) (by kernel_rfl) ?_)
    | ((first | (with_reducible apply WL_op; intro nx hnx) | with_reducible refine Ev_out ?_ | (with_reducible apply popsD_op; intro nx hnx) | (with_reducible refine popsD_alt ?_ ?_; intro nx hnx) | (with_reducible refine pfresh_k hnm fun nm hnm => ?_; (try simp only [fmb] at hnm)) | (with_reducible refine pborn_mu hnm fun nm hnm => ?_; (try simp only [fmb] at hnm))); try (simp (maxSteps := 2000000) (disch := omega) only [evb, evd, eve, constPV, seqK, blockK, scopeK, pbound, pelems, PV.mem?, PV.one, PV.cells, peqs, peq1, pkeys, pkeyt, List.set, Value.cells, ↓popG_eq, ↓pop.eq_1, ↓List.getElem?_map, ↓List.getElem?_cons_zero, ↓List.getElem?_cons_succ, Value.oneCell', Nat.reduceAdd, Nat.reduceMul, Nat.reduceSub, Nat.reduceLeDiff, Nat.reduceEqDiff, ↓reduceIte, ne_eq, reduceCtorEq, forall_const, exists_and_left, exists_eq_left', eq_self, Nat.reduceLT, Int.reduceLT, Int.reduceLE, Int.reduceToNat, Int.reduceAdd, Int.reduceSub, Int.reduceNeg, hnm, Tryd.tf0, Tryd.tf1, Tryd.tf2, Tryd.tf3, Tryd.tf4, Tryd.tf9, Tryd.tf25, Tryd.tf27, Tryd.tf68]); repeat (refine And.intro (by omega) ?_))
    | ((with_reducible first | apply WL_nil | apply W_label | apply W_skip | apply W_exit | apply W_ret | apply popsD_done); try simp only [seqK, blockK, scopeK, ↓reduceIte, Nat.reduceEqDiff])
    | with_reducible exact popsD_stop
    | (with_reducible apply pguard_intro <;> (intro hc; (try simp only [hcb, reduceCtorEq, forall_const, ne_eq] at hc); first | (exfalso; omega) | (exfalso; exact hc trivial) | refine Ev_in ?_))
    | (with_reducible apply W_cond_k; intro _ _ ea eb; (simp only [condK, cob, opnd, constPV, Nat.reduceEqDiff, Nat.reduceLT, ↓reduceIte, hcb, reduceCtorEq, forall_const, ne_eq]); subst ea eb; first | (refine ⟨fun hc => ?_, fun hc => ?_⟩ <;> first | (exfalso; omega) | (exfalso; exact hc trivial) | skip) | skip)
    | (with_reducible apply hnx; clear hnx nx)
    | (with_reducible refine And.intro (by omega) ?_)
    | (with_reducible refine And.intro ?_ ?_)
    | (clear hnx nx; with_reducible apply hnx; clear hnx nx)
    | (clear hnx nx; clear hnx nx; with_reducible apply hnx; clear hnx nx))
    all_goals first | exact absurd trivial hc | contradiction | exact fun h => False.elim h | (exfalso; omega) | (exfalso; have hc := of_decide_eq_false hc; omega) | (exfalso; simp only [Bool.not_false, Bool.not_true, decide_eq_true_eq, decide_eq_false_iff_not] at *; omega) | skip
    all_goals
      have hi2 : i = f.kerns.length := by omega
      subst hi2
      rw [List.take_of_length_le (Nat.le_refl _)] at hall hnd
      refine hfin _ _ (Fin_ret1 rfl (Sub_nil _) ?_); simp only [List.getD_cons_zero, List.getD_cons_succ, fr_getD_cons, fr_getD_nil, Nat.reduceEqDiff, Nat.reduceLT, ↓reduceIte]
      refine ⟨?_, by trivial⟩
      rw [(okFont_iff f).2 ⟨by omega, by omega, by omega, by omega, by omega, hall, hnd⟩]
end Go.PM

namespace Go.PM
open Go.RowKit
section
variable {P : Program} {G : Globs} {E : Amb} {A : Nat → Prop} {σ τ : PState} {a : Act} {w : World} {I : List Int} {c x y : Code} {K : Exit → PState → Prop}
/-- Among the operations is none that defers a call. -/
def noDefer (l : List Oper) : Bool := l.all fun o => match o.op with
  | .defer _ => false
  | _ => true
theorem noDefer_mem {l : List Oper} (h : noDefer l = true) {o : Oper} (ho : o ∈ l) : ∀ c, o.op ≠ .defer c := by
  intro c e
  have := List.all_eq_true.1 h o ho
  rw [e] at this
  cases this
/-- The fence of a round. -/
@[reducible] def RF (r : Nat) : Fence := Fence.wide.inRound r
theorem RF_depth (r : Nat) : (RF r).depth.isSome = true → 1 ≤ 0 := fun h => by cases h
theorem wpIn_of_wp {o : Oper} {next next' : Act → World → Prop} {Q : Exit → Act → World → Prop} (r : Nat) (hd : ∀ c, o.op ≠ .defer c) (hn : ∀ a w, next a w → next' a w) (h : o.wp P a w next Q) : o.wpIn (RF r) 0 P a w next' Q := by
  refine ⟨fun _ _ => trivial, ?_⟩
  rw [Fence.inRound_round, Oper.semAt_some r a.eval o hd]
  unfold Oper.wp at h
  generalize (execOp a.eval o).run P w = res at *
  cases res with
  | ok x w' =>
    cases x <;> simp only [Oper.upon, Oper.uponIn] at h ⊢
    all_goals first
      | exact hn _ _ h
      | exact h.elim
      | skip
    · refine ⟨RF_depth r, ?_⟩
      have h2 := (callsIn_wide (n := 0 - 1)).2 h
      refine CallsIn.mono (CallsIn.inRound r h2) ?_
      intro e w'' he
      cases e with
      | returned v => exact hn _ _ he
      | panicked ch => exact he
      | outgrown => exact he
    · refine ⟨RF_depth r, fun c cs _ => ?_⟩
      obtain ⟨v, w2, hv, hs⟩ := h c cs
      exact ⟨v, w2, hn _ _ hv, stepsIn_wide.2 hs⟩
  | halt x w' => cases x <;> simp only [Oper.upon, Oper.uponIn] at h ⊢ <;> exact h
theorem wpListIn_of {ops : Array Oper} {Q : Exit → Act → World → Prop} (r : Nat) (hQ : ¬ LetsOut Q) : ∀ (l : List Oper) (a : Act) (w : World), noDefer l = true → wpList P ops Q l a w → wpListIn (RF r) 0 P ops Q l a w
  | [], _, _, _, h => h
  | o :: rest, a, w, hd, h => by
    have hd1 := noDefer_mem hd (o := o) (by simp)
    have hd2 : noDefer rest = true := by
      rw [noDefer, List.all_cons, Bool.and_eq_true] at hd
      exact hd.2
    simp only [wpList] at h
    simp only [wpListIn]
    split
    · rename_i hw
      rw [if_pos hw] at h
      rcases h with h | ⟨_, h⟩
      · exact wpIn_of_wp r hd1 (fun a w h => wpListIn_of r hQ rest a w hd2 h) h
      · exact absurd h hQ
    · rename_i hw
      rw [if_neg hw] at h
      exact ⟨fun _ _ => trivial, wpListIn_of r hQ rest _ _ hd2 h⟩
theorem wpAnyIn_of {ops : Array Oper} {Q : Exit → Act → World → Prop} {md : Region.Mode} (r : Nat) (hQ : ¬ LetsOut Q) (hd : noDefer ops.toList = true) : ∀ (f : Nat) (listed : Array Bool) (a : Act) (w : World), wpAny P md ops Q f listed a w → wpAnyIn (RF r) 0 P md ops Q f listed a w
  | 0, _, _, _, h => h
  | f + 1, listed, a, w, h => by
    refine ⟨h.1, fun i hi => ?_⟩
    have h2 := h.2 i hi
    unfold wpOp at h2
    unfold wpOpIn
    split
    · rename_i ho
      rw [ho] at h2
      exact wpAnyIn_of r hQ hd f _ _ _ h2
    · rename_i o ho
      rw [ho] at h2
      simp only at h2
      split
      · rename_i hw
        rw [if_pos hw] at h2
        rcases h2 with h2 | ⟨_, h2⟩
        · exact wpIn_of_wp r (noDefer_mem hd (by
            have : ops.toList[i]? = some o := by simpa using ho
            exact List.mem_of_getElem? this)) (fun a w h => wpAnyIn_of r hQ hd f _ a w h) h2
        · exact absurd h2 hQ
      · rename_i hw
        rw [if_neg hw] at h2
        exact ⟨fun _ _ => trivial, wpAnyIn_of r hQ hd f _ _ _ h2⟩
/-- The judgement in a round's frame. -/
def WR (r : Nat) (P : Program) (G : Globs) (I : List Int) (c : Code) (σ : PState) (K : Exit → PState → Prop) : Prop :=
  ∀ E, E.I = I → ∀ A a w, Sim G E A σ a w → ∀ Q : Exit → Act → World → Prop, (∀ e σ' a' w' A', K e σ' → Sim G E A' σ' a' w' → Q e a' w') → c.wpIn (RF r) 0 P Q a w
variable {r : Nat}
theorem WR_seq (h : WR r P G I x σ (seqK (fun σ' => WR r P G I y σ' K) K)) : WR r P G I (.seq x y) σ K := by
  intro E hE A a w hs Q hq
  refine wpIn_seq (h E hE A a w hs _ ?_)
  intro e σ' a' w' A' hk hs'
  cases e with
  | normal => exact hk E hE A' a' w' hs' Q hq
  | _ => exact hq _ _ _ _ _ hk hs'
theorem WR_skip (h : K .normal σ) : WR r P G I .skip σ K := fun _ _ _ _ _ hs _ hq => wpIn_skip (hq _ _ _ _ _ h hs)
theorem WR_label {l : Nat} (h : K .normal σ) : WR r P G I (.label l) σ K := fun _ _ _ _ _ hs _ hq => wpIn_label (hq _ _ _ _ _ h hs)
theorem WR_exit {id : Nat} (h : K (.exit id) σ) : WR r P G I (.exit id) σ K := fun _ _ _ _ _ hs _ hq => wpIn_exit (hq _ _ _ _ _ h hs)
theorem WR_ret (h : K .ret σ) : WR r P G I .ret σ K := fun _ _ _ _ _ hs _ hq => wpIn_ret (hq _ _ _ _ _ h hs)
theorem WR_block {id : Nat} (h : WR r P G I c σ (blockK id K)) : WR r P G I (.block id c) σ K := by
  intro E hE A a w hs Q hq
  refine wpIn_block (h E hE A a w hs _ ?_)
  intro e σ' a' w' A' hk hs'
  cases e with
  | exit i =>
    simp only [blockK] at hk
    simp only [Exit.inBlock]
    split
    · rename_i hi; rw [if_pos hi] at hk; exact hq _ _ _ _ _ hk hs'
    · rename_i hi; rw [if_neg hi] at hk; exact hq _ _ _ _ _ hk hs'
  | _ => exact hq _ _ _ _ _ hk hs'
theorem WR_cond {o : Operand} {t : Bool} (ho : opnd G σ.frame o = .val (.bool t)) (ht : t = true → WR r P G I x σ K) (hf : t = false → WR r P G I y σ K) : WR r P G I (.cond o x y) σ K := by
  intro E hE A a w hs Q hq
  have hr := hs.opnd o
  rw [ho] at hr
  exact wpIn_cond_split hr.val_eq (fun h => ht h E hE A a w hs Q hq) (fun h => hf h E hE A a w hs Q hq)
theorem WR_seq_k (h : ∀ next : PState → Prop, (∀ σ', WR r P G I y σ' K → next σ') → WR r P G I x σ (seqK next K)) : WR r P G I (.seq x y) σ K :=
  WR_seq (h _ fun _ h => h)
theorem WR_cond_k {o : Operand} (h : ∀ a b : Prop, (a = WR r P G I x σ K) → (b = WR r P G I y σ K) → condK (opnd G σ.frame o) a b) : WR r P G I (.cond o x y) σ K := by
  have h' := h _ _ rfl rfl
  unfold condK at h'
  split at h'
  · rename_i t ht
    exact WR_cond ht h'.1 h'.2
  · exact h'.elim
theorem not_lets {K : PState → Prop} : ¬ LetsOut (fun e a w => e = Exit.normal ∧ ∃ σ' A', K σ' ∧ Sim G E A' σ' a w) := by
  rintro ⟨a, w, h, _⟩
  cases h
theorem WR_region_l {id : Nat} {l : List Oper} (hd : noDefer l = true) (h : WL P G I l l σ (K .normal)) : WR r P G I (.region id l.toArray false) σ K := by
  intro E hE A a w hs Q hq
  refine wpIn_mono (Q := fun e a w => e = Exit.normal ∧ ∃ σ' A', K .normal σ' ∧ Sim G E A' σ' a w) ?_ fun e a w ⟨he, σ', A', hk, hs'⟩ => he ▸ hq _ _ _ _ _ hk hs'
  refine wpIn_region_lit (wpListIn_of r not_lets l a w hd ?_)
  exact h E hE A a w hs _ fun σ' A' a' w' hk hs' => ⟨rfl, σ', A', hk, hs'⟩
theorem WR_region_draw {id : Nat} {l : List Oper} (f : Nat) (L : Plan) (hp : (planAll P l f L && noDefer l) = true)
    (h : popsD P G I (l.map (·.dst)) l L σ (K .normal)) : WR r P G I (.region id l.toArray true) σ K := by
  intro E hE A a w hs Q hq
  simp only [planAll, Bool.and_eq_true] at hp
  obtain ⟨⟨⟨h1, h3⟩, h4⟩, hd⟩ := hp
  refine wpIn_mono (Q := fun e a w => e = Exit.normal ∧ ∃ σ' A', K .normal σ' ∧ Sim G E A' σ' a w) ?_ fun e a w ⟨he, σ', A', hk, hs'⟩ => he ▸ hq _ _ _ _ _ hk hs'
  refine wpIn_region_any h3 (wpAnyIn_of r not_lets (by simpa using hd) _ _ _ _ (wpAnyK_any (f := f) _ _ (Array.replicate l.length false) _ _ ?_))
  have := (popsD_sound (P := P) (G := G) (E := E) hE (K := K .normal) (ops := l.toArray) (f := f) (md := .any) (Q := fun e a w => e = .normal ∧ ∃ σ' A', K .normal σ' ∧ Sim G E A' σ' a w) h1
    (fun c a w h => by obtain ⟨h, _⟩ := h; cases h) (fun σ' A' a' w' hk hs' => ⟨rfl, σ', A', hk, hs'⟩) L l.length (Array.replicate l.length false) (Array.replicate l.length false) [] σ A a _ hs.drew
    (fun j o hj => by
      exfalso
      rcases Nat.lt_or_ge j l.length with h | h
      · simp [h] at hj
      · simp [h] at hj) rfl (by simpa using h4) (by simpa using h)).any
  simpa using this
end
end Go.PM

namespace Go.PM
open Go.RowKit
section
variable {P : Program} {G : Globs} {E : Amb} {A : Nat → Prop} {σ τ : PState} {a : Act} {w : World} {I : List Int} {c x y : Code}
/-- The value yield of loop l. -/
@[reducible] def yv (l : Nat) : PV := .val (.func (.yield l) #[] #[])
/-! ### The iterator's side -/
theorem wpInW_of_wp {o : Oper} {next next' : Act → World → Prop} {Q : Exit → Act → World → Prop} (hn : ∀ a w, next a w → next' a w) (h : o.wp P a w next Q) : o.wpIn Fence.wide 0 P a w next' Q := by
  refine ⟨fun _ _ => trivial, ?_⟩
  rw [show Fence.wide.round = none from rfl, Oper.semAt_none]
  unfold Oper.wp at h
  generalize (execOp a.eval o).run P w = res at *
  cases res with
  | ok x w' =>
    cases x <;> simp only [Oper.upon, Oper.uponIn] at h ⊢
    all_goals first
      | exact hn _ _ h
      | exact h.elim
      | skip
    · refine ⟨fun h => by (cases h), ?_⟩
      have h2 := (callsIn_wide (n := 0 - 1)).2 h
      refine CallsIn.mono h2 ?_
      intro e w'' he
      cases e with
      | returned v => exact hn _ _ he
      | panicked ch => exact he
      | outgrown => exact he
    · refine ⟨fun h => by (cases h), fun c cs _ => ?_⟩
      obtain ⟨v, w2, hv, hs⟩ := h c cs
      exact ⟨v, w2, hn _ _ hv, stepsIn_wide.2 hs⟩
  | halt x w' => cases x <;> simp only [Oper.upon, Oper.uponIn] at h ⊢ <;> exact h
/-- The operations l, the rest of a region of the operations l0 in which yield is called. -/
def WLY (P : Program) (G : Globs) (I : List Int) (l0 l : List Oper) (σ : PState) (K : PState → Prop) : Prop :=
  ∀ E : Amb, E.I = I → ∀ A a w, Sim G E A σ a w → ∀ Q : Exit → Act → World → Prop, (∀ σ' A' a' w', K σ' → Sim G E A' σ' a' w' → Q .normal a' w') → wpListIn Fence.wide 0 P l0.toArray Q l a w
variable {K : PState → Prop}
theorem WLY_nil {l0 : List Oper} (h : K σ) : WLY P G I l0 [] σ K := fun _ _ _ _ _ hs _ hq => hq _ _ _ _ h hs
theorem WLY_op {l0 : List Oper} {o : Oper} {r : List Oper} (h : ∀ nx : PState → Prop, (∀ σ', WLY P G I l0 r σ' K → nx σ') → @popG P G (l0.map (·.dst)) o false σ ⟨nx⟩) : WLY P G I l0 (o :: r) σ K := by
  intro E hE A a w hs Q hq
  have h1 := h (fun σ' => WLY P G I l0 r σ' K) fun _ h => h
  rw [show l0.map (·.dst) = l0.toArray.toList.map (·.dst) by simp] at h1
  unfold wpListIn
  rcases popG_case hs h1 with ⟨hw, σ1, hs1, h2⟩ | ⟨hw, σ1, hs1, h2⟩
  · rw [if_pos hw]
    exact wpInW_of_wp (fun _ _ h => h) (pop_sound hs1 h2 fun σ' A' a' w' hk hs' _ => hk E hE A' a' w' hs' Q hq)
  · rw [if_neg (by simp [hw])]
    exact ⟨fun _ _ => trivial, h2 E hE A _ w hs1 Q hq⟩
theorem W_region_y {id : Nat} {l : List Oper} {K : Exit → PState → Prop} (h : WLY P G I l l σ (K .normal)) : W P G I (.region id l.toArray false) σ K := by
  intro E hE A a w hs Q hq
  refine (wpIn_wide (n := 0)).1 (wpIn_region_lit ?_)
  exact h E hE A a w hs Q fun σ' A' a' w' hk hs' => hq _ _ _ _ _ hk hs'
/-- A call of yield of loop l with the pure arguments args, from the state σ. -/
def pyield (P : Program) (G : Globs) (σ : PState) (d : Option Tmp) (l : Nat) (args : List PV) (K : PState → Prop) : Prop :=
  ∀ E A a w (vals : Array Value), Sim G E A σ a w → vals.size = args.length → (∀ (i : Nat) (p : PV), args[i]? = some p → ∃ v : Value, vals[i]? = some v ∧ Rep w A p v) →
    YieldAt Fence.wide 0 P l vals w (CallEnd G E false a w d K)
theorem WLY_yield {l0 : List Oper} {o : Oper} {r : List Oper} (l : Nat) {f : Operand} {xs : List Operand} {ts : Array TypeId} (hg : o.guard = none) (ho : o.op = .call { callee := .value f, args := xs.toArray, argTypes := ts })
    (hf : opnd G σ.frame f = yv l) (h : ∀ nx : PState → Prop, (∀ σ', WLY P G I l0 r σ' K → nx σ') → pyield P G σ o.dst l (xs.map (opnd G σ.frame)) nx) : WLY P G I l0 (o :: r) σ K := by
  intro E hE A a w hs Q hq
  have hv : a.eval f = .func (.yield l) #[] #[] := by
    have := hs.opnd f
    rw [hf] at this
    exact this.val_eq
  obtain ⟨fn, tmps, assign, body, hy, hR⟩ := h (fun σ' => WLY P G I l0 r σ' K) (fun _ h => h) E A a w (xs.toArray.map a.eval) hs (by simp) (fun i p hp => by
    have hi : i < xs.length := by
      have := (List.getElem?_eq_some_iff.1 hp).1
      simpa using this
    simp [hi] at hp
    subst hp
    exact ⟨a.eval xs[i], by simp [hi], hs.opnd _⟩)
  unfold wpListIn
  rw [if_pos (by simp [Region.wanted, hg])]
  refine ⟨fun _ _ => trivial, ?_⟩
  rw [show Fence.wide.round = none from rfl, Oper.semAt_none]
  have hrun : (execOp a.eval o).run P w = .ok (.round l fn tmps assign body) w := by
    unfold execOp
    simp only [ho, resolve, Sem.run_bind, hv, Deferred.ofValue, Sem.run_pure, Result.andThen_ok, Array.empty_append, invoke, hy]
  rw [hrun, Oper.uponIn_round]
  refine ⟨fun h => by (cases h), RoundIn.mono hR ?_⟩
  rintro e w'' ⟨v, σ', A', rfl, hk, hs', _⟩
  exact hk E hE A' _ _ hs' Q hq
/-- THE CONTRACT of a call of yield of loop l. -/
def PYields (P : Program) (G : Globs) (l : Nat) (args : List PV) (Hin : Heap) (R : PV → Heap → Prop) : Prop :=
  ∀ (w : World) (A : Nat → Prop) (F : List Int) (vals : Array Value),
    (∀ b, A b → b < w.heap.size) → (∀ g, Rep w A (G g) (.pointer (some (at_ g 0)))) → (Hin.map (·.1)).Nodup → (∀ n o, (n, o) ∈ Hin → ObjRep w A n o) →
    (∀ n o, (n, o) ∈ Hin → ∀ b : Nat, n = b → b < w.heap.size ∧ ¬ A b) →
    vals.size = args.length → (∀ (i : Nat) (p : PV), args[i]? = some p → ∃ v : Value, vals[i]? = some v ∧ Rep w A p v) →
    YieldAt Fence.wide 0 P l vals w fun e w' => ∃ v A' res Hout, e = .returned v ∧ R res Hout ∧ Rep w' A' res v ∧
      Sim G ⟨w, A, Hin.map (·.1), F⟩ A' ⟨[], Hout⟩ ⟨#[], []⟩ w'
theorem Sim.reorder {H' : Heap} (hs : Sim G E A σ a w) (h : H'.Perm σ.heap) : Sim G E A ⟨σ.frame, H'⟩ a w :=
  ⟨hs.ext, hs.lt, hs.a0, hs.a1, hs.globs, (h.map _).nodup_iff.2 hs.nodup, fun n o hm => hs.objs n o (h.mem_iff.1 hm), fun n o hm => hs.own n o (h.mem_iff.1 hm), fun n o hm => hs.neg n o (h.mem_iff.1 hm), hs.defers, hs.size, hs.frame⟩
theorem pyield_mid {l : Nat} {args : List PV} {R : PV → Heap → Prop} {d : Option Tmp} (front Hin back : Heap) (he : σ.heap = front ++ (Hin ++ back)) (hc : PYields P G l args Hin R)
    (hk : ∀ res Hout, R res Hout → (names (front ++ (Hout ++ back))).Nodup → K (PState.put ⟨σ.frame, front ++ (Hout ++ back)⟩ d res)) : pyield P G σ d l args K := by
  intro E A a w vals hs hsz hvals
  have nd : (names σ.heap).Nodup := hs.nodup
  rw [he] at nd
  simp only [names, List.map_append] at nd
  obtain ⟨n1, n2, n3⟩ := List.nodup_append.1 nd
  obtain ⟨n4, n5, n6⟩ := List.nodup_append.1 n2
  have hin : ∀ x ∈ Hin, x ∈ σ.heap := fun x hx => by rw [he]; exact List.mem_append_right _ (List.mem_append_left _ hx)
  have hrest : ∀ x ∈ front ++ back, x ∈ σ.heap ∧ x.1 ∉ names Hin := fun x hx => by
    rw [he]
    rcases List.mem_append.1 hx with h | h
    · exact ⟨List.mem_append_left _ h, fun hn => n3 _ (List.mem_map.2 ⟨_, h, rfl⟩) _ (List.mem_append_left _ hn) rfl⟩
    · exact ⟨List.mem_append_right _ (List.mem_append_right _ h), fun hn => n6 _ hn _ (List.mem_map.2 ⟨_, h, rfl⟩) rfl⟩
  have hrn : (names (front ++ back)).Nodup := by
    simp only [names, List.map_append]
    exact List.nodup_append.2 ⟨n1, n5, fun x hx y hy => n3 x hx y (List.mem_append_right _ hy)⟩
  refine (hc w A (names σ.heap ++ E.F) vals hs.lt hs.globs n4 (fun n o h => hs.objs n o (hin _ h)) (fun n o h b hb => ⟨(hs.own n o (hin _ h) b hb).1, (hs.own n o (hin _ h) b hb).2.1⟩) hsz hvals).mono ?_
  rintro e w' ⟨v, A', res, Hout, rfl, hR, hr, hs'⟩
  obtain ⟨hdis, hsim⟩ := hs.calledI (fun n h => List.mem_append.2 h) hin hrest hrn hs'
  have hperm : (front ++ (Hout ++ back)).Perm (Hout ++ (front ++ back)) := by
    rw [← List.append_assoc, ← List.append_assoc]
    exact List.Perm.append_right _ List.perm_append_comm
  exact ⟨v, _, A', rfl, hk res Hout hR (hsim.reorder hperm).nodup, (hsim.reorder hperm).put d hr, fun h => by cases h⟩
/-! ### Objects of another kind -/
/-- An object that is neither cells nor a map. -/
def isRaw : Obj → Bool
  | .cells .. => false
  | .map .. => false
  | _ => true
theorem kind_raw {b : Nat} {x : Obj} (h : w.heap[b]? = some x) (hx : isRaw x = true) : kindOf w b = none := by
  unfold kindOf
  rw [h]
  cases x <;> first | rfl | cases hx
@[reducible] def rawO (x : Obj) (ps : List PV) : PObj := ⟨0, false, 0, .raw x :: ps⟩
theorem ObjRep.raw_inv {n : Int} {x : Obj} {ps : List PV} (h : ObjRep w A n (rawO x ps)) : ∃ b : Nat, n = b ∧ w.heap[b]? = some x ∧ kindOf w b = none ∧ ps.length = (loopTmps x).size ∧
    ∀ (j : Nat) (u : PV), ps[j]? = some u → ∃ v : Value, (loopTmps x)[j]? = some v ∧ Rep w A u v := by
  rcases h with ⟨h, _⟩ | ⟨b, cur, fz, f, hb, h1, h2, h3, h4⟩ | ⟨b, es, clock, hb, h1, _, _, _, _, h4⟩ | ⟨b, o', ps', hb, h1, h2, _, h3, h4, h5⟩
  · cases h
  · have := (h4 0 (.raw x) rfl).2.2
    cases this
  · obtain ⟨e, k, v, _, h5, _⟩ := h4 0 (.raw x) rfl
    cases h5
  · cases h3
    exact ⟨b, hb, h1, h2, h4, h5⟩
theorem ObjRep.raw {b : Nat} {x : Obj} {ps : List PV} (h : w.heap[b]? = some x) (hx : isRaw x = true) (hl : ps.length = (loopTmps x).size)
    (hp : ∀ (j : Nat) (u : PV), ps[j]? = some u → ∃ v : Value, (loopTmps x)[j]? = some v ∧ Rep w A u v) : ObjRep w A b (rawO x ps) :=
  .inr (.inr (.inr ⟨b, x, ps, rfl, h, kind_raw h hx, rfl, rfl, hl, hp⟩))
theorem Sim.putRaw {b : Nat} {x x' : Obj} {ps fr : List PV} {H : Heap} (hx : isRaw x' = true) (ht : loopTmps x' = loopTmps x) (hs : Sim G E A ⟨fr, ((b : Int), rawO x ps) :: H⟩ a w) :
    Sim G E A ⟨fr, ((b : Int), rawO x' ps) :: H⟩ a (w.putObj b x') := by
  obtain ⟨b', hb', h1, h2, h3, h4⟩ := (hs.objs b _ List.mem_cons_self).raw_inv
  have eb : b' = b := by omega
  subst eb
  obtain ⟨o1, o2, o3⟩ := hs.own b' _ List.mem_cons_self b' rfl
  have he : Ext (fun k => k = b') w (w.putObj b' x') := by
    refine ⟨rfl, rfl, rfl, by simp, fun k _ hk => World.putObj_heap_other hk, fun k y hk => ?_⟩
    by_cases e : k = b'
    · subst e
      rw [h2] at hk
      cases hk
    · rw [kind_heap (World.putObj_heap_other e)]
      exact hk
  have hA : ∀ k, A k → ¬ k = b' := fun k hk e => o2 (e ▸ hk)
  have hnd := List.nodup_cons.1 hs.nodup
  refine ⟨hs.ext.trans he (fun k hk e => ?_), fun k hk => ?_, hs.a0, hs.a1, fun g => (hs.globs g).ext he (fun _ h => h) hA, hs.nodup, fun n o h => ?_, fun n o h k hk => ?_, fun n o h hn => ?_, hs.defers, hs.size, fun i p hp => ?_⟩
  · subst e
    rcases o3 with h | h
    · omega
    · exact h
  · simpa using hs.lt k hk
  · rcases List.mem_cons.1 h with e | h
    · cases e
      refine .raw (World.putObj_heap_same o1) hx (by rw [ht]; exact h3) fun j u hu => ?_
      obtain ⟨v, r1, r2⟩ := h4 j u hu
      exact ⟨v, by rw [ht]; exact r1, r2.ext he (fun _ h => h) hA⟩
    · refine (hs.objs n o (List.mem_cons_of_mem _ h)).ext he (fun _ h => h) hA fun k hk e => hnd.1 (List.mem_map.2 ⟨_, h, ?_⟩)
      subst e
      exact hk
  · have hk2 : k < w.heap.size ∧ ¬ A k ∧ (E.w0.heap.size ≤ k ∨ E.M k) := by
      rcases List.mem_cons.1 h with e | h
      · cases e
        exact hs.own _ _ List.mem_cons_self k hk
      · exact hs.own n o (List.mem_cons_of_mem _ h) k hk
    exact ⟨by simpa using hk2.1, hk2.2⟩
  · rcases List.mem_cons.1 h with e | h
    · cases e
      exact hs.neg _ _ List.mem_cons_self hn
    · exact hs.neg n o (List.mem_cons_of_mem _ h) hn
  · obtain ⟨v, r1, r2⟩ := hs.frame i p hp
    exact ⟨v, r1, r2.ext he (fun _ h => h) hA⟩
theorem Sim.newRaw (hs : Sim G E A σ a w) {x : Obj} {ps : List PV} (hx : isRaw x = true) (hl : ps.length = (loopTmps x).size)
    (hp : ∀ (j : Nat) (u : PV), ps[j]? = some u → ∃ v : Value, (loopTmps x)[j]? = some v ∧ Rep w A u v) :
    (w.heap.size : Int) ∉ names σ.heap ∧ Sim G E A ⟨σ.frame, ((w.heap.size : Int), rawO x ps) :: σ.heap⟩ a (w.alloc x) := by
  have hfresh : (w.heap.size : Int) ∉ names σ.heap := by
    intro h
    obtain ⟨⟨n, o'⟩, hno, hn⟩ := List.mem_map.1 h
    have := (hs.own n o' hno w.heap.size hn).1
    omega
  have he : Ext (fun _ => False) w (w.alloc x) := Ext.alloc _ _ _
  have hg' := hs.grow he
  refine ⟨hfresh, hg'.ext, hg'.lt, hg'.a0, hg'.a1, hg'.globs, List.nodup_cons.2 ⟨hfresh, hg'.nodup⟩, fun n o' h => ?_, fun n o' h b hb => ?_, fun n o' h hn => ?_, hg'.defers, hg'.size, hg'.frame⟩
  · cases List.mem_cons.1 h with
    | inl e =>
      cases e
      refine .raw (World.alloc_heap_new w x) hx hl fun j u hu => ?_
      obtain ⟨v, r1, r2⟩ := hp j u hu
      exact ⟨v, r1, r2.ext he (fun _ h => h) (fun _ _ h => h)⟩
    | inr e => exact hg'.objs n o' e
  · cases List.mem_cons.1 h with
    | inl e =>
      cases e
      have : b = w.heap.size := by omega
      subst this
      exact ⟨by simp, fun hA => by have := hs.lt _ hA; omega, .inl hs.ext.size⟩
    | inr e => exact hg'.own n o' e b hb
  · cases List.mem_cons.1 h with
    | inl e => cases e; omega
    | inr e => exact hg'.neg n o' e hn
/-! ### A round -/
/-- The values are laid into the parameters' slots. -/
def setAll (fr : List PV) (ts : List Tmp) (ps : List PV) : List PV := (ts.zip ps).foldl (fun f x => f.set x.1 x.2) fr
theorem setAll_rep {ts : List Tmp} : ∀ {ps : List PV} {vs : List Value} {fr : List PV} {tmps : Array Value}, ps.length = vs.length → (∀ (i : Nat) (p : PV), ps[i]? = some p → ∃ v : Value, vs[i]? = some v ∧ Rep w A p v) →
    fr.length = tmps.size → (∀ (i : Nat) (p : PV), fr[i]? = some p → ∃ v : Value, tmps[i]? = some v ∧ Rep w A p v) →
    (setAll fr ts ps).length = ((ts.zip vs).foldl (fun t x => t.setIfInBounds x.1 x.2) tmps).size ∧
      ∀ (i : Nat) (p : PV), (setAll fr ts ps)[i]? = some p → ∃ v : Value, ((ts.zip vs).foldl (fun t x => t.setIfInBounds x.1 x.2) tmps)[i]? = some v ∧ Rep w A p v := by
  induction ts with
  | nil => exact fun _ _ hl h => ⟨hl, h⟩
  | cons t ts ih =>
    intro ps vs fr tmps hlen hps hl h
    cases ps with
    | nil =>
      cases vs with
      | nil => exact ⟨hl, h⟩
      | cons v vs => cases hlen
    | cons p ps =>
      cases vs with
      | nil => cases hlen
      | cons v vs =>
        obtain ⟨v', hv', hr⟩ := hps 0 p rfl
        cases hv'
        simp only [setAll, List.zip_cons_cons, List.foldl_cons]
        refine ih (by simpa using hlen) (fun i q hq => hps (i + 1) q hq) (by simpa using hl) fun i q hq => ?_
        rw [List.getElem?_set] at hq
        split at hq
        · rename_i e
          subst e
          split at hq
          · rename_i hlt
            cases hq
            exact ⟨v, by rw [Array.getElem?_setIfInBounds_self_of_lt (by omega)], hr⟩
          · cases hq
        · rename_i e
          obtain ⟨u, h1, h2⟩ := h i q hq
          exact ⟨u, by rw [Array.getElem?_setIfInBounds_ne e]; exact h1, h2⟩
@[reducible] def busy (r : Loop) : Loop := { r with state := .busy }
@[reducible] def ready (r : Loop) : Loop := { r with state := .ready, pending := none }
@[reducible] def left (r : Loop) (c : Code) : Loop := { r with state := .done, pending := some c }
/-- How a round's body may end. -/
def roundK (l : Nat) (r : Loop) (ps : List PV) (R : PV → Heap → Prop) (e : Exit) (σ : PState) : Prop :=
  ∃ H1, Sub (((l : Int), rawO (.loop (busy r)) ps) :: H1) σ.heap ∧ match e with
    | .normal => R (pbool true) (((l : Int), rawO (.loop (ready r)) ps) :: H1)
    | .ret => R (pbool false) (((l : Int), rawO (.loop (left r .ret)) ps) :: H1)
    | .exit id => R (pbool false) (((l : Int), rawO (.loop (left r (.exit id))) ps) :: H1)
    | _ => False
/-- What the assignment to the loop's left sides leaves. -/
def assignK (P : Program) (G : Globs) (l : Nat) (r : Loop) (ps : List PV) (H : Heap) (R : PV → Heap → Prop) (e : Exit) (σ : PState) : Prop :=
  e = .normal ∧ σ.heap = ((l : Int), rawO (.loop r) ps) :: H ∧ WR l P G ((l : Int) :: names H) r.body ⟨σ.frame, ((l : Int), rawO (.loop (busy r)) ps) :: H⟩ (roundK l r ps R)
theorem PYields_of_WR {l : Nat} {r : Loop} {ps args : List PV} {H : Heap} {R : PV → Heap → Prop} (hr : r.state = .ready) (hsz : args.length = r.params.size)
    (h : WR l P G ((l : Int) :: names H) r.assign ⟨setAll ps r.params.toList args, ((l : Int), rawO (.loop r) ps) :: H⟩ (assignK P G l r ps H R)) :
    PYields P G l args (((l : Int), rawO (.loop r) ps) :: H) R := by
  intro w A F vals hA hG hnd hobj hown hsv hvals
  obtain ⟨b', hb', h1, h2, h3, h4⟩ := (hobj l _ List.mem_cons_self).raw_inv
  have eb : b' = l := by omega
  subst eb
  refine ⟨r.fn, _, r.assign, r.body, run_yield h1 (by omega), roundIn_of_wpIn trivial ?_⟩
  have hfr := setAll_rep (w := w) (A := A) (ts := r.params.toList) (ps := args) (vs := vals.toList) (fr := ps) (tmps := r.tmps) (by simpa using hsv.symm) (fun i p hp => by
    obtain ⟨v, r1, r2⟩ := hvals i p hp
    exact ⟨v, by simpa using r1, r2⟩) h3 h4
  have hz : (r.params.zip vals).foldl (fun tmps (x : Tmp × Value) => tmps.setIfInBounds x.1 x.2) r.tmps = (r.params.toList.zip vals.toList).foldl (fun t x => t.setIfInBounds x.1 x.2) r.tmps := by
    rw [← Array.foldl_toList, Array.toList_zip]
  have hs : Sim G ⟨w, A, (b' : Int) :: names H, F⟩ A ⟨setAll ps r.params.toList args, ((b' : Int), rawO (.loop r) ps) :: H⟩ { tmps := (r.params.zip vals).foldl (fun tmps (x : Tmp × Value) => tmps.setIfInBounds x.1 x.2) r.tmps, defers := [] } w := by
    refine ⟨Ext.refl _ _, hA, fun _ h => h, fun _ h => .inl h, hG, hnd, hobj, fun m o h b hb => ?_, fun m o h _ => by
      have : m ∈ List.map (·.1) (((b' : Int), rawO (.loop r) ps) :: H) := List.mem_map.2 ⟨_, h, rfl⟩
      exact .inr this, rfl, by rw [hz]; exact hfr.1.symm, by rw [hz]; exact hfr.2⟩
    obtain ⟨q1, q2⟩ := hown m o h b hb
    have : m ∈ List.map (·.1) (((b' : Int), rawO (.loop r) ps) :: H) := List.mem_map.2 ⟨_, h, rfl⟩
    rw [hb] at this
    exact ⟨q1, q2, .inr this⟩
  refine h _ rfl A _ w hs _ ?_
  intro e σ1 a1 w1 A1 hk hs1
  obtain ⟨rfl, hH1, hbody⟩ := hk
  have hs1' : Sim G ⟨w, A, (b' : Int) :: names H, F⟩ A1 ⟨σ1.frame, ((b' : Int), rawO (.loop r) ps) :: H⟩ a1 w1 := by
    rw [← hH1]
    exact hs1
  have hrep1 := (hs1'.objs _ _ List.mem_cons_self).raw_inv
  obtain ⟨b2, hb2, g1, _⟩ := hrep1
  have eb2 : b2 = b' := by omega
  subst eb2
  refine ⟨_, run_beginRound g1 hr, ?_⟩
  have hs2 := hs1'.putRaw (x := .loop r) (x' := .loop (busy r)) rfl rfl
  refine hbody _ rfl A1 a1 _ hs2 _ ?_
  intro e2 σ3 a3 w3 A3 ⟨H1, hsub, hk3⟩ hs3
  have hs3' := hs3.sub hsub
  obtain ⟨b3, hb3, g3, _⟩ := (hs3'.objs _ _ List.mem_cons_self).raw_inv
  have eb3 : b3 = b2 := by omega
  subst eb3
  have fin : ∀ (r' : Loop) (v : Value) (res : PV), r'.tmps = r.tmps → Rep (w3.putObj b3 (.loop r')) A3 res v → R res (((b3 : Int), rawO (.loop r') ps) :: H1) →
      ∃ v' A' res Hout, Ending.returned v = .returned v' ∧ R res Hout ∧ Rep (w3.putObj b3 (.loop r')) A' res v' ∧ Sim G ⟨w, A, (((b3 : Int), rawO (.loop r) ps) :: H).map (·.1), F⟩ A' ⟨[], Hout⟩ ⟨#[], []⟩ (w3.putObj b3 (.loop r')) := by
    intro r' v res ht hv hR
    exact ⟨v, A3, res, _, rfl, hR, hv, (hs3'.putRaw (x := .loop (busy r)) (x' := .loop r') rfl ht).bare⟩
  cases e2 with
  | normal => exact ⟨_, _, run_endRound none g3, fin (ready r) _ _ rfl (.val _) hk3⟩
  | ret => exact ⟨_, _, run_endRound (some .ret) g3, fin (left r .ret) _ _ rfl (.val _) hk3⟩
  | exit id => exact ⟨_, _, run_endRound (some (.exit id)) g3, fin (left r (.exit id)) _ _ rfl (.val _) hk3⟩
  | goto t => exact hk3.elim
  | panic ch => exact hk3.elim
  | outgrown => exact hk3.elim
end
end Go.PM
