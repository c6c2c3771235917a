/- Slices of bytes, of strings and of digests that came in, as lists; the bound on what comes in. Conditions: none but those that each names. -/
import Derived.Test.YtaiflmbhciophaaRows
import Derived.Test.YtaiflmbhciophaaDr
import Derived.Test.YtaiflmbhciophaaWp
import Derived.DataReads
import Derived.Deep.Slices
import Derived.Deep.Strs
import Derived.SliceStrings
import Derived.HandedShaped
set_option linter.unusedSimpArgs false
set_option linter.unusedVariables false
namespace Go.PM
open Go.Proofs Go.RowKit Go.ChangeShapes Go.WideShapes
open Go.Proofs.Ytaiflmbhciophaa (Rows.uptoBulk Rows.uptoBulkAll)

def bytesOf (zs : List Int) (len : Nat) : List UInt8 := (zs.take len).map fun n => UInt8.ofNat n.toNat
theorem IsRow.repB {w : World} {a : Option Addr} {len cap : Nat} {zs : List Int} (h : IsRow .u8 w a len cap zs) :
    Rep w (fun b => b < w.heap.size) (.list 1 ((bytesOf zs len).map pbyte)) (.slice a len cap) ∧ ((bytesOf zs len).length : Int) ≤ 9223372036854775807 := by
  rcases h with ⟨rfl, rfl, rfl, rfl⟩ | ⟨x, rfl, hl, hm, hz, hcell, hwf⟩
  · exact ⟨.nil _ _ _, by simp [bytesOf]⟩
  · have hlen : (zs.take len).length = len := by rw [List.length_take]; omega
    have hb : ∀ n ∈ zs.take len, ((UInt8.ofNat n.toNat).toNat : Int) = n := by
      intro n hn
      have h2 := bounds_u8 (hwf n (List.mem_of_mem_take hn))
      rw [UInt8.toNat_ofNat_of_lt' (show _ < 256 by omega)]
      omega
    have e : (bytesOf zs len).map pbyte = (zs.take len).map fun n => PV.val (.int .u8 n) := by
      unfold bytesOf
      rw [List.map_map]
      refine List.map_congr_left fun n hn => ?_
      simp only [Function.comp_apply, pbyte, hb n hn]
    rw [e]
    refine ⟨rep_vals (.int .u8) (fun _ => rfl) _ hlen hl fun i hi => ?_, ?_⟩
    · rw [hcell i (by omega), List.getElem_take, List.getD_eq_getElem?_getD, List.getElem?_eq_getElem (by omega)]
      rfl
    · unfold bytesOf
      rw [List.length_map, hlen]
      have : maxLen = 9223372036854775807 := by decide
      omega

theorem bulk_one {H : Type} (d : DataW H) : 1 ≤ Rows.uptoBulk d := by
  cases d with
  | lit l => cases l <;> simp [Rows.uptoBulk]
  | nil => simp [Rows.uptoBulk]
  | ptr d => simp [Rows.uptoBulk]
  | slice elems spare => simp [Rows.uptoBulk]
  | agg parts => simp [Rows.uptoBulk]
  | iface t d => simp [Rows.uptoBulk]
  | map entries => simp [Rows.uptoBulk]
  | held h => simp [Rows.uptoBulk]
theorem bulk_len {H : Type} : ∀ l : List (DataW H), l.length ≤ Rows.uptoBulkAll l
  | [] => by simp [Rows.uptoBulkAll]
  | x :: r => by
    have := bulk_one x
    have := bulk_len r
    simp only [Rows.uptoBulkAll, List.length_cons]
    omega

theorem bulk_strs {H : Type} : ∀ l : List ByteArray, l.length + sumL (l.map bl) ≤ Rows.uptoBulkAll (strs (H := H) l)
  | [] => by simp [sumL, strs, Rows.uptoBulkAll]
  | s :: l => by
    have ih := bulk_strs (H := H) l
    have e : sumL ((s :: l).map bl) = (bl s).length + sumL (l.map bl) := by simp [sumL]
    have e2 : strs (H := H) (s :: l) = .lit (.string s.data.toList) :: strs l := by simp [strs]
    rw [e, e2]
    simp only [Rows.uptoBulkAll, Rows.uptoBulk, List.length_cons, bl] at ih ⊢
    omega
theorem open_texts {H : Type} {enc : TypeId × Value → H} {w : World} {fuel : Nat} {t e : TypeId} {a0 : Option Addr} {len cap : Nat} {x : DataW H × List MemPlace} (ht : Try.prog.underlying t = some (.slice e)) (he : Try.prog.underlying e = some .string) (hc : Try.prog.cellsOf e = 1)
    (h : DataW.trod enc Try.prog w 0 (fun _ => true) true fuel t [.slice a0 len cap] = some x) (hk : Rows.uptoBulk x.1 ≤ 1048576) :
    ∃ l : List (List UInt8), Rep w (fun b => b < w.heap.size) (.list 1 (l.map pstr)) (.slice a0 len cap) ∧ l.length + sumL l ≤ 1048576 := by
  rcases open_strings ht he hc h with ⟨hn, hy⟩ | ⟨a2, l2, cap2, ss, hn, _, hl2, hm2, hz, hy, hc2, hw2⟩
  · cases hn
    exact ⟨[], .nil _ _ _, by simp [sumL]⟩
  · cases hn
    have ht : IsTexts w (some a2) len cap ss := .inr ⟨a2, rfl, hl2, hm2, by simpa using hz, hc2, hw2⟩
    refine ⟨(ss.take len).map bl, ht.rep.1, ?_⟩
    rw [hy] at hk
    simp only [Rows.uptoBulk] at hk
    have := bulk_strs (H := H) (ss.take len)
    rw [List.length_map]
    omega

theorem flat_digs_get : ∀ (cs : List (List UInt8)), (∀ d ∈ cs, d.length = 16) → ∀ j, (flat (cs.map pdg))[j]? = (cs[j / 16]?).bind fun d => (d.map pbyte)[j % 16]?
  | [], _, j => by simp [flat]
  | c :: cs, h, j => by
    have hc := h c (.head _)
    have ih := flat_digs_get cs fun d hd => h d (.tail _ hd)
    have e : flat ((c :: cs).map pdg) = c.map pbyte ++ flat (cs.map pdg) := by simp [flat, PV.cells]
    rw [e]
    by_cases h1 : j < 16
    · rw [List.getElem?_append_left (by simpa [hc] using h1), Nat.div_eq_of_lt h1, Nat.mod_eq_of_lt h1]
      rfl
    · rw [List.getElem?_append_right (by simp [hc]; omega)]
      have h2 : j / 16 = (j - 16) / 16 + 1 := by omega
      have h3 : (j - 16) % 16 = j % 16 := by omega
      rw [List.length_map, hc, ih (j - 16), h2, h3, List.getElem?_cons_succ]

theorem rep_digs {w : World} {a : Addr} {len cap : Nat} (hl : len ≤ cap) (F : Nat → List UInt8) (hF : ∀ i, i < len → (F i).length = 16)
    (h : ∀ i, i < len → ∀ j (hj : j < (F i).length), w.cell? (a.add (i * 16 + j)) = some (.int .u8 ((F i)[j].toNat : Int))) :
    Rep w (fun b => b < w.heap.size) (.list 16 (((List.range len).map F).map pdg)) (.slice (some a) len cap) := by
  by_cases h0 : len = 0
  · subst h0
    exact .nil _ _ _
  · have hm : ∀ d ∈ (List.range len).map F, d.length = 16 := by
      intro d hd
      obtain ⟨i, hi, rfl⟩ := List.mem_map.1 hd
      exact hF i (List.mem_range.1 hi)
    obtain ⟨b, off, spot⟩ := a
    have hspot : spot = none := by simpa [Addr.add] using World.cell?_spot (h 0 (by omega) 0 (by rw [hF 0 (by omega)]; omega))
    subst hspot
    simp only [Go.WideShapes.add_plain] at h
    have hb : b < w.heap.size := cell_lt (h 0 (by omega) 0 (by rw [hF 0 (by omega)]; omega))
    have get : ∀ (j : Nat) (u : PV), (flat (((List.range len).map F).map pdg))[j]? = some u → ∃ (h1 : j / 16 < len) (h2 : j % 16 < (F (j / 16)).length), u = pbyte (F (j / 16))[j % 16] := by
      intro j u hu
      rw [flat_digs_get _ hm, List.getElem?_map] at hu
      cases hr : (List.range len)[j / 16]? with
      | none => rw [hr] at hu; cases hu
      | some i =>
        obtain ⟨hlt, hi⟩ := List.getElem?_eq_some_iff.1 hr
        simp only [List.getElem_range] at hi
        subst hi
        simp only [List.length_range] at hlt
        rw [hr] at hu
        simp only [Option.map_some, Option.bind_some] at hu
        have h2 : j % 16 < (F (j / 16)).length := by rw [hF _ hlt]; omega
        rw [List.getElem?_map, List.getElem?_eq_getElem h2] at hu
        exact ⟨hlt, h2, (Option.some.inj hu).symm⟩
    have key := Rep.list (w := w) (A := fun b => b < w.heap.size) 16 (((List.range len).map F).map pdg) b off cap
      (fun j => .int .u8 (((F (j / 16)).getD (j % 16) 0).toNat : Int)) hb (by simpa using hl)
      (fun y hy => by
        obtain ⟨z, hz, rfl⟩ := List.mem_map.1 hy
        simp only [PV.cells, List.length_map]
        exact hm z hz)
      (fun j u hu => by
        obtain ⟨h1, h2, rfl⟩ := get j u hu
        have := h (j / 16) h1 (j % 16) h2
        rw [show off + j = off + (j / 16 * 16 + j % 16) by omega]
        refine ⟨?_, rfl⟩
        rw [this]
        simp [h2])
      (fun j u hu => by
        obtain ⟨h1, h2, rfl⟩ := get j u hu
        have e : (F (j / 16)).getD (j % 16) 0 = (F (j / 16))[j % 16] := by simp [h2]
        simp only [e]
        exact .val _)
    simpa using key

theorem open_digs {H : Type} {enc : TypeId × Value → H} {w : World} {fuel : Nat} {a0 : Option Addr} {len cap : Nat} {x : DataW H × List MemPlace} (h : DataW.trod enc Try.prog w 0 (fun _ => true) true fuel 24 [.slice a0 len cap] = some x)
    (hk : Rows.uptoBulk x.1 ≤ 1048576) :
    ∃ l : List (List UInt8), Rep w (fun b => b < w.heap.size) (.list 16 (l.map pdg)) (.slice a0 len cap) ∧ l.length ≤ 1048576 ∧ ∀ d ∈ l, d.length = 16 := by
  have c57 : Try.prog.cellsOf 57 = 16 := by kernel_rfl
  have c5 : Try.prog.cellsOf 5 = 1 := by kernel_rfl
  rcases Go.Deep.open_slice Try.underlying24 h with ⟨hcs, _⟩ | ⟨a, len', cap', m, n, D, Pl, hcs, _, hl, hm, hmm, rfl, hel⟩
  · simp only [List.cons.injEq, Value.slice.injEq, and_true] at hcs
    obtain ⟨rfl, rfl, rfl⟩ := hcs
    exact ⟨[], .nil _ _ _, by simp, by simp⟩
  · simp only [List.cons.injEq, Value.slice.injEq, and_true] at hcs
    obtain ⟨rfl, rfl, rfl⟩ := hcs
    simp only [if_true] at hmm
    subst hmm
    have each : ∀ i : Nat, ∃ d : List UInt8, i < len → d.length = 16 ∧ ∀ j (hj : j < d.length), w.cell? (a.add (i * 16 + j)) = some (.int .u8 (d[j].toNat : Int)) := by
      intro i
      by_cases hi : i < len
      · obtain ⟨cs', hc, ht⟩ := hel i (by omega)
        rw [c57] at hc
        obtain ⟨_, hlen, hcell⟩ := World.cells?_some hc
        have hbyte : ∀ j, j < 16 → ∃ b : UInt8, cs'[j]? = some (.int .u8 (b.toNat : Int)) := by
          intro j hj
          cases n with
          | zero => simp [DataW.trod] at ht
          | succ n' =>
            unfold DataW.trod at ht
            rw [Try.underlying57] at ht
            simp only at ht
            rw [if_pos (by rw [c57]; exact hlen)] at ht
            cases hmp : (List.range 16).mapM fun i => DataW.trod enc Try.prog w 0 (fun _ => true) true n' 5 ((cs'.drop (i * Try.prog.cellsOf 5)).take (Try.prog.cellsOf 5)) with
            | none => rw [hmp] at ht; cases ht
            | some xs =>
              have hg := mapM_some_get hmp j j (by simp [hj])
              have hxl := mapM_some_length hmp
              rw [c5] at hg
              obtain ⟨y, hy⟩ : ∃ y, xs[j]? = some y := ⟨_, List.getElem?_eq_getElem (by simp at hxl; omega)⟩
              rw [hy] at hg
              obtain ⟨v, hv, _, hwf⟩ := DataW.trod_int Try.underlying5 hg
              have h2 := bounds_u8 hwf
              refine ⟨UInt8.ofNat v.toNat, ?_⟩
              rw [UInt8.toNat_ofNat_of_lt' (show _ < 256 by omega)]
              have h3 : (cs'.drop (j * 1))[0]? = some (.int .u8 v) := by
                have := congrArg (fun l => l[0]?) hv
                simpa using this
              rw [List.getElem?_drop] at h3
              rw [show ((v.toNat : Nat) : Int) = v by omega]
              simpa using h3
        obtain ⟨B, hB⟩ := Go.Deep.choose_lt hbyte
        refine ⟨(List.range 16).map B, fun _ => ⟨by simp, fun j hj => ?_⟩⟩
        have hj16 : j < 16 := by simpa using hj
        have h1 := hcell j hj16
        rw [hB j hj16] at h1
        have hadd : (a.add (i * 16)).add j = a.add (i * 16 + j) := by
          have h3 : i * 16 = 0 ↔ i = 0 := by omega
          by_cases h1 : i = 0 <;> by_cases h2 : j = 0 <;> simp [Addr.add, h3, h1, h2, Nat.add_assoc]
        rw [hadd] at h1
        rw [h1]
        simp
      · exact ⟨[], fun h => absurd h hi⟩
    obtain ⟨F, hF⟩ := Classical.axiomOfChoice each
    simp only [Rows.uptoBulk] at hk
    have h1 := bulk_len ((List.range len).map D)
    rw [List.length_map, List.length_range] at h1
    refine ⟨(List.range len).map F, rep_digs hl F (fun i hi => (hF i hi).1) (fun i hi => (hF i hi).2), by simp; omega, ?_⟩
    intro d hd
    obtain ⟨i, hi, rfl⟩ := List.mem_map.1 hd
    exact (hF i (List.mem_range.1 hi)).1
theorem reach_eq : reachBytes = 140737488351232 := by decide
theorem weights_mem {H : Type} {P : Program} : ∀ (ts : List TypeId) (ds : List (DataW H)) (j : Nat) (t : TypeId) (d : DataW H), ts[j]? = some t → ds[j]? = some d → ∀ x ∈ d.weights P t, x ∈ DataW.weightsEach P ts ds
  | [], _, j, t, d, h, _, _, _ => by simp at h
  | _ :: _, [], j, t, d, _, h, _, _ => by simp at h
  | t0 :: ts, d0 :: ds, 0, t, d, h1, h2, x, hx => by
    simp only [List.getElem?_cons_zero, Option.some.injEq] at h1 h2
    subst h1 h2
    rw [DataW.weightsEach]
    exact List.mem_append_left _ hx
  | t0 :: ts, d0 :: ds, j + 1, t, d, h1, h2, x, hx => by
    simp only [List.getElem?_cons_succ] at h1 h2
    rw [DataW.weightsEach]
    exact List.mem_append_right _ (weights_mem ts ds j t d h1 h2 x hx)
theorem weights_le {H : Type} {P : Program} {ts : List TypeId} {ds : List (DataW H)} (h : (DataW.weightsEach P ts ds).all (· ≤ reachBytes) = true) (j : Nat) {t : TypeId} {d : DataW H} (h1 : ts[j]? = some t) (h2 : ds[j]? = some d) : ∀ x ∈ d.weights P t, x ≤ reachBytes := by
  intro x hx
  have := List.all_eq_true.1 h x (weights_mem ts ds j t d h1 h2 x hx)
  simpa using this
theorem weights_str {H : Type} {P : Program} {t : TypeId} {l : List UInt8} (h : ∀ x ∈ (DataW.lit (H := H) (.string l)).weights P t, x ≤ reachBytes) : l.length ≤ 140737488355328 := by
  have := h l.length (by rw [DataW.weights]; exact List.mem_singleton.2 rfl)
  rw [reach_eq] at this
  omega
theorem weights_slice {H : Type} {P : Program} {t e : TypeId} {elems spare : List (DataW H)} (ht : P.underlying t = some (.slice e)) (hb : 1 ≤ P.bytesOf e) (h : ∀ x ∈ (DataW.slice elems spare).weights P t, x ≤ reachBytes) :
    elems.length ≤ 140737488355328 ∧ ∀ x ∈ DataW.weightsAll P e elems, x ≤ reachBytes := by
  rw [DataW.weights, ht] at h
  simp only at h
  constructor
  · have h1 := h _ List.mem_cons_self
    rw [reach_eq] at h1
    have h2 : (elems.length + spare.length) * 1 ≤ (elems.length + spare.length) * P.bytesOf e := Nat.mul_le_mul_left _ hb
    omega
  · intro x hx
    exact h x (List.mem_cons_of_mem _ (List.mem_append_left _ hx))
theorem weights_strs {H : Type} {P : Program} {e : TypeId} : ∀ l : List ByteArray, (∀ x ∈ DataW.weightsAll P e (strs (H := H) l), x ≤ reachBytes) → ∀ s ∈ l.map bl, s.length ≤ 140737488355328
  | [], _, s, hs => by simp at hs
  | b :: l, h, s, hs => by
    have e2 : strs (H := H) (b :: l) = .lit (.string b.data.toList) :: strs l := by simp [strs]
    rw [e2, DataW.weightsAll] at h
    rw [List.map_cons, List.mem_cons] at hs
    rcases hs with rfl | hs
    · exact weights_str (t := e) fun x hx => h x (List.mem_append_left _ hx)
    · exact weights_strs l (fun x hx => h x (List.mem_append_right _ hx)) s hs
theorem open_textsW {H : Type} {enc : TypeId × Value → H} {w : World} {fuel : Nat} {t e : TypeId} {a0 : Option Addr} {len cap : Nat} {x : DataW H × List MemPlace} (ht : Try.prog.underlying t = some (.slice e)) (he : Try.prog.underlying e = some .string) (hc : Try.prog.cellsOf e = 1) (hb : 1 ≤ Try.prog.bytesOf e)
    (h : DataW.trod enc Try.prog w 0 (fun _ => true) true fuel t [.slice a0 len cap] = some x) (hk : ∀ y ∈ x.1.weights Try.prog t, y ≤ reachBytes) :
    ∃ l : List (List UInt8), Rep w (fun b => b < w.heap.size) (.list 1 (l.map pstr)) (.slice a0 len cap) ∧ l.length ≤ 140737488355328 ∧ ∀ s ∈ l, s.length ≤ 140737488355328 := by
  rcases open_strings ht he hc h with ⟨hn, hy⟩ | ⟨a2, l2, cap2, ss, hn, _, hl2, hm2, hz, hy, hc2, hw2⟩
  · cases hn
    exact ⟨[], .nil _ _ _, by simp, by simp⟩
  · cases hn
    have hts : IsTexts w (some a2) len cap ss := .inr ⟨a2, rfl, hl2, hm2, by simpa using hz, hc2, hw2⟩
    rw [hy] at hk
    obtain ⟨k1, k2⟩ := weights_slice ht hb hk
    refine ⟨(ss.take len).map bl, hts.rep.1, ?_, weights_strs _ k2⟩
    have : (strs (H := H) (ss.take len)).length = (ss.take len).length := by simp [strs]
    rw [this] at k1
    rw [List.length_map]
    exact k1
theorem open_digsW {H : Type} {enc : TypeId × Value → H} {w : World} {fuel : Nat} {a0 : Option Addr} {len cap : Nat} {x : DataW H × List MemPlace} (h : DataW.trod enc Try.prog w 0 (fun _ => true) true fuel 24 [.slice a0 len cap] = some x)
    (hk : ∀ y ∈ x.1.weights Try.prog 24, y ≤ reachBytes) :
    ∃ l : List (List UInt8), Rep w (fun b => b < w.heap.size) (.list 16 (l.map pdg)) (.slice a0 len cap) ∧ l.length ≤ 140737488355328 ∧ ∀ d ∈ l, d.length = 16 := by
  have c57 : Try.prog.cellsOf 57 = 16 := by kernel_rfl
  have c5 : Try.prog.cellsOf 5 = 1 := by kernel_rfl
  rcases Go.Deep.open_slice Try.underlying24 h with ⟨hcs, _⟩ | ⟨a, len', cap', m, n, D, Pl, hcs, _, hl, hm, hmm, rfl, hel⟩
  · simp only [List.cons.injEq, Value.slice.injEq, and_true] at hcs
    obtain ⟨rfl, rfl, rfl⟩ := hcs
    exact ⟨[], .nil _ _ _, by simp, by simp⟩
  · simp only [List.cons.injEq, Value.slice.injEq, and_true] at hcs
    obtain ⟨rfl, rfl, rfl⟩ := hcs
    simp only [if_true] at hmm
    subst hmm
    have each : ∀ i : Nat, ∃ d : List UInt8, i < len → d.length = 16 ∧ ∀ j (hj : j < d.length), w.cell? (a.add (i * 16 + j)) = some (.int .u8 (d[j].toNat : Int)) := by
      intro i
      by_cases hi : i < len
      · obtain ⟨cs', hc, ht⟩ := hel i (by omega)
        rw [c57] at hc
        obtain ⟨_, hlen, hcell⟩ := World.cells?_some hc
        have hbyte : ∀ j, j < 16 → ∃ b : UInt8, cs'[j]? = some (.int .u8 (b.toNat : Int)) := by
          intro j hj
          cases n with
          | zero => simp [DataW.trod] at ht
          | succ n' =>
            unfold DataW.trod at ht
            rw [Try.underlying57] at ht
            simp only at ht
            rw [if_pos (by rw [c57]; exact hlen)] at ht
            cases hmp : (List.range 16).mapM fun i => DataW.trod enc Try.prog w 0 (fun _ => true) true n' 5 ((cs'.drop (i * Try.prog.cellsOf 5)).take (Try.prog.cellsOf 5)) with
            | none => rw [hmp] at ht; cases ht
            | some xs =>
              have hg := mapM_some_get hmp j j (by simp [hj])
              have hxl := mapM_some_length hmp
              rw [c5] at hg
              obtain ⟨y, hy⟩ : ∃ y, xs[j]? = some y := ⟨_, List.getElem?_eq_getElem (by simp at hxl; omega)⟩
              rw [hy] at hg
              obtain ⟨v, hv, _, hwf⟩ := DataW.trod_int Try.underlying5 hg
              have h2 := bounds_u8 hwf
              refine ⟨UInt8.ofNat v.toNat, ?_⟩
              rw [UInt8.toNat_ofNat_of_lt' (show _ < 256 by omega)]
              have h3 : (cs'.drop (j * 1))[0]? = some (.int .u8 v) := by
                have := congrArg (fun l => l[0]?) hv
                simpa using this
              rw [List.getElem?_drop] at h3
              rw [show ((v.toNat : Nat) : Int) = v by omega]
              simpa using h3
        obtain ⟨B, hB⟩ := Go.Deep.choose_lt hbyte
        refine ⟨(List.range 16).map B, fun _ => ⟨by simp, fun j hj => ?_⟩⟩
        have hj16 : j < 16 := by simpa using hj
        have h1 := hcell j hj16
        rw [hB j hj16] at h1
        have hadd : (a.add (i * 16)).add j = a.add (i * 16 + j) := by
          have h3 : i * 16 = 0 ↔ i = 0 := by omega
          by_cases h1 : i = 0 <;> by_cases h2 : j = 0 <;> simp [Addr.add, h3, h1, h2, Nat.add_assoc]
        rw [hadd] at h1
        rw [h1]
        simp
      · exact ⟨[], fun h => absurd h hi⟩
    obtain ⟨F, hF⟩ := Classical.axiomOfChoice each
    have h1 := (weights_slice Try.underlying24 (by rw [show Try.prog.bytesOf 57 = 16 by kernel_rfl]; omega) hk).1
    rw [List.length_map, List.length_range] at h1
    refine ⟨(List.range len).map F, rep_digs hl F (fun i hi => (hF i hi).1) (fun i hi => (hF i hi).2), by simp; omega, ?_⟩
    intro d hd
    obtain ⟨i, hi, rfl⟩ := List.mem_map.1 hd
    exact (hF i (List.mem_range.1 hi)).1
end Go.PM
