/- 'WireTruncated': every proper beginning of an encoding yields ErrMore: the law answers true, and the input reads as before. Conditions: none. The frame began as the text of proof-skeleton.mjs. -/
import Derived.Test.YtaiflmbhciophaaRows
import Derived.Test.YtaiflmbhciophaaWx
import Derived.Test.YtaiflmbhciophaaWw
import Derived.ProofKit
import Derived.OpenShut
import Derived.ShutString
import Derived.ChangeOld
import Derived.Below
import Derived.SliceStrings
set_option linter.unusedSimpArgs false
set_option linter.unusedVariables false
namespace Go.Proofs.Ytaiflmbhciophaa.wireTruncated
open Go.ChangeShapes Go.WideShapes Go.ChangeAt Go.RowKit Go.PM
open Go.ChangeMaps (open_string shut_string)

theorem own : ownKnob Try.prog.godebug = none := by kernel_rfl
theorem laidOut : laidOutB Try.prog = true := by kernel_rfl

theorem walk (a0 : Int) (a1 : ByteArray) (a2 : Option Addr) (len2 cap2 : Nat) (z2 : List Int) (v3 : Value) (l3 : List (List UInt8)) (v4 : Value) (l4 : List (List UInt8)) (w : World)
    (w0 : (Lit.int .i64 a0).wf = true) (w1 : a1.size ≤ 140737488355328) (w2 : IsRow .i64 w a2 len2 cap2 z2) (u2 : len2 ≤ 140737488355328) (w3 : Rep w (fun b => b < w.heap.size) (.list 1 (l3.map pstr)) v3 ∧ l3.length ≤ 140737488355328 ∧ ∀ t ∈ l3, t.length ≤ 140737488355328) (w4 : Rep w (fun b => b < w.heap.size) (.list 16 (l4.map pdg)) v4 ∧ l4.length ≤ 140737488355328 ∧ ∀ d ∈ l4, d.length = 16) :
    Calls Try.prog 9 #[.int .i64 a0, .string a1, .slice a2 len2 cap2, v3, v4] w fun e w' => e = .returned (.bool true) ∧ Below w.heap.size w w' := by
  refine calls_true (truncLaw globs0 a0 (bl a1) (z2.take len2) l3 l4 (bounds_i64 w0) (fun n hn => w2.rep.2.2 n hn) w4.2.2 ⟨by rw [← size_bl]; omega, by rw [List.length_take]; omega, by have := w4.2.1; omega⟩ w3.2.1 w3.2.2) rfl fun i p hp => ?_
  match i, hp with
  | 0, hp => cases hp; exact ⟨_, rfl, .val _⟩
  | 1, hp => cases hp; exact ⟨_, rfl, by rw [show pstr (bl a1) = .val (.string a1) by simp [pstr]]; exact .val _⟩
  | 2, hp => cases hp; exact ⟨_, rfl, w2.rep.1⟩
  | 3, hp => cases hp; exact ⟨_, rfl, w3.1⟩
  | 4, hp => cases hp; exact ⟨_, rfl, w4.1⟩
  | _ + 5, hp => cases hp

set_option maxRecDepth 100000 in
theorem lifted (os : Os) (started : os.Started) (H : Type) (enc : TypeId × Value → H) :
    ReturnsInHanded {} Try.checked os 9 .any (Rows.wireTruncatedSpec.pre6 enc Try.prog Try.f9 Rows.wireTruncatedRow.domain false) (Rows.wireTruncatedSpec.post enc Try.prog Try.f9 false true false false) := by
  refine returnsInHanded_of_change_shaped (C := Try.checked) own started (by kernel_rfl) Try.func9
    (ChangeSpec.witness6 (enc := enc) (C := Try.checked) false ⟨#[], #[.int .i64 0, .string ByteArray.empty, .slice none 0 0, .slice none 0 0, .slice none 0 0], []⟩ 8 (by kernel_rfl) (by kernel_rfl) (by kernel_rfl) (by kernel_rfl)) ?_
  intro W base args ds gs before hval0 hW hcnd hwt _ _
  have hval : ∀ (j : Nat) t v, Try.f9.params[j]? = some t → args[j]? = some v → Value.okWide Try.prog W .any base t v := hval0
  have hW' := hW
  obtain ⟨p, q, hA0, hV, rfl, hfz, hnd⟩ := hW
  have hA : DataW.TrodAll enc Try.prog W 0 (fun _ => true) true Try.f9.params.toList args.toList ds p := hA0
  rw [Try.params9] at hA hval
  obtain ⟨v0, vs0, d0, ds0, p0, q0, hargs, rfl, rfl, h0, r0⟩ := trodAll_cons hA
  obtain ⟨v1, vs1, d1, ds1, p1, q1, rfl, rfl, rfl, h1, r1⟩ := trodAll_cons r0
  obtain ⟨v2, vs2, d2, ds2, p2, q2, rfl, rfl, rfl, h2, r2⟩ := trodAll_cons r1
  obtain ⟨v3, vs3, d3, ds3, p3, q3, rfl, rfl, rfl, h3, r3⟩ := trodAll_cons r2
  obtain ⟨v4, vs4, d4, ds4, p4, q4, rfl, rfl, rfl, h4, r4⟩ := trodAll_cons r3
  obtain ⟨rfl, rfl, rfl⟩ := trodAll_nil r4
  obtain rfl : args = #[v0, v1, v2, v3, v4] := by cases args; simp_all
  obtain ⟨rfl, rfl⟩ := trodVars_none hV
  rw [Try.params9] at hwt
  have y1 := weights_le hwt 1 (t := 9) (d := d1) rfl rfl
  have y2 := weights_le hwt 2 (t := 22) (d := d2) rfl rfl
  have y3 := weights_le hwt 3 (t := 23) (d := d3) rfl rfl
  have y4 := weights_le hwt 4 (t := 24) (d := d4) rfl rfl
  obtain ⟨a0, rfl, rfl, rfl, w0⟩ := open_int Try.underlying3 (hval 0 3 v0 rfl rfl) h0
  obtain ⟨a1, rfl, rfl, rfl, w1⟩ := open_string Try.underlying9 (hval 1 9 v1 rfl rfl) h1
  have u1 : a1.size ≤ 140737488355328 := by
    have e : a1.data.toList.length = a1.size := by
      rw [size_bl]
      rfl
    have := weights_str y1
    omega
  obtain ⟨a2, len2, cap2, rfl⟩ := okWide_slice Try.underlying22 (hval 2 22 v2 rfl rfl)
  have k2 := h2
  have lt2 : ∀ x ∈ p2, x.block < W.heap.size := by obtain ⟨m, hm⟩ := k2; exact DataW.trod_lt m _ _ _ hm
  obtain ⟨z2, w2, u2⟩ : ∃ zs, IsRow .i64 W a2 len2 cap2 zs ∧ len2 ≤ 140737488355328 := by
    obtain ⟨fuel, hf⟩ := h2
    rcases open_ints Try.underlying22 Try.underlying3 (by kernel_rfl) hf with ⟨hcs, _⟩ | ⟨x, l, c, zs, hcs, _, hl, hm, hz, hx, hcell, hwz⟩
    · simp [Value.cells] at hcs
      obtain ⟨rfl, rfl, rfl⟩ := hcs
      exact ⟨[], .inl ⟨rfl, rfl, rfl, rfl⟩, by omega⟩
    · simp [Value.cells] at hcs
      obtain ⟨rfl, rfl, rfl⟩ := hcs
      refine ⟨zs, .inr ⟨_, rfl, hl, hm, by simpa using hz, hcell, hwz⟩, ?_⟩
      have hx1 := congrArg Prod.fst hx
      simp only at hx1
      rw [hx1] at y2
      have h1 := (weights_slice Try.underlying22 (by rw [show Try.prog.bytesOf 3 = 8 by kernel_rfl]; omega) y2).1
      have h2 : (lits (H := H) .i64 (zs.take len2)).length = (zs.take len2).length := by simp [lits]
      have h3 : zs.length = cap2 := by simpa using hz
      rw [h2, List.length_take] at h1
      omega
  obtain ⟨a3, len3, cap3, rfl⟩ := okWide_slice Try.underlying23 (hval 3 23 v3 rfl rfl)
  have k3 := h3
  have lt3 : ∀ x ∈ p3, x.block < W.heap.size := by obtain ⟨m, hm⟩ := k3; exact DataW.trod_lt m _ _ _ hm
  obtain ⟨l3, w3⟩ := (show ∃ l : List (List UInt8), Rep W (fun b => b < W.heap.size) (.list 1 (l.map pstr)) (.slice a3 len3 cap3) ∧ l.length ≤ 140737488355328 ∧ ∀ t ∈ l, t.length ≤ 140737488355328 by
    obtain ⟨fuel, hf⟩ := h3
    exact open_textsW (x := (d3, p3)) Try.underlying23 Try.underlying9 (by kernel_rfl) (by rw [show Try.prog.bytesOf 9 = 16 by kernel_rfl]; omega) (by simpa [Value.cells] using hf) y3)
  obtain ⟨a4, len4, cap4, rfl⟩ := okWide_slice Try.underlying24 (hval 4 24 v4 rfl rfl)
  have k4 := h4
  have lt4 : ∀ x ∈ p4, x.block < W.heap.size := by obtain ⟨m, hm⟩ := k4; exact DataW.trod_lt m _ _ _ hm
  obtain ⟨l4, w4⟩ := (show ∃ l : List (List UInt8), Rep W (fun b => b < W.heap.size) (.list 16 (l.map pdg)) (.slice a4 len4 cap4) ∧ l.length ≤ 140737488355328 ∧ ∀ d ∈ l, d.length = 16 by
    obtain ⟨fuel, hf⟩ := h4
    exact open_digsW (x := (d4, p4)) (by simpa [Value.cells] using hf) y4)
  clear hA0 hval0
  refine (walk a0 a1 a2 len2 cap2 z2 _ l3 _ l4 W w0 u1 w2 u2 w3 w4).mono fun e W' ⟨he, bel⟩ => ?_
  subst he
  exact ⟨_, rfl, _, _, _, [], _, [], hW', trodAll_mk1 (shut_bool Try.underlying4 _), (trodAll_cons_mk (shut_int Try.underlying3 w0) (trodAll_cons_mk (shut_string Try.underlying9 w1) (trodAll_cons_mk (Below.trod laidOut (by kernel_rfl) (of_decide_eq_true (by kernel_rfl)) k2 bel lt2) (trodAll_cons_mk (Below.trod laidOut (by kernel_rfl) (of_decide_eq_true (by kernel_rfl)) k3 bel lt3) (trodAll_cons_mk (Below.trod laidOut (by kernel_rfl) (of_decide_eq_true (by kernel_rfl)) k4 bel lt4) trodAll_mk0))))), rfl, bel.frame _, fun h => by cases h⟩

theorem over : Rows.wireTruncatedRow.holds Try.pinned (OpenSpec.ofChange Rows.wireTruncatedSpec) :=
  OpenClaim.holds_of_wide 9 Try.f9 rfl rfl rfl rfl rfl rfl rfl ⟨rfl, rfl, rfl, rfl, rfl⟩ rfl rfl rfl rfl rfl (by kernel_rfl) Try.func9 (by kernel_rfl)
    (of_decide_eq_true (by kernel_rfl)) (by unfold Func.isWrapper; first | (rw [if_pos (by decide +kernel)]; kernel_rfl) | (rw [if_neg (by decide +kernel)]; exact ⟨rfl, rfl⟩))
    (fun os started H enc _ => lifted os started H enc)

theorem proved : Rows.WireTruncatedSaid := over
#print axioms proved
end Go.Proofs.Ytaiflmbhciophaa.wireTruncated
