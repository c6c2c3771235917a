/- 'HashOfSeparates': one digest of two inputs that differ is a collision: the law answers true, and the input reads as before. Conditions: none. The frame began as the text of proof-skeleton.mjs. -/
import Derived.Test.YtoekafodjjeboaaDoorRows
import Derived.Test.YtoekafodjjeboaaDoorHx
import Derived.Test.YtoekafodjjeboaaDoorHw
import Derived.ProofKit
import Derived.OpenShut
import Derived.ShutString
import Derived.ChangeOld
import Derived.Below
import Derived.SliceStrings
import Derived.Lay
import Derived.MakeChecks
import Derived.SevenTiedAt
import Derived.Handed
import Derived.Test.YtoekafodjjeboaaDoorCards
import Derived.Test.YtoekafodjjeboaaDoorTie
set_option linter.unusedSimpArgs false
set_option linter.unusedVariables false
namespace Go.Proofs.YtoekafodjjeboaaDoor.hashOfSeparates
open Go.ChangeShapes Go.WideShapes Go.ChangeAt Go.RowKit Go.PM
open Go.ChangeMaps (open_string shut_string)

theorem own : ownKnob Tryd.prog.godebug = none := by kernel_rfl
theorem laidOut : laidOutB Tryd.prog = true := by kernel_rfl

theorem walk (s0 t0 : UInt8) (v1 : Value) (l1 : List (List UInt8)) (v2 : Value) (l2 : List (List UInt8)) (w : World)
    (hg : ∀ g, Rep w (fun b => b < w.heap.size) (globsK [1] g) (.pointer (some (at_ g 0))))
    (w1 : Rep w (fun b => b < w.heap.size) (.list 1 (l1.map pstr)) v1 ∧ (l1.length : Int) ≤ 9223372036854775807) (w2 : Rep w (fun b => b < w.heap.size) (.list 1 (l2.map pstr)) v2 ∧ (l2.length : Int) ≤ 9223372036854775807) :
    Calls Tryd.prog 8 #[.agg #[.int .u8 s0.toNat, .int .u8 t0.toNat], v1, v2] w fun e w' => e = .returned (.bool true) ∧ Below w.heap.size w w' := by
  refine calls_trueG (law8 (globsK [1]) rfl s0 t0 l1 l2 w1.2 w2.2) hg rfl fun i p hp => ?_
  match i, hp with
  | 0, hp => cases hp; exact ⟨_, rfl, rep_pair _ _⟩
  | 1, hp => cases hp; exact ⟨_, rfl, w1.1⟩
  | 2, hp => cases hp; exact ⟨_, rfl, w2.1⟩
  | _ + 3, hp => cases hp

set_option maxRecDepth 100000 in
theorem laid_met {w : World} (h : laidMetH Tryd.prog [("wordbook/hash.constants", Rows.laid_wordbook_hash_constants)] w) (g : Nat) : Rep w (fun b => b < w.heap.size) (globsK [1] g) (.pointer (some (at_ g 0))) := by
  rw [MakeChecks.laidMetH_plain _ _ _ (by kernel_rfl)] at h
  refine globsK_rep _ (fun g hg => ?_) g
  simp only [List.mem_cons, List.not_mem_nil, or_false] at hg
  rcases hg with rfl
  · exact ks_rep (n := "wordbook/hash.constants") h (by rw [← show Rows.laid_wordbook_hash_constants (H := Unit) = Lib.tabData .u32 ksI by kernel_rfl]; exact .head _) (by kernel_rfl) (by kernel_rfl) Tryd.underlying54 Tryd.underlying29 (by kernel_rfl) (by kernel_rfl)

set_option maxRecDepth 100000 in
theorem lifted (os : Os) (started : os.Started) (H : Type) (enc : TypeId × Value → H) :
    ReturnsInHanded {} Tryd.checked os 8 .any (fun w args => (Rows.hashOfSeparatesSpec.pre enc Tryd.prog Tryd.f8 [] false w args ∧ laidMetH Tryd.prog [("wordbook/hash.constants", Rows.laid_wordbook_hash_constants)] w) ∧ sizedMet enc Tryd.prog Tryd.f8 (OpenSpec.ofChange Rows.hashOfSeparatesSpec) false w args) (Rows.hashOfSeparatesSpec.post enc Tryd.prog Tryd.f8 false true false false) := by
  refine returnsInHanded_of_change_and (C := Tryd.checked) (X := fun w _ => laidMetH Tryd.prog [("wordbook/hash.constants", Rows.laid_wordbook_hash_constants)] w) (fun _ _ _ hh h => h.of_heap hh) own started (by kernel_rfl) Tryd.func8
    (ChangeSpec.witness_shaped (enc := enc) (C := Tryd.checked) (os := os) (X := fun w _ => laidMetH Tryd.prog [("wordbook/hash.constants", Rows.laid_wordbook_hash_constants)] w) false (World.laidAll Tryd.prog os [("wordbook/hash.constants", Rows.laid_wordbook_hash_constants)]) #[.agg #[.int .u8 0, .int .u8 0], .slice none 0 0, .slice none 0 0] 8 (World.laidAll_os _ _ _)
      (World.shaped_of_ZipB (by kernel_rfl) (by kernel_rfl)) (by kernel_rfl) (by kernel_rfl) (by kernel_rfl)
      (by rw [MakeChecks.laidMetH_plain _ _ _ (by kernel_rfl)]; exact laidMet_laidAll _ (by kernel_rfl) (by kernel_rfl))) ?_
  intro W base args ds gs before hval0 hW _ _ hL _
  have hval : ∀ (j : Nat) t v, Tryd.f8.params[j]? = some t → args[j]? = some v → Value.okWide Tryd.prog W .any base t v := hval0
  have hW' := hW
  obtain ⟨p, q, hA0, hV, rfl, hfz, hnd⟩ := hW
  have hA : DataW.TrodAll enc Tryd.prog W 0 (fun _ => true) true Tryd.f8.params.toList args.toList ds p := hA0
  rw [Tryd.params8] at hA hval
  obtain ⟨v0, vs0, d0, ds0, p0, q0, hargs, rfl, rfl, h0, r0⟩ := trodAll_cons hA
  obtain ⟨v1, vs1, d1, ds1, p1, q1, rfl, rfl, rfl, h1, r1⟩ := trodAll_cons r0
  obtain ⟨v2, vs2, d2, ds2, p2, q2, rfl, rfl, rfl, h2, r2⟩ := trodAll_cons r1
  obtain ⟨rfl, rfl, rfl⟩ := trodAll_nil r2
  obtain rfl : args = #[v0, v1, v2] := by cases args; simp_all
  obtain ⟨rfl, rfl⟩ := trodVars_none hV
  have k0 := h0
  have lt0 : ∀ x ∈ p0, x.block < W.heap.size := by obtain ⟨m, hm⟩ := k0; exact DataW.trod_lt m _ _ _ hm
  obtain ⟨s0, t0, rfl⟩ := open_pair Tryd.underlying48 Tryd.underlying5 (by kernel_rfl) (by kernel_rfl) (hval 0 48 v0 rfl rfl) h0
  obtain ⟨a1, len1, cap1, rfl⟩ := okWide_slice Tryd.underlying27 (hval 1 27 v1 rfl rfl)
  have k1 := h1
  have lt1 : ∀ x ∈ p1, x.block < W.heap.size := by obtain ⟨m, hm⟩ := k1; exact DataW.trod_lt m _ _ _ hm
  obtain ⟨l1, w1⟩ := (show ∃ l : List (List UInt8), Rep W (fun b => b < W.heap.size) (.list 1 (l.map pstr)) (.slice a1 len1 cap1) ∧ (l.length : Int) ≤ 9223372036854775807 by
    obtain ⟨fuel, hf⟩ := h1
    exact open_texts0 Tryd.underlying27 Tryd.underlying9 (by kernel_rfl) (by simpa [Value.cells] using hf))
  obtain ⟨a2, len2, cap2, rfl⟩ := okWide_slice Tryd.underlying27 (hval 2 27 v2 rfl rfl)
  have k2 := h2
  have lt2 : ∀ x ∈ p2, x.block < W.heap.size := by obtain ⟨m, hm⟩ := k2; exact DataW.trod_lt m _ _ _ hm
  obtain ⟨l2, w2⟩ := (show ∃ l : List (List UInt8), Rep W (fun b => b < W.heap.size) (.list 1 (l.map pstr)) (.slice a2 len2 cap2) ∧ (l.length : Int) ≤ 9223372036854775807 by
    obtain ⟨fuel, hf⟩ := h2
    exact open_texts0 Tryd.underlying27 Tryd.underlying9 (by kernel_rfl) (by simpa [Value.cells] using hf))
  clear hA0 hval0
  refine (walk s0 t0 _ l1 _ l2 W (laid_met hL) w1 w2).mono fun e W' ⟨he, bel⟩ => ?_
  subst he
  exact ⟨_, rfl, _, _, _, [], _, [], hW', trodAll_mk1 (shut_bool Tryd.underlying4 _), (trodAll_cons_mk (Below.trod laidOut (by kernel_rfl) (of_decide_eq_true (by kernel_rfl)) k0 bel lt0) (trodAll_cons_mk (Below.trod laidOut (by kernel_rfl) (of_decide_eq_true (by kernel_rfl)) k1 bel lt1) (trodAll_cons_mk (Below.trod laidOut (by kernel_rfl) (of_decide_eq_true (by kernel_rfl)) k2 bel lt2) trodAll_mk0))), rfl, bel.frame _, fun h => by cases h⟩

theorem over : Rows.hashOfSeparatesRow.holds Tryd.pinned (OpenSpec.ofChange Rows.hashOfSeparatesSpec) :=
  OpenClaim.holds_of_wide 8 Tryd.f8 rfl rfl rfl rfl rfl rfl rfl ⟨rfl, rfl, rfl, rfl, rfl⟩ rfl rfl rfl rfl rfl (by kernel_rfl) Tryd.func8 (by kernel_rfl)
    (of_decide_eq_true (by kernel_rfl)) (by unfold Func.isWrapper; first | (rw [if_pos (by decide +kernel)]; kernel_rfl) | (rw [if_neg (by decide +kernel)]; exact ⟨rfl, rfl⟩))
    (fun os started H enc _ => lifted os started H enc)

theorem proved : Rows.HashOfSeparatesCardSaid :=
  Claim7.holds_tied_plain_at .later [] [.data] true (true, "6fa3fdd116d3381a5e582ac1ee652fca5a46acc6e7226d526a164f01037ac487") false over (fun _ h => by cases h) (by kernel_rfl) (fun _ h => by cases h) hashOfSeparates_row_tie rfl ⟨rfl, rfl⟩ (by kernel_rfl) rfl
    (fun f fn hf hfn => by
      obtain rfl : f = 8 := Option.some.inj ((show Tryd.prog.funcNamed "wordbook/wordbooklaw02.HashOfSeparates" = some 8 by kernel_rfl).symm.trans hf) |>.symm
      obtain rfl : fn = Tryd.f8 := (Option.some.inj (Tryd.func8.symm.trans hfn)).symm
      exact ⟨by kernel_rfl, fun j t ht => by
        rw [Tryd.params8] at ht
        have hm : t ∈ [48, 27, 27] := by simpa using Array.mem_of_getElem? ht
        have hall : ([48, 27, 27].all fun u => !Tryd.prog.wantsStandIn u) = true := by kernel_rfl
        exact (show Tryd.prog.wantsStandIn t = false by simpa using List.all_eq_true.1 hall t hm)⟩)
    (by kernel_rfl)
#print axioms proved
end Go.Proofs.YtoekafodjjeboaaDoor.hashOfSeparates
