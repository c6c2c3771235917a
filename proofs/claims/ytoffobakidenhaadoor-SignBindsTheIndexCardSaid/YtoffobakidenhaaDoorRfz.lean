/- 'SignBindsTheIndex': a signature with another index is accepted only as specified: the law answers true, and the input reads as before. Conditions: none. The frame began as the text of proof-skeleton.mjs. -/
import Derived.Test.YtoffobakidenhaaDoorRows
import Derived.Test.YtoffobakidenhaaDoorJg
import Derived.ProofKit
import Derived.OpenShut
import Derived.ShutString
import Derived.ChangeOld
import Derived.Below
import Derived.SliceStrings
import Derived.Lay
import Derived.MakeChecks
import Derived.SevenTiedAt
import Derived.Handed
import Derived.Test.YtoffobakidenhaaDoorCards
import Derived.Test.YtoffobakidenhaaDoorTie
set_option linter.unusedSimpArgs false
set_option linter.unusedVariables false
namespace Go.Proofs.YtoffobakidenhaaDoor.signBindsTheIndex
open Go.ChangeShapes Go.WideShapes Go.ChangeAt Go.RowKit Go.PM
open Go.ChangeMaps (open_string shut_string)

theorem own : ownKnob Tryd.prog.godebug = none := by kernel_rfl
theorem laidOut : laidOutB Tryd.prog = true := by kernel_rfl

theorem walk (a0 : Int) (a1 : Int) (a2 : Int) (a3 : Int) (a4 : ByteArray) (w : World)
    (hg : ∀ g, Rep w (fun b => b < w.heap.size) (globsK [1, 0] g) (.pointer (some (at_ g 0))))
    (w0 : (Lit.int .u8 a0).wf = true) (w1 : (Lit.int .u8 a1).wf = true) (w2 : (Lit.int .u8 a2).wf = true) (w3 : (Lit.int .u8 a3).wf = true) (w4 : a4.size ≤ maxLen) :
    Calls Tryd.prog 8 #[.int .u8 a0, .int .u8 a1, .int .u8 a2, .int .u8 a3, .string a4] w fun e w' => e = .returned (.bool true) ∧ Below w.heap.size w w' := by
  refine calls_trueG (law8_c (globsK [1, 0]) ⟨rfl, rfl⟩ (UInt8.ofNat a0.toNat) (UInt8.ofNat a1.toNat) (UInt8.ofNat a2.toNat) (UInt8.ofNat a3.toNat) (bl a4)) hg rfl fun i p hp => ?_
  match i, hp with
  | 0, hp => cases hp; exact ⟨_, rfl, by rw [pbyte_of w0]; exact .val _⟩
  | 1, hp => cases hp; exact ⟨_, rfl, by rw [pbyte_of w1]; exact .val _⟩
  | 2, hp => cases hp; exact ⟨_, rfl, by rw [pbyte_of w2]; exact .val _⟩
  | 3, hp => cases hp; exact ⟨_, rfl, by rw [pbyte_of w3]; exact .val _⟩
  | 4, hp => cases hp; exact ⟨_, rfl, by rw [show pstr (bl a4) = .val (.string a4) by simp [pstr]]; exact .val _⟩
  | _ + 5, hp => cases hp

set_option maxRecDepth 100000 in
theorem laid_met {w : World} (h : laidMetH Tryd.prog [("wordbook/hash.constants", Rows.laid_wordbook_hash_constants), ("wordbook/wordbookref02.constants", Rows.laid_wordbook_wordbookref02_constants)] w) (g : Nat) : Rep w (fun b => b < w.heap.size) (globsK [1, 0] g) (.pointer (some (at_ g 0))) := by
  rw [MakeChecks.laidMetH_plain _ _ _ (by kernel_rfl)] at h
  refine globsK_rep _ (fun g hg => ?_) g
  simp only [List.mem_cons, List.not_mem_nil, or_false] at hg
  rcases hg with rfl | rfl
  · exact ks_rep (n := "wordbook/hash.constants") h (by rw [← show Rows.laid_wordbook_hash_constants (H := Unit) = Lib.tabData .u32 ksI by kernel_rfl]; exact .head _) (by kernel_rfl) (by kernel_rfl) Tryd.underlying103 Tryd.underlying81 (by kernel_rfl) (by kernel_rfl)
  · exact ks_rep (n := "wordbook/wordbookref02.constants") h (by rw [← show Rows.laid_wordbook_wordbookref02_constants (H := Unit) = Lib.tabData .u32 ksI by kernel_rfl]; exact .tail _ (.head _)) (by kernel_rfl) (by kernel_rfl) Tryd.underlying103 Tryd.underlying81 (by kernel_rfl) (by kernel_rfl)

set_option maxRecDepth 100000 in
theorem lifted (os : Os) (started : os.Started) (H : Type) (enc : TypeId × Value → H) :
    ReturnsInHanded {} Tryd.checked os 8 .any (fun w args => (Rows.signBindsTheIndexSpec.pre enc Tryd.prog Tryd.f8 [] false w args ∧ laidMetH Tryd.prog [("wordbook/hash.constants", Rows.laid_wordbook_hash_constants), ("wordbook/wordbookref02.constants", Rows.laid_wordbook_wordbookref02_constants)] w) ∧ sizedMet enc Tryd.prog Tryd.f8 (OpenSpec.ofChange Rows.signBindsTheIndexSpec) false w args) (Rows.signBindsTheIndexSpec.post enc Tryd.prog Tryd.f8 false true false false) := by
  refine returnsInHanded_of_change_and (C := Tryd.checked) (X := fun w _ => laidMetH Tryd.prog [("wordbook/hash.constants", Rows.laid_wordbook_hash_constants), ("wordbook/wordbookref02.constants", Rows.laid_wordbook_wordbookref02_constants)] w) (fun _ _ _ hh h => h.of_heap hh) own started (by kernel_rfl) Tryd.func8
    (ChangeSpec.witness_shaped (enc := enc) (C := Tryd.checked) (os := os) (X := fun w _ => laidMetH Tryd.prog [("wordbook/hash.constants", Rows.laid_wordbook_hash_constants), ("wordbook/wordbookref02.constants", Rows.laid_wordbook_wordbookref02_constants)] w) false (World.laidAll Tryd.prog os [("wordbook/hash.constants", Rows.laid_wordbook_hash_constants), ("wordbook/wordbookref02.constants", Rows.laid_wordbook_wordbookref02_constants)]) #[.int .u8 0, .int .u8 0, .int .u8 0, .int .u8 0, .string ByteArray.empty] 8 (World.laidAll_os _ _ _)
      (World.shaped_of_ZipB (by kernel_rfl) (by kernel_rfl)) (by kernel_rfl) (by kernel_rfl) (by kernel_rfl)
      (by rw [MakeChecks.laidMetH_plain _ _ _ (by kernel_rfl)]; exact laidMet_laidAll _ (by kernel_rfl) (by kernel_rfl))) ?_
  intro W base args ds gs before hval0 hW _ _ hL _
  have hval : ∀ (j : Nat) t v, Tryd.f8.params[j]? = some t → args[j]? = some v → Value.okWide Tryd.prog W .any base t v := hval0
  have hW' := hW
  obtain ⟨p, q, hA0, hV, rfl, hfz, hnd⟩ := hW
  have hA : DataW.TrodAll enc Tryd.prog W 0 (fun _ => true) true Tryd.f8.params.toList args.toList ds p := hA0
  rw [Tryd.params8] at hA hval
  obtain ⟨v0, vs0, d0, ds0, p0, q0, hargs, rfl, rfl, h0, r0⟩ := trodAll_cons hA
  obtain ⟨v1, vs1, d1, ds1, p1, q1, rfl, rfl, rfl, h1, r1⟩ := trodAll_cons r0
  obtain ⟨v2, vs2, d2, ds2, p2, q2, rfl, rfl, rfl, h2, r2⟩ := trodAll_cons r1
  obtain ⟨v3, vs3, d3, ds3, p3, q3, rfl, rfl, rfl, h3, r3⟩ := trodAll_cons r2
  obtain ⟨v4, vs4, d4, ds4, p4, q4, rfl, rfl, rfl, h4, r4⟩ := trodAll_cons r3
  obtain ⟨rfl, rfl, rfl⟩ := trodAll_nil r4
  obtain rfl : args = #[v0, v1, v2, v3, v4] := by cases args; simp_all
  obtain ⟨rfl, rfl⟩ := trodVars_none hV
  obtain ⟨a0, rfl, rfl, rfl, w0⟩ := open_int Tryd.underlying5 (hval 0 5 v0 rfl rfl) h0
  obtain ⟨a1, rfl, rfl, rfl, w1⟩ := open_int Tryd.underlying5 (hval 1 5 v1 rfl rfl) h1
  obtain ⟨a2, rfl, rfl, rfl, w2⟩ := open_int Tryd.underlying5 (hval 2 5 v2 rfl rfl) h2
  obtain ⟨a3, rfl, rfl, rfl, w3⟩ := open_int Tryd.underlying5 (hval 3 5 v3 rfl rfl) h3
  obtain ⟨a4, rfl, rfl, rfl, w4⟩ := open_string Tryd.underlying9 (hval 4 9 v4 rfl rfl) h4
  clear hA0 hval0
  refine (walk a0 a1 a2 a3 a4 W (laid_met hL) w0 w1 w2 w3 w4).mono fun e W' ⟨he, bel⟩ => ?_
  subst he
  exact ⟨_, rfl, _, _, _, [], _, [], hW', trodAll_mk1 (shut_bool Tryd.underlying4 _), (trodAll_cons_mk (shut_int Tryd.underlying5 w0) (trodAll_cons_mk (shut_int Tryd.underlying5 w1) (trodAll_cons_mk (shut_int Tryd.underlying5 w2) (trodAll_cons_mk (shut_int Tryd.underlying5 w3) (trodAll_cons_mk (shut_string Tryd.underlying9 w4) trodAll_mk0))))), rfl, bel.frame _, fun h => by cases h⟩

theorem over : Rows.signBindsTheIndexRow.holds Tryd.pinned (OpenSpec.ofChange Rows.signBindsTheIndexSpec) :=
  OpenClaim.holds_of_wide 8 Tryd.f8 rfl rfl rfl rfl rfl rfl rfl ⟨rfl, rfl, rfl, rfl, rfl⟩ rfl rfl rfl rfl rfl (by kernel_rfl) Tryd.func8 (by kernel_rfl)
    (of_decide_eq_true (by kernel_rfl)) (by unfold Func.isWrapper; first | (rw [if_pos (by decide +kernel)]; kernel_rfl) | (rw [if_neg (by decide +kernel)]; exact ⟨rfl, rfl⟩))
    (fun os started H enc _ => lifted os started H enc)

theorem proved : Rows.SignBindsTheIndexCardSaid :=
  Claim7.holds_tied_plain_at .later [] [.data, .data] true (true, "53e8dcc94a98ee4e8397ce15025af463fab214ab1c042506e4d652f15817975a") false over (fun _ h => by cases h) (by kernel_rfl) (fun _ h => by cases h) signBindsTheIndex_row_tie rfl ⟨rfl, rfl⟩ (by kernel_rfl) rfl
    (fun f fn hf hfn => by
      obtain rfl : f = 8 := Option.some.inj ((show Tryd.prog.funcNamed "wordbook/wordbooklaw03.SignBindsTheIndex" = some 8 by kernel_rfl).symm.trans hf) |>.symm
      obtain rfl : fn = Tryd.f8 := (Option.some.inj (Tryd.func8.symm.trans hfn)).symm
      exact ⟨by kernel_rfl, fun j t ht => by
        rw [Tryd.params8] at ht
        have hm : t ∈ [5, 5, 5, 5, 9] := by simpa using Array.mem_of_getElem? ht
        have hall : ([5, 5, 5, 5, 9].all fun u => !Tryd.prog.wantsStandIn u) = true := by kernel_rfl
        exact (show Tryd.prog.wantsStandIn t = false by simpa using List.all_eq_true.1 hall t hm)⟩)
    (by kernel_rfl)
#print axioms proved
end Go.Proofs.YtoffobakidenhaaDoor.signBindsTheIndex
