/- 'CalendarFiles': the texts of spans, written and read as a list, lead back to the spans: the law answers true, and the input reads as before. Conditions: none. The frame began as the text of proof-skeleton.mjs. -/
import Derived.Test.YtileofnjcediaaaDoorRows
import Derived.Test.YtileofnjcediaaaDoorJf
import Derived.ProofKit
import Derived.OpenShut
import Derived.ShutString
import Derived.ChangeOld
import Derived.Below
import Derived.SliceStrings
import Derived.Lay
import Derived.MakeChecks
import Derived.SevenTiedAt
import Derived.Handed
import Derived.Test.YtileofnjcediaaaDoorCards
import Derived.Test.YtileofnjcediaaaDoorTie
set_option linter.unusedSimpArgs false
set_option linter.unusedVariables false
namespace Go.Proofs.YtileofnjcediaaaDoor.calendarFiles
open Go.ChangeShapes Go.WideShapes Go.ChangeAt Go.RowKit Go.PM
open Go.ChangeMaps (open_string shut_string)

theorem own : ownKnob Tryd.prog.godebug = none := by kernel_rfl
theorem laidOut : laidOutB Tryd.prog = true := by kernel_rfl

theorem walk (a0 : Option Addr) (len0 cap0 : Nat) (z0 : List Int) (w : World)
    (hg : ∀ g, Rep w (fun b => b < w.heap.size) (globsM [1, 0] g) (.pointer (some (at_ g 0))))
    (w0 : IsRow .i64 w a0 len0 cap0 z0) :
    Calls Tryd.prog 11 #[.slice a0 len0 cap0] w fun e w' => e = .returned (.bool true) ∧ Below w.heap.size w w' := by
  refine calls_trueG (law11 (globsM [1, 0]) rfl rfl (z0.take len0) w0.rep.2.1 w0.rep.2.2) hg rfl fun i p hp => ?_
  match i, hp with
  | 0, hp => cases hp; exact ⟨_, rfl, w0.rep.1⟩
  | _ + 1, hp => cases hp

set_option maxRecDepth 100000 in
theorem laid_met {w : World} (h : laidMetH Tryd.prog [("wordbook/hash.constants", Rows.laid_wordbook_hash_constants), ("wordbook/calendar.lengths", Rows.laid_wordbook_calendar_lengths)] w) (g : Nat) : Rep w (fun b => b < w.heap.size) (globsM [1, 0] g) (.pointer (some (at_ g 0))) := by
  rw [MakeChecks.laidMetH_plain _ _ _ (by kernel_rfl)] at h
  refine globsM_rep _ (fun g hg => ?_) g
  simp only [List.mem_cons, List.not_mem_nil, or_false] at hg
  rcases hg with rfl | rfl
  · exact ks_rep (n := "wordbook/hash.constants") h (by rw [← show Rows.laid_wordbook_hash_constants (H := Unit) = Lib.tabData .u32 ksI by kernel_rfl]; exact .head _) (by kernel_rfl) (by kernel_rfl) Tryd.underlying96 Tryd.underlying78 (by kernel_rfl) (by kernel_rfl)
  · exact ln_rep (n := "wordbook/calendar.lengths") h (by rw [← show Rows.laid_wordbook_calendar_lengths (H := Unit) = Lib.tabData .i64 lnI by kernel_rfl]; exact .tail _ (.head _)) (by kernel_rfl) (by kernel_rfl) Tryd.underlying88 Tryd.underlying3 (by kernel_rfl) (by kernel_rfl)

set_option maxRecDepth 100000 in
theorem lifted (os : Os) (started : os.Started) (H : Type) (enc : TypeId × Value → H) :
    ReturnsInHanded {} Tryd.checked os 11 .any (fun w args => (Rows.calendarFilesSpec.pre enc Tryd.prog Tryd.f11 [] false w args ∧ laidMetH Tryd.prog [("wordbook/hash.constants", Rows.laid_wordbook_hash_constants), ("wordbook/calendar.lengths", Rows.laid_wordbook_calendar_lengths)] w) ∧ sizedMet enc Tryd.prog Tryd.f11 (OpenSpec.ofChange Rows.calendarFilesSpec) false w args) (Rows.calendarFilesSpec.post enc Tryd.prog Tryd.f11 false true false false) := by
  refine returnsInHanded_of_change_and (C := Tryd.checked) (X := fun w _ => laidMetH Tryd.prog [("wordbook/hash.constants", Rows.laid_wordbook_hash_constants), ("wordbook/calendar.lengths", Rows.laid_wordbook_calendar_lengths)] w) (fun _ _ _ hh h => h.of_heap hh) own started (by kernel_rfl) Tryd.func11
    (ChangeSpec.witness_shaped (enc := enc) (C := Tryd.checked) (os := os) (X := fun w _ => laidMetH Tryd.prog [("wordbook/hash.constants", Rows.laid_wordbook_hash_constants), ("wordbook/calendar.lengths", Rows.laid_wordbook_calendar_lengths)] w) false (World.laidAll Tryd.prog os [("wordbook/hash.constants", Rows.laid_wordbook_hash_constants), ("wordbook/calendar.lengths", Rows.laid_wordbook_calendar_lengths)]) #[.slice none 0 0] 8 (World.laidAll_os _ _ _)
      (World.shaped_of_ZipB (by kernel_rfl) (by kernel_rfl)) (by kernel_rfl) (by kernel_rfl) (by kernel_rfl)
      (by rw [MakeChecks.laidMetH_plain _ _ _ (by kernel_rfl)]; exact laidMet_laidAll _ (by kernel_rfl) (by kernel_rfl))) ?_
  intro W base args ds gs before hval0 hW _ _ hL _
  have hval : ∀ (j : Nat) t v, Tryd.f11.params[j]? = some t → args[j]? = some v → Value.okWide Tryd.prog W .any base t v := hval0
  have hW' := hW
  obtain ⟨p, q, hA0, hV, rfl, hfz, hnd⟩ := hW
  have hA : DataW.TrodAll enc Tryd.prog W 0 (fun _ => true) true Tryd.f11.params.toList args.toList ds p := hA0
  rw [Tryd.params11] at hA hval
  obtain ⟨v0, vs0, d0, ds0, p0, q0, hargs, rfl, rfl, h0, r0⟩ := trodAll_cons hA
  obtain ⟨rfl, rfl, rfl⟩ := trodAll_nil r0
  obtain rfl : args = #[v0] := by cases args; simp_all
  obtain ⟨rfl, rfl⟩ := trodVars_none hV
  obtain ⟨a0, len0, cap0, rfl⟩ := okWide_slice Tryd.underlying41 (hval 0 41 v0 rfl rfl)
  have k0 := h0
  have lt0 : ∀ x ∈ p0, x.block < W.heap.size := by obtain ⟨m, hm⟩ := k0; exact DataW.trod_lt m _ _ _ hm
  obtain ⟨z0, w0⟩ : ∃ zs, IsRow .i64 W a0 len0 cap0 zs := by
    obtain ⟨fuel, hf⟩ := h0
    rcases open_ints Tryd.underlying41 Tryd.underlying3 (by kernel_rfl) hf with ⟨hcs, _⟩ | ⟨x, l, c, zs, hcs, _, hl, hm, hz, _, hcell, hwz⟩
    · simp [Value.cells] at hcs
      obtain ⟨rfl, rfl, rfl⟩ := hcs
      exact ⟨[], .inl ⟨rfl, rfl, rfl, rfl⟩⟩
    · simp [Value.cells] at hcs
      obtain ⟨rfl, rfl, rfl⟩ := hcs
      exact ⟨zs, .inr ⟨_, rfl, hl, hm, by simpa using hz, hcell, hwz⟩⟩
  clear hA0 hval0
  refine (walk a0 len0 cap0 z0 W (laid_met hL) w0).mono fun e W' ⟨he, bel⟩ => ?_
  subst he
  exact ⟨_, rfl, _, _, _, [], _, [], hW', trodAll_mk1 (shut_bool Tryd.underlying4 _), (trodAll_cons_mk (Below.trod laidOut (by kernel_rfl) (of_decide_eq_true (by kernel_rfl)) k0 bel lt0) trodAll_mk0), rfl, bel.frame _, fun h => by cases h⟩

theorem over : Rows.calendarFilesRow.holds Tryd.pinned (OpenSpec.ofChange Rows.calendarFilesSpec) :=
  OpenClaim.holds_of_wide 11 Tryd.f11 rfl rfl rfl rfl rfl rfl rfl ⟨rfl, rfl, rfl, rfl, rfl⟩ rfl rfl rfl rfl rfl (by kernel_rfl) Tryd.func11 (by kernel_rfl)
    (of_decide_eq_true (by kernel_rfl)) (by unfold Func.isWrapper; first | (rw [if_pos (by decide +kernel)]; kernel_rfl) | (rw [if_neg (by decide +kernel)]; exact ⟨rfl, rfl⟩))
    (fun os started H enc _ => lifted os started H enc)

theorem proved : Rows.CalendarFilesCardSaid :=
  Claim7.holds_tied_plain_at .later [] [.data, .data] true (true, "cadfabdd0eb38ca7a0b305edc15368bd54bf1c079f8ed2062915f3c46499014f") false over (fun _ h => by cases h) (by kernel_rfl) (fun _ h => by cases h) calendarFiles_row_tie rfl ⟨rfl, rfl⟩ (by kernel_rfl) rfl
    (fun f fn hf hfn => by
      obtain rfl : f = 11 := Option.some.inj ((show Tryd.prog.funcNamed "wordbook/wordbooklaw04.CalendarFiles" = some 11 by kernel_rfl).symm.trans hf) |>.symm
      obtain rfl : fn = Tryd.f11 := (Option.some.inj (Tryd.func11.symm.trans hfn)).symm
      exact ⟨by kernel_rfl, fun j t ht => by
        rw [Tryd.params11] at ht
        have hm : t ∈ [41] := by simpa using Array.mem_of_getElem? ht
        have hall : ([41].all fun u => !Tryd.prog.wantsStandIn u) = true := by kernel_rfl
        exact (show Tryd.prog.wantsStandIn t = false by simpa using List.all_eq_true.1 hall t hm)⟩)
    (by kernel_rfl)
#print axioms proved
end Go.Proofs.YtileofnjcediaaaDoor.calendarFiles
