/- Joined texts (Aa Ac Ad Ae Af Ag Ah Ai Aj Ak Al Am An Ao Ap Ar Bd): the machine, the contracts, the laws. Conditions: none but those that each names. -/
import Derived.Test.YthgaoncndnkcmaaDoorJb
set_option linter.unusedSimpArgs false
set_option linter.unusedVariables false
namespace Go.PM
@[reducible] def pn (k : Nat) : PV := pint .i64 k
/-- A letter. -/
structure Ltr where
  text : List UInt8
  base : Int
  mark : Int
  case_ : Int
  width : Int
  deriving DecidableEq, Inhabited
/-- The reserved bytes. -/
def resB : List UInt8 := [48, 49, 50, 51, 52, 53, 54, 55, 56, 57, 45, 35, 46, 124, 40, 41, 42, 63, 123, 125, 62, 47, 95, 126, 59, 58, 44, 61, 34, 64]
def okB (c : UInt8) : Bool := decide (33 ≤ c.toNat) && !resB.contains c
def plainB (s : List UInt8) : Bool := s.all okB && (decide (1 ≤ s.length) && decide (s.length ≤ 4))
/-- The letter with the number i can stand in an alphabet. -/
def okLtr (a : List Ltr) (i : Nat) (x : Ltr) : Bool :=
  plainB x.text && (decide (0 ≤ x.base) && decide (x.base < a.length) && decide ((a.getD x.base.toNat default).base = x.base) && decide (0 ≤ x.mark) && decide (x.mark ≤ 15) && decide (0 ≤ x.case_) && decide (x.case_ ≤ 1) && decide (1 ≤ x.width) && decide (x.width ≤ 1000)) &&
  (!(decide (x.base = i) && (decide (x.mark ≠ 0) || decide (x.case_ ≠ 0))))
/-- All letters but the first i can stand in it. -/
def okFrom (a : List Ltr) (i : Nat) : Bool := ((List.range a.length).drop i).all fun j => okLtr a j (a.getD j default)
def texts (a : List Ltr) : List (List UInt8) := a.map Ltr.text
def validF (a : List Ltr) : Bool := decide (1 ≤ a.length) && decide (a.length ≤ 60) && okFrom a 0 && decide (texts a).Nodup
theorem okFrom_step {a : List Ltr} {i : Nat} (h : i < a.length) : okFrom a i = (okLtr a i a[i] && okFrom a (i + 1)) := by
  unfold okFrom
  rw [List.drop_eq_getElem_cons (by simpa using h)]
  simp [List.getD_eq_getElem?_getD, h]
theorem okFrom_end {a : List Ltr} : okFrom a a.length = true := by
  unfold okFrom
  rw [List.drop_of_length_le (by simp)]
  rfl
/-- The map from texts to numbers, as it grows. -/
def insM (t : List UInt8) (i : Nat) : List (List UInt8 × Nat) → List (List UInt8 × Nat)
  | [] => [(t, i)]
  | e :: r => if e.1 = t then (t, i) :: r else e :: insM t i r
def growM : List (List UInt8) → Nat → List (List UInt8 × Nat) → List (List UInt8 × Nat)
  | [], _, m => m
  | t :: r, i, m => growM r (i + 1) (insM t i m)
@[reducible] def entsS (m : List (List UInt8 × Nat)) : List PV := m.map fun e => .ent (pstr e.1) (pn e.2)
/-- What lies in the map at a text. -/
def getM (t : List UInt8) : List (List UInt8 × Nat) → Option Nat
  | [] => none
  | e :: r => if e.1 = t then some e.2 else getM t r
theorem mfindS (t : List UInt8) : ∀ (m : List (List UInt8 × Nat)) (i : Nat), (getM t m = none ∧ mfind (.string (mk t)) (entsS m) i = some none ∧ ∀ k, entsS (insM t k m) = entsS m ++ [.ent (pstr t) (pn k)]) ∨
    (∃ j v, getM t m = some v ∧ mfind (.string (mk t)) (entsS m) i = some (some (i + j, pn v)) ∧ ∀ k, entsS (insM t k m) = (entsS m).set j (.ent (pstr t) (pn k)))
  | [], i => .inl ⟨rfl, rfl, fun k => rfl⟩
  | e :: r, i => by
    by_cases h : e.1 = t
    · refine .inr ⟨0, e.2, by simp [getM, h], ?_, fun k => by simp [insM, h]⟩
      simp [mfind, vsame, h]
    · have hb : (bl (mk t) == bl (mk e.1)) = false := by
        simp only [bl_mk]
        exact beq_eq_false_iff_ne.2 fun k => h k.symm
      rcases mfindS t r (i + 1) with ⟨h1, h2, h4⟩ | ⟨j, v, h1, h2, h3⟩
      · refine .inl ⟨by simp [getM, h, h1], ?_, fun k => ?_⟩
        · simp only [entsS, List.map_cons, mfind, vsame, hb]
          exact h2
        · simp only [insM, if_neg h, entsS, List.map_cons, List.cons_append] at h4 ⊢
          rw [h4 k]
      · refine .inr ⟨j + 1, v, by simp [getM, h, h1], ?_, fun k => ?_⟩
        · simp only [entsS, List.map_cons, mfind, vsame, hb]
          rw [show i + (j + 1) = i + 1 + j by omega]
          exact h2
        · simp only [insM, if_neg h, entsS, List.map_cons, List.set_cons_succ] at h3 ⊢
          rw [h3 k]
theorem insM_len (t : List UInt8) (i : Nat) (m : List (List UInt8 × Nat)) : (insM t i m).length = if t ∈ m.map Prod.fst then m.length else m.length + 1 := by
  induction m with
  | nil => simp [insM]
  | cons e r ih =>
    simp only [insM]
    by_cases h : e.1 = t
    · simp [h]
    · have h2 : ¬ t = e.1 := fun k => h k.symm
      simp only [if_neg h, List.length_cons, ih, List.map_cons, List.mem_cons, h2, false_or]
      split <;> rfl
theorem insM_keys (t : List UInt8) (i : Nat) (m : List (List UInt8 × Nat)) (s : List UInt8) : s ∈ (insM t i m).map Prod.fst ↔ s = t ∨ s ∈ m.map Prod.fst := by
  induction m with
  | nil => simp [insM]
  | cons e r ih =>
    simp only [insM]
    by_cases h : e.1 = t
    · simp [h]
    · simp only [if_neg h, List.map_cons, List.mem_cons, ih]
      constructor
      · rintro (h | h | h)
        · exact .inr (.inl h)
        · exact .inl h
        · exact .inr (.inr h)
      · rintro (h | h | h)
        · exact .inr (.inl h)
        · exact .inl h
        · exact .inr (.inr h)
theorem growM_len : ∀ (ts : List (List UInt8)) (i : Nat) (m : List (List UInt8 × Nat)), (growM ts i m).length ≤ m.length + ts.length ∧ ((growM ts i m).length = m.length + ts.length ↔ ts.Nodup ∧ ∀ t ∈ ts, t ∉ m.map Prod.fst)
  | [], i, m => by simp [growM]
  | t :: r, i, m => by
    obtain ⟨h1, h2⟩ := growM_len r (i + 1) (insM t i m)
    have h3 := insM_len t i m
    have h4 := insM_keys t i m
    simp only [growM, List.length_cons, List.nodup_cons, List.forall_mem_cons]
    by_cases h : t ∈ m.map Prod.fst
    · rw [if_pos h] at h3
      refine ⟨by omega, ⟨fun k => by omega, fun k => absurd h k.2.1⟩⟩
    · rw [if_neg h] at h3
      refine ⟨by omega, ?_⟩
      rw [show m.length + (r.length + 1) = (insM t i m).length + r.length by omega, h2]
      constructor
      · rintro ⟨k1, k2⟩
        refine ⟨⟨fun hr => k2 t hr ((h4 t).2 (.inl rfl)), k1⟩, h, fun s hs hm => k2 s hs ((h4 s).2 (.inr hm))⟩
      · rintro ⟨⟨k1, k2⟩, k3, k4⟩
        refine ⟨k2, fun s hs hm => ?_⟩
        rcases (h4 s).1 hm with rfl | hm
        · exact k1 hs
        · exact k4 s hs hm
theorem growM_snoc : ∀ (ts : List (List UInt8)) (i : Nat) (m : List (List UInt8 × Nat)) (t : List UInt8), growM (ts ++ [t]) i m = insM t (i + ts.length) (growM ts i m)
  | [], i, m, t => rfl
  | s :: r, i, m, t => by
    simp only [List.cons_append, growM, List.length_cons]
    rw [growM_snoc r (i + 1) (insM s i m) t]
    congr 1
    omega
end Go.PM

namespace Go.PM
open Go.Proofs
section
variable {P : Program} {G : Globs} {E : Amb} {A : Nat → Prop} {σ : PState} {a : Act} {w : World} {I : List Int}
theorem PCalls.nd {f : FuncId} {args : List PV} {Hin : Heap} {R : PV → Heap → Prop} (h : (names Hin).Nodup → PCalls P G f args Hin R) : PCalls P G f args Hin R :=
  fun w A F vals h1 h2 h3 => h h3 w A F vals h1 h2 h3
theorem W_nd {c : Code} {K : Exit → PState → Prop} (h : (names σ.heap).Nodup → W P G I c σ K) : W P G I c σ K :=
  fun E hE A a w hs => h hs.nodup E hE A a w hs
/-- A call to which the objects Hin are handed, wherever they stand. -/
theorem pcall_midn {fn : FuncId} {args : List PV} {R : PV → Heap → Prop} {d : Option Tmp} {K : PState → Prop} (front Hin back : Heap) (he : σ.heap = front ++ (Hin ++ back)) (hc : PCalls P G fn args Hin R)
    (hk : ∀ res Hout, R res Hout → (names (front ++ (Hout ++ back))).Nodup → K (PState.put ⟨σ.frame, front ++ (Hout ++ back)⟩ d res)) : @pcallI false P G σ d fn args ⟨K⟩ := by
  intro E A a w vals hs hsz hvals
  have nd : (names σ.heap).Nodup := hs.nodup
  rw [he] at nd
  simp only [names, List.map_append] at nd
  obtain ⟨n1, n2, n3⟩ := List.nodup_append.1 nd
  obtain ⟨n4, n5, n6⟩ := List.nodup_append.1 n2
  have hin : ∀ x ∈ Hin, x ∈ σ.heap := fun x hx => by rw [he]; exact List.mem_append_right _ (List.mem_append_left _ hx)
  have hrest : ∀ x ∈ front ++ back, x ∈ σ.heap ∧ x.1 ∉ names Hin := fun x hx => by
    rw [he]
    rcases List.mem_append.1 hx with h | h
    · exact ⟨List.mem_append_left _ h, fun hn => n3 _ (List.mem_map.2 ⟨_, h, rfl⟩) _ (List.mem_append_left _ hn) rfl⟩
    · exact ⟨List.mem_append_right _ (List.mem_append_right _ h), fun hn => n6 _ hn _ (List.mem_map.2 ⟨_, h, rfl⟩) rfl⟩
  have hrn : (names (front ++ back)).Nodup := by
    simp only [names, List.map_append]
    exact List.nodup_append.2 ⟨n1, n5, fun x hx y hy => n3 x hx y (List.mem_append_right _ hy)⟩
  refine (hc w A (names σ.heap ++ E.F) vals hs.lt hs.globs n4 (fun n o h => hs.objs n o (hin _ h)) (fun n o h b hb => ⟨(hs.own n o (hin _ h) b hb).1, (hs.own n o (hin _ h) b hb).2.1⟩) hsz hvals).mono ?_
  rintro e w' ⟨v, A', res, Hout, rfl, hR, hr, hs'⟩
  obtain ⟨hdis, hsim⟩ := hs.calledI (fun n h => List.mem_append.2 h) hin hrest hrn hs'
  have hperm : (front ++ (Hout ++ back)).Perm (Hout ++ (front ++ back)) := by
    rw [← List.append_assoc, ← List.append_assoc]
    exact List.Perm.append_right _ List.perm_append_comm
  have hsim2 : Sim G E A' ⟨σ.frame, front ++ (Hout ++ back)⟩ a w' := hsim.sub ⟨fun x hx => hperm.mem_iff.1 hx, (List.Perm.nodup_iff (List.Perm.map _ hperm)).2 hsim.nodup⟩
  exact ⟨v, _, A', rfl, hk res Hout hR hsim2.nodup, hsim2.put d hr, fun h => Bool.noConfusion h⟩
theorem pcall_mid {fn : FuncId} {args : List PV} {R : PV → Heap → Prop} {d : Option Tmp} {K : PState → Prop} (front Hin back : Heap) (he : σ.heap = front ++ (Hin ++ back)) (hc : PCalls P G fn args Hin R)
    (hk : ∀ res Hout, R res Hout → K (PState.put ⟨σ.frame, front ++ (Hout ++ back)⟩ d res)) : @pcallI false P G σ d fn args ⟨K⟩ :=
  pcall_midn front Hin back he hc fun res Hout h _ => hk res Hout h
end
theorem unb_pb (l : List UInt8) : List.map unb (List.map pbyte l) = l := bytes_unb l
theorem isB_pb (l : List UInt8) : (List.map pbyte l).all isByte = true := bytes_isByte l
/-- A builder that holds bytes. -/
@[reducible] def BS (b : Int) (bs : List UInt8) (H : Heap) : Prop :=
  (bs = [] ∧ H = [(b, ⟨70, false, 0, [.val (.pointer none), pnil]⟩)]) ∨ (bs ≠ [] ∧ ∃ r : Int, H = [(b, ⟨70, false, 0, [.ptr b 0, .row r 1 bs.length]⟩), (r, ⟨5, true, 1, bs.map pbyte⟩)])
attribute [local irreducible] W PCalls pcall pcallI WL
set_option maxRecDepth 100000 in
set_option maxHeartbeats 8000000 in
theorem writeStr_c (G : Globs) (b : Int) (bs s : List UInt8) (hs0 : s ≠ []) (hsl : s.length ≤ 1000000) (hbl : bs.length ≤ 1000000000) (Hin : Heap) (hH : BS b bs Hin) :
    PCalls Tryd.prog G 46 [.ptr b 0, pstr s] Hin (fun res H => res = .tuple [pint .i64 s.length, .val .nilIface] ∧ BS b (bs ++ s) H) := by
  have hpos : 0 < s.length := List.length_pos_iff.2 hs0
  rcases hH with ⟨rfl, rfl⟩ | ⟨hb0, r, rfl⟩
  · have c1 := copyCheck_c G b (.val (.pointer none)) pnil (.inl rfl)
    (refine PCalls_f Tryd.func46 rfl Tryd.ntmps46 Tryd.results46 (by simp) fun fin hfin => ?_; have hnm : True := trivial; simp (maxSteps := 2000000) (disch := omega) only [evb, evd, pbuiltin, constPV, pnck, seqK, blockK, scopeK, pbin, pun, ppick, plen, piaddr, pindex, pfield, pslice, pbound, pconv, pelems, pextract, pmm, PV.mem?, PV.one, PV.cells, pageq, peqs, peq1, pmakes, pstore, pbytes, pmark, pusd, pust, psrc, pkey, pnile, pcap, pgrow, List.set, Value.cells, ↓popG_eq, ↓pop.eq_1, ↓List.getElem?_map, ↓List.getElem?_cons_zero, ↓List.getElem?_cons_succ, Value.oneCell', Nat.reduceAdd, Nat.reduceMul, Nat.reduceSub, Nat.reduceLeDiff, Nat.reduceEqDiff, ↓reduceIte, ne_eq, reduceCtorEq, forall_const, exists_and_left, exists_eq_left', eq_self, Nat.reduceLT, Int.reduceLT, Int.reduceLE, Int.reduceToNat, Int.reduceAdd, Int.reduceSub, Int.reduceNeg, hnm, Tryd.tf0, Tryd.tf1, Tryd.tf3, Tryd.tf5, Tryd.tf9, Tryd.tf40, Tryd.teq45, Tryd.tf68, Tryd.tf70, Tryd.tf73, Tryd.teq94, Tryd.teq104, Tryd.teq113, Tryd.teq114, Tryd.call56])
    repeat' (first
    | (with_reducible apply W_seq_k; intro nx hnx)
    | (with_reducible first | apply W_block | apply W_scope)
    | (with_reducible refine W_prune 51 ?_; simp only [prb, Nat.reducePow, Nat.reduceDiv, Nat.reduceMod, Nat.reduceBEq]; with_reducible apply W_region_l)
    | ((first | (with_reducible apply WL_op; intro nx hnx) | with_reducible refine Ev_out ?_ | (with_reducible refine pfresh_k hnm fun nm hnm => ?_; (try simp only [fmb] at hnm)) | (with_reducible refine pborn_mu hnm fun nm hnm => ?_; (try simp only [fmb] at hnm))); try (simp (maxSteps := 2000000) (disch := omega) only [evb, evd, pbuiltin, constPV, pnck, seqK, blockK, scopeK, pbin, pun, ppick, plen, piaddr, pindex, pfield, pslice, pbound, pconv, pelems, pextract, pmm, PV.mem?, PV.one, PV.cells, pageq, peqs, peq1, pmakes, pstore, pbytes, pmark, pusd, pust, psrc, pkey, pnile, pcap, pgrow, List.set, Value.cells, ↓popG_eq, ↓pop.eq_1, ↓List.getElem?_map, ↓List.getElem?_cons_zero, ↓List.getElem?_cons_succ, Value.oneCell', Nat.reduceAdd, Nat.reduceMul, Nat.reduceSub, Nat.reduceLeDiff, Nat.reduceEqDiff, ↓reduceIte, ne_eq, reduceCtorEq, forall_const, exists_and_left, exists_eq_left', eq_self, Nat.reduceLT, Int.reduceLT, Int.reduceLE, Int.reduceToNat, Int.reduceAdd, Int.reduceSub, Int.reduceNeg, hnm, Tryd.tf0, Tryd.tf1, Tryd.tf3, Tryd.tf5, Tryd.tf9, Tryd.tf40, Tryd.teq45, Tryd.tf68, Tryd.tf70, Tryd.tf73, Tryd.teq94, Tryd.teq104, Tryd.teq113, Tryd.teq114, Tryd.call56]); repeat (refine And.intro (by omega) ?_))
    | ((with_reducible first | apply WL_nil | apply W_label | apply W_skip | apply W_exit | apply W_ret); try simp only [seqK, blockK, scopeK, ↓reduceIte, Nat.reduceEqDiff])
    | (with_reducible apply W_cond_k; intro _ _ ea eb; (simp only [condK, cob, opnd, constPV, Nat.reduceEqDiff, Nat.reduceLT, ↓reduceIte, hcb, reduceCtorEq, forall_const, ne_eq]); subst ea eb; first | (refine ⟨fun hc => ?_, fun hc => ?_⟩ <;> first | (exfalso; omega) | (exfalso; exact hc trivial) | skip) | skip)
    | (with_reducible apply hnx; clear hnx nx)
    | (with_reducible refine And.intro (by omega) ?_)
    | (with_reducible refine And.intro ?_ ?_)
    | ((refine pcall_mid [] _ [] rfl c1 ?_; rintro _ _ ⟨rfl, rfl⟩; refine Ev_in ?_))
    | (clear hnx nx; with_reducible apply hnx; clear hnx nx)
    | (clear hnx nx; clear hnx nx; with_reducible apply hnx; clear hnx nx)
    | (clear hnx nx; clear hnx nx; clear hnx nx; with_reducible apply hnx; clear hnx nx))
    refine hfin _ _ (Fin_ret2 rfl rfl (H := [(b, ⟨70, false, 0, [.ptr b 0, .row nm 1 s.length]⟩), (nm, ⟨5, true, 1, s.map pbyte⟩)]) ⟨?_, ?_⟩ ⟨?_, .inr ⟨by simpa using hs0, nm, rfl⟩⟩)
    · intro x hx
      simp only [List.mem_cons, List.not_mem_nil, or_false] at hx ⊢
      rcases hx with rfl | rfl
      · exact .inr rfl
      · exact .inl rfl
    · simp [names, hnm]
    · simp only [fr_getD_cons, Nat.reduceEqDiff, Nat.reduceLT, ↓reduceIte]
  · refine PCalls.nd fun nd => ?_
    have hne : (b = r) = False ∧ (r = b) = False := by
      simp only [names, List.map_cons, List.map_nil, List.nodup_cons, List.mem_cons, List.not_mem_nil, or_false] at nd
      exact ⟨eq_false nd.1, eq_false fun e => nd.1 e.symm⟩
    have c1 := copyCheck_c G b (.ptr b 0) (.row r 1 bs.length) (.inr rfl)
    (refine PCalls_f Tryd.func46 rfl Tryd.ntmps46 Tryd.results46 (by simp) fun fin hfin => ?_; have hnm : True := trivial; simp (maxSteps := 2000000) (disch := omega) only [evb, evd, pbuiltin, constPV, pnck, seqK, blockK, scopeK, pbin, pun, ppick, plen, piaddr, pindex, pfield, pslice, pbound, pconv, pelems, pextract, pmm, PV.mem?, PV.one, PV.cells, pageq, peqs, peq1, pmakes, pstore, pbytes, pmark, pusd, pust, psrc, pkey, pnile, pcap, pgrow, List.set, Value.cells, ↓popG_eq, ↓pop.eq_1, ↓List.getElem?_map, ↓List.getElem?_cons_zero, ↓List.getElem?_cons_succ, Value.oneCell', Nat.reduceAdd, Nat.reduceMul, Nat.reduceSub, Nat.reduceLeDiff, Nat.reduceEqDiff, ↓reduceIte, ne_eq, reduceCtorEq, forall_const, exists_and_left, exists_eq_left', eq_self, Nat.reduceLT, Int.reduceLT, Int.reduceLE, Int.reduceToNat, Int.reduceAdd, Int.reduceSub, Int.reduceNeg, hnm, Tryd.tf0, Tryd.tf1, Tryd.tf3, Tryd.tf5, Tryd.tf9, Tryd.tf40, Tryd.teq45, Tryd.tf68, Tryd.tf70, Tryd.tf73, Tryd.teq94, Tryd.teq104, Tryd.teq113, Tryd.teq114, Tryd.call56])
    repeat' (first
    | (with_reducible apply W_seq_k; intro nx hnx)
    | (with_reducible first | apply W_block | apply W_scope)
    | (with_reducible refine W_prune 51 ?_; simp only [prb, Nat.reducePow, Nat.reduceDiv, Nat.reduceMod, Nat.reduceBEq]; with_reducible apply W_region_l)
    | ((first | (with_reducible apply WL_op; intro nx hnx) | with_reducible refine Ev_out ?_ | (with_reducible refine pfresh_k hnm fun nm hnm => ?_; (try simp only [fmb] at hnm)) | (with_reducible refine pborn_mu hnm fun nm hnm => ?_; (try simp only [fmb] at hnm))); try (simp (maxSteps := 2000000) (disch := omega) only [evb, evd, pbuiltin, constPV, pnck, seqK, blockK, scopeK, pbin, pun, ppick, plen, piaddr, pindex, pfield, pslice, pbound, pconv, pelems, pextract, pmm, PV.mem?, PV.one, PV.cells, pageq, peqs, peq1, pmakes, pstore, pbytes, pmark, pusd, pust, psrc, pkey, pnile, pcap, pgrow, List.set, Value.cells, ↓popG_eq, ↓pop.eq_1, ↓List.getElem?_map, ↓List.getElem?_cons_zero, ↓List.getElem?_cons_succ, Value.oneCell', Nat.reduceAdd, Nat.reduceMul, Nat.reduceSub, Nat.reduceLeDiff, Nat.reduceEqDiff, ↓reduceIte, ne_eq, reduceCtorEq, forall_const, exists_and_left, exists_eq_left', eq_self, Nat.reduceLT, Int.reduceLT, Int.reduceLE, Int.reduceToNat, Int.reduceAdd, Int.reduceSub, Int.reduceNeg, hnm, Tryd.tf0, Tryd.tf1, Tryd.tf3, Tryd.tf5, Tryd.tf9, Tryd.tf40, Tryd.teq45, Tryd.tf68, Tryd.tf70, Tryd.tf73, Tryd.teq94, Tryd.teq104, Tryd.teq113, Tryd.teq114, Tryd.call56, hne]); repeat (refine And.intro (by omega) ?_))
    | ((with_reducible first | apply WL_nil | apply W_label | apply W_skip | apply W_exit | apply W_ret); try simp only [seqK, blockK, scopeK, ↓reduceIte, Nat.reduceEqDiff])
    | (with_reducible apply W_cond_k; intro _ _ ea eb; (simp only [condK, cob, opnd, constPV, Nat.reduceEqDiff, Nat.reduceLT, ↓reduceIte, hcb, reduceCtorEq, forall_const, ne_eq]); subst ea eb; first | (refine ⟨fun hc => ?_, fun hc => ?_⟩ <;> first | (exfalso; omega) | (exfalso; exact hc trivial) | skip) | skip)
    | (with_reducible apply hnx; clear hnx nx)
    | (with_reducible refine And.intro (by omega) ?_)
    | (with_reducible refine And.intro ?_ ?_)
    | ((refine pcall_mid [] [_] [_] rfl c1 ?_; rintro _ _ ⟨rfl, rfl⟩; refine Ev_in ?_))
    | (clear hnx nx; with_reducible apply hnx; clear hnx nx)
    | (clear hnx nx; clear hnx nx; with_reducible apply hnx; clear hnx nx)
    | (clear hnx nx; clear hnx nx; clear hnx nx; with_reducible apply hnx; clear hnx nx))
    have e1 : (bs ++ s).map pbyte = bs.map pbyte ++ bytes s := by rw [List.map_append]; rfl
    have e2 : (bs ++ s).length = bs.length + s.length := List.length_append
    refine hfin _ _ (Fin_ret2 rfl rfl (H := [(b, ⟨70, false, 0, [.ptr b 0, .row nm 1 (bs ++ s).length]⟩), (nm, ⟨5, true, 1, (bs ++ s).map pbyte⟩)]) ⟨?_, ?_⟩ ⟨?_, .inr ⟨by simp [hb0], nm, rfl⟩⟩)
    · intro x hx
      rw [e1, e2] at hx
      simp only [List.mem_cons, List.not_mem_nil, or_false] at hx ⊢
      rcases hx with rfl | rfl
      · exact .inr rfl
      · exact .inl rfl
    · simp [names, hnm]
    · simp only [fr_getD_cons, Nat.reduceEqDiff, Nat.reduceLT, ↓reduceIte]
set_option maxRecDepth 100000 in
set_option maxHeartbeats 8000000 in
theorem string_c (G : Globs) (b : Int) (bs : List UInt8) (hbl : bs.length ≤ 1000000000) (Hin : Heap) (hH : BS b bs Hin) : PCalls Tryd.prog G 47 [.ptr b 0] Hin (fun res H => res = pstr bs ∧ H = []) := by
  rcases hH with ⟨rfl, rfl⟩ | ⟨hb0, r, rfl⟩
  · (refine PCalls_f Tryd.func47 rfl Tryd.ntmps47 Tryd.results47 (by simp) fun fin hfin => ?_; have hnm : True := trivial; simp (maxSteps := 2000000) (disch := omega) only [evb, evd, pbuiltin, constPV, pnck, seqK, blockK, scopeK, pbin, pun, ppick, plen, piaddr, pindex, pfield, pslice, pbound, pconv, pelems, pextract, pmm, PV.mem?, PV.one, PV.cells, pageq, peqs, peq1, pmakes, pstore, pbytes, pmark, pusd, pust, psrc, pkey, pnile, pcap, pgrow, List.set, Value.cells, ↓popG_eq, ↓pop.eq_1, ↓List.getElem?_map, ↓List.getElem?_cons_zero, ↓List.getElem?_cons_succ, Value.oneCell', Nat.reduceAdd, Nat.reduceMul, Nat.reduceSub, Nat.reduceLeDiff, Nat.reduceEqDiff, ↓reduceIte, ne_eq, reduceCtorEq, forall_const, exists_and_left, exists_eq_left', eq_self, Nat.reduceLT, Int.reduceLT, Int.reduceLE, Int.reduceToNat, Int.reduceAdd, Int.reduceSub, Int.reduceNeg, hnm, Tryd.tf0, Tryd.tf1, Tryd.tf3, Tryd.tf5, Tryd.tf9, Tryd.tf40, Tryd.teq45, Tryd.tf68, Tryd.tf70, Tryd.tf81, Tryd.teq94, Tryd.teq104, Tryd.teq113, Tryd.teq114])
    repeat' (first
    | (with_reducible apply W_seq_k; intro nx hnx)
    | (with_reducible first | apply W_block | apply W_scope)
    | (with_reducible refine W_prune 5 ?_; simp only [prb, Nat.reducePow, Nat.reduceDiv, Nat.reduceMod, Nat.reduceBEq]; first | (with_reducible apply W_region_l) | with_reducible refine W_region_draw (id := 1) 4 (.op 0 true (.op 1 true (.op 2 true (.op 3 true (.op 5 true (.op 6 true (.op 7 true (.op 8 true (.op 9 true (.op 4 true (.op 10 false (.op 11 true (.done))))))))))))) (by kernel_rfl) ?_)
    | ((first | (with_reducible apply WL_op; intro nx hnx) | with_reducible refine Ev_out ?_ | (with_reducible apply popsD_op; intro nx hnx) | (with_reducible refine popsD_alt ?_ ?_; intro nx hnx)); try (simp (maxSteps := 2000000) (disch := omega) only [evb, evd, pbuiltin, constPV, pnck, seqK, blockK, scopeK, pbin, pun, ppick, plen, piaddr, pindex, pfield, pslice, pbound, pconv, pelems, pextract, pmm, PV.mem?, PV.one, PV.cells, pageq, peqs, peq1, pmakes, pstore, pbytes, pmark, pusd, pust, psrc, pkey, pnile, pcap, pgrow, List.set, Value.cells, ↓popG_eq, ↓pop.eq_1, ↓List.getElem?_map, ↓List.getElem?_cons_zero, ↓List.getElem?_cons_succ, Value.oneCell', Nat.reduceAdd, Nat.reduceMul, Nat.reduceSub, Nat.reduceLeDiff, Nat.reduceEqDiff, ↓reduceIte, ne_eq, reduceCtorEq, forall_const, exists_and_left, exists_eq_left', eq_self, Nat.reduceLT, Int.reduceLT, Int.reduceLE, Int.reduceToNat, Int.reduceAdd, Int.reduceSub, Int.reduceNeg, hnm, Tryd.tf0, Tryd.tf1, Tryd.tf3, Tryd.tf5, Tryd.tf9, Tryd.tf40, Tryd.teq45, Tryd.tf68, Tryd.tf70, Tryd.tf81, Tryd.teq94, Tryd.teq104, Tryd.teq113, Tryd.teq114]); repeat (refine And.intro (by omega) ?_))
    | ((with_reducible first | apply WL_nil | apply W_label | apply W_skip | apply W_exit | apply W_ret | apply popsD_done); try simp only [seqK, blockK, scopeK, ↓reduceIte, Nat.reduceEqDiff])
    | with_reducible exact popsD_stop
    | (with_reducible apply W_cond_k; intro _ _ ea eb; (simp only [condK, cob, opnd, constPV, Nat.reduceEqDiff, Nat.reduceLT, ↓reduceIte, hcb, reduceCtorEq, forall_const, ne_eq]); subst ea eb; first | (refine ⟨fun hc => ?_, fun hc => ?_⟩ <;> first | (exfalso; omega) | (exfalso; exact hc trivial) | skip) | skip)
    | (with_reducible apply hnx; clear hnx nx)
    | (with_reducible refine And.intro (by omega) ?_)
    | (with_reducible refine And.intro ?_ ?_)
    | (clear hnx nx; with_reducible apply hnx; clear hnx nx)
    | (clear hnx nx; clear hnx nx; with_reducible apply hnx; clear hnx nx)
    | (clear hnx nx; clear hnx nx; clear hnx nx; with_reducible apply hnx; clear hnx nx))
    (refine hfin _ _ (Fin_ret1 rfl (Sub_nil _) ?_); simp only [List.getD_cons_zero, List.getD_cons_succ, fr_getD_cons, fr_getD_nil, Nat.reduceEqDiff, Nat.reduceLT, ↓reduceIte]; first | trivial | exact ⟨rfl, by trivial⟩ | (simp; done) | (simp; omega))
  · refine PCalls.nd fun nd => ?_
    have hne : (b = r) = False ∧ (r = b) = False := by
      simp only [names, List.map_cons, List.map_nil, List.nodup_cons, List.mem_cons, List.not_mem_nil, or_false] at nd
      exact ⟨eq_false nd.1, eq_false fun e => nd.1 e.symm⟩
    have hpos : 0 < bs.length := List.length_pos_iff.2 hb0
    have u1 := unb_pb bs
    have u2 := isB_pb bs
    (refine PCalls_f Tryd.func47 rfl Tryd.ntmps47 Tryd.results47 (by simp) fun fin hfin => ?_; have hnm : True := trivial; simp (maxSteps := 2000000) (disch := omega) only [evb, evd, pbuiltin, constPV, pnck, seqK, blockK, scopeK, pbin, pun, ppick, plen, piaddr, pindex, pfield, pslice, pbound, pconv, pelems, pextract, pmm, PV.mem?, PV.one, PV.cells, pageq, peqs, peq1, pmakes, pstore, pbytes, pmark, pusd, pust, psrc, pkey, pnile, pcap, pgrow, List.set, Value.cells, ↓popG_eq, ↓pop.eq_1, ↓List.getElem?_map, ↓List.getElem?_cons_zero, ↓List.getElem?_cons_succ, Value.oneCell', Nat.reduceAdd, Nat.reduceMul, Nat.reduceSub, Nat.reduceLeDiff, Nat.reduceEqDiff, ↓reduceIte, ne_eq, reduceCtorEq, forall_const, exists_and_left, exists_eq_left', eq_self, Nat.reduceLT, Int.reduceLT, Int.reduceLE, Int.reduceToNat, Int.reduceAdd, Int.reduceSub, Int.reduceNeg, hnm, Tryd.tf0, Tryd.tf1, Tryd.tf3, Tryd.tf5, Tryd.tf9, Tryd.tf40, Tryd.teq45, Tryd.tf68, Tryd.tf70, Tryd.tf81, Tryd.teq94, Tryd.teq104, Tryd.teq113, Tryd.teq114])
    repeat' (first
    | (with_reducible apply W_seq_k; intro nx hnx)
    | (with_reducible first | apply W_block | apply W_scope)
    | (with_reducible refine W_prune 5 ?_; simp only [prb, Nat.reducePow, Nat.reduceDiv, Nat.reduceMod, Nat.reduceBEq]; first | (with_reducible apply W_region_l) | with_reducible refine W_region_draw (id := 1) 4 (.op 0 true (.op 1 true (.op 2 true (.op 3 true (.op 5 true (.op 6 true (.op 7 true (.op 8 true (.op 9 true (.op 4 true (.op 10 false (.op 11 true (.done))))))))))))) (by kernel_rfl) ?_)
    | ((first | (with_reducible apply WL_op; intro nx hnx) | with_reducible refine Ev_out ?_ | (with_reducible apply popsD_op; intro nx hnx) | (with_reducible refine popsD_alt ?_ ?_; intro nx hnx)); try (simp (maxSteps := 2000000) (disch := omega) only [evb, evd, pbuiltin, constPV, pnck, seqK, blockK, scopeK, pbin, pun, ppick, plen, piaddr, pindex, pfield, pslice, pbound, pconv, pelems, pextract, pmm, PV.mem?, PV.one, PV.cells, pageq, peqs, peq1, pmakes, pstore, pbytes, pmark, pusd, pust, psrc, pkey, pnile, pcap, pgrow, List.set, Value.cells, ↓popG_eq, ↓pop.eq_1, ↓List.getElem?_map, ↓List.getElem?_cons_zero, ↓List.getElem?_cons_succ, Value.oneCell', Nat.reduceAdd, Nat.reduceMul, Nat.reduceSub, Nat.reduceLeDiff, Nat.reduceEqDiff, ↓reduceIte, ne_eq, reduceCtorEq, forall_const, exists_and_left, exists_eq_left', eq_self, Nat.reduceLT, Int.reduceLT, Int.reduceLE, Int.reduceToNat, Int.reduceAdd, Int.reduceSub, Int.reduceNeg, hnm, Tryd.tf0, Tryd.tf1, Tryd.tf3, Tryd.tf5, Tryd.tf9, Tryd.tf40, Tryd.teq45, Tryd.tf68, Tryd.tf70, Tryd.tf81, Tryd.teq94, Tryd.teq104, Tryd.teq113, Tryd.teq114, hne, u1, u2, List.length_map]); repeat (refine And.intro (by omega) ?_))
    | ((with_reducible first | apply WL_nil | apply W_label | apply W_skip | apply W_exit | apply W_ret | apply popsD_done); try simp only [seqK, blockK, scopeK, ↓reduceIte, Nat.reduceEqDiff])
    | with_reducible exact popsD_stop
    | (with_reducible apply W_cond_k; intro _ _ ea eb; (simp only [condK, cob, opnd, constPV, Nat.reduceEqDiff, Nat.reduceLT, ↓reduceIte, hcb, reduceCtorEq, forall_const, ne_eq]); subst ea eb; first | (refine ⟨fun hc => ?_, fun hc => ?_⟩ <;> first | (exfalso; omega) | (exfalso; exact hc trivial) | skip) | skip)
    | (with_reducible apply hnx; clear hnx nx)
    | (with_reducible refine And.intro (by omega) ?_)
    | (with_reducible refine And.intro ?_ ?_)
    | (clear hnx nx; with_reducible apply hnx; clear hnx nx)
    | (clear hnx nx; clear hnx nx; with_reducible apply hnx; clear hnx nx)
    | (clear hnx nx; clear hnx nx; clear hnx nx; with_reducible apply hnx; clear hnx nx))
    all_goals first
      | (refine hfin _ _ (Fin_ret1 rfl (Sub_nil _) ?_); simp only [List.getD_cons_zero, List.getD_cons_succ, fr_getD_cons, fr_getD_nil, Nat.reduceEqDiff, Nat.reduceLT, ↓reduceIte]; first | trivial | exact ⟨rfl, by trivial⟩ | (simp; done) | (simp; omega))
      | exact (by kernel_rfl : Tryd.prog.cellsOf 5 = 1)
theorem indexByte_c (G : Globs) (s : List UInt8) (c : UInt8) : PCalls Tryd.prog G 58 [pstr s, pbyte c] [] (fun res H => res = pint .i64 (Lib.indexByte s c) ∧ H = []) :=
  PCalls_pure (P := Tryd.prog) (G := G) (f := 58) [.string (mk s), .int .u8 c.toNat] (.int .i64 (Lib.indexByte s c)) (fun w => by
    have := Tryd.strings_IndexByte (mk s) c.toNat w
    simpa [mk] using this)
end Go.PM

namespace Go.PM
open Go.Proofs
attribute [local irreducible] W PCalls pcall pcallI WL
set_option maxRecDepth 100000 in
set_option maxHeartbeats 8000000 in
theorem within_c (G : Globs) (n lo hi : Int) : PCalls Tryd.prog G 45 [pint .i64 n, pint .i64 lo, pint .i64 hi] [] (fun res H => res = pbool (decide (lo ≤ n) && decide (n ≤ hi)) ∧ H = []) := by
  by_cases h1 : lo ≤ n
  · by_cases h2 : n ≤ hi
    · (refine PCalls_f Tryd.func45 rfl Tryd.ntmps45 Tryd.results45 (by simp) fun fin hfin => ?_; have hnm : True := trivial; simp (maxSteps := 2000000) (disch := omega) only [evb, evd, pbuiltin, constPV, pnck, seqK, blockK, scopeK, pbin, pun, ppick, plen, piaddr, pindex, pfield, pslice, pbound, pconv, pelems, pextract, pmm, PV.mem?, PV.one, PV.cells, pageq, peqs, peq1, pmakes, pstore, pbytes, pmark, pusd, pust, psrc, pkey, pnile, pcap, pgrow, List.set, Value.cells, ↓popG_eq, ↓pop.eq_1, ↓List.getElem?_map, ↓List.getElem?_cons_zero, ↓List.getElem?_cons_succ, Value.oneCell', Nat.reduceAdd, Nat.reduceMul, Nat.reduceSub, Nat.reduceLeDiff, Nat.reduceEqDiff, ↓reduceIte, ne_eq, reduceCtorEq, forall_const, exists_and_left, exists_eq_left', eq_self, Nat.reduceLT, Int.reduceLT, Int.reduceLE, Int.reduceToNat, Int.reduceAdd, Int.reduceSub, Int.reduceNeg, hnm, Tryd.tf3, Tryd.tf4, Tryd.teq45, Tryd.teq94, Tryd.teq104, Tryd.teq113, Tryd.teq114])
      repeat' (first
    | (with_reducible apply W_seq_k; intro nx hnx)
    | (with_reducible first | apply W_block | apply W_scope)
    | (with_reducible refine W_prune 71 ?_; simp only [prb, Nat.reducePow, Nat.reduceDiv, Nat.reduceMod, Nat.reduceBEq]; with_reducible apply W_region_l)
    | ((first | (with_reducible apply WL_op; intro nx hnx) | with_reducible refine Ev_out ?_); try (simp (maxSteps := 2000000) (disch := omega) only [evb, evd, pbuiltin, constPV, pnck, seqK, blockK, scopeK, pbin, pun, ppick, plen, piaddr, pindex, pfield, pslice, pbound, pconv, pelems, pextract, pmm, PV.mem?, PV.one, PV.cells, pageq, peqs, peq1, pmakes, pstore, pbytes, pmark, pusd, pust, psrc, pkey, pnile, pcap, pgrow, List.set, Value.cells, ↓popG_eq, ↓pop.eq_1, ↓List.getElem?_map, ↓List.getElem?_cons_zero, ↓List.getElem?_cons_succ, Value.oneCell', Nat.reduceAdd, Nat.reduceMul, Nat.reduceSub, Nat.reduceLeDiff, Nat.reduceEqDiff, ↓reduceIte, ne_eq, reduceCtorEq, forall_const, exists_and_left, exists_eq_left', eq_self, Nat.reduceLT, Int.reduceLT, Int.reduceLE, Int.reduceToNat, Int.reduceAdd, Int.reduceSub, Int.reduceNeg, hnm, Tryd.tf3, Tryd.tf4, Tryd.teq45, Tryd.teq94, Tryd.teq104, Tryd.teq113, Tryd.teq114]); repeat (refine And.intro (by omega) ?_))
    | ((with_reducible first | apply WL_nil | apply W_label | apply W_skip | apply W_exit | apply W_ret); try simp only [seqK, blockK, scopeK, ↓reduceIte, Nat.reduceEqDiff])
    | (with_reducible apply pguard_intro <;> (intro hc; (try simp only [hcb, reduceCtorEq, forall_const, ne_eq] at hc); first | (exfalso; omega) | (exfalso; exact hc trivial) | refine Ev_in ?_))
    | (with_reducible apply W_cond_k; intro _ _ ea eb; (simp only [condK, cob, opnd, constPV, Nat.reduceEqDiff, Nat.reduceLT, ↓reduceIte, hcb, reduceCtorEq, forall_const, ne_eq]); subst ea eb; first | (refine ⟨fun hc => ?_, fun hc => ?_⟩ <;> first | (exfalso; omega) | (exfalso; exact hc trivial) | skip) | skip)
    | (with_reducible apply hnx; clear hnx nx)
    | (with_reducible refine And.intro (by omega) ?_)
    | (with_reducible refine And.intro ?_ ?_)
    | (clear hnx nx; with_reducible apply hnx; clear hnx nx)
    | (clear hnx nx; clear hnx nx; with_reducible apply hnx; clear hnx nx)
    | (clear hnx nx; clear hnx nx; clear hnx nx; with_reducible apply hnx; clear hnx nx))
      all_goals first
        | exact absurd trivial hc
        | (exfalso
           omega)
        | skip
      all_goals
        refine hfin _ _ (Fin_ret1 rfl (Sub_nil _) ?_); simp only [List.getD_cons_zero, List.getD_cons_succ, fr_getD_cons, fr_getD_nil, Nat.reduceEqDiff, Nat.reduceLT, ↓reduceIte]
        exact ⟨by simp [h1, h2], by trivial⟩
    · (refine PCalls_f Tryd.func45 rfl Tryd.ntmps45 Tryd.results45 (by simp) fun fin hfin => ?_; have hnm : True := trivial; simp (maxSteps := 2000000) (disch := omega) only [evb, evd, pbuiltin, constPV, pnck, seqK, blockK, scopeK, pbin, pun, ppick, plen, piaddr, pindex, pfield, pslice, pbound, pconv, pelems, pextract, pmm, PV.mem?, PV.one, PV.cells, pageq, peqs, peq1, pmakes, pstore, pbytes, pmark, pusd, pust, psrc, pkey, pnile, pcap, pgrow, List.set, Value.cells, ↓popG_eq, ↓pop.eq_1, ↓List.getElem?_map, ↓List.getElem?_cons_zero, ↓List.getElem?_cons_succ, Value.oneCell', Nat.reduceAdd, Nat.reduceMul, Nat.reduceSub, Nat.reduceLeDiff, Nat.reduceEqDiff, ↓reduceIte, ne_eq, reduceCtorEq, forall_const, exists_and_left, exists_eq_left', eq_self, Nat.reduceLT, Int.reduceLT, Int.reduceLE, Int.reduceToNat, Int.reduceAdd, Int.reduceSub, Int.reduceNeg, hnm, Tryd.tf3, Tryd.tf4, Tryd.teq45, Tryd.teq94, Tryd.teq104, Tryd.teq113, Tryd.teq114])
      repeat' (first
    | (with_reducible apply W_seq_k; intro nx hnx)
    | (with_reducible first | apply W_block | apply W_scope)
    | (with_reducible refine W_prune 71 ?_; simp only [prb, Nat.reducePow, Nat.reduceDiv, Nat.reduceMod, Nat.reduceBEq]; with_reducible apply W_region_l)
    | ((first | (with_reducible apply WL_op; intro nx hnx) | with_reducible refine Ev_out ?_); try (simp (maxSteps := 2000000) (disch := omega) only [evb, evd, pbuiltin, constPV, pnck, seqK, blockK, scopeK, pbin, pun, ppick, plen, piaddr, pindex, pfield, pslice, pbound, pconv, pelems, pextract, pmm, PV.mem?, PV.one, PV.cells, pageq, peqs, peq1, pmakes, pstore, pbytes, pmark, pusd, pust, psrc, pkey, pnile, pcap, pgrow, List.set, Value.cells, ↓popG_eq, ↓pop.eq_1, ↓List.getElem?_map, ↓List.getElem?_cons_zero, ↓List.getElem?_cons_succ, Value.oneCell', Nat.reduceAdd, Nat.reduceMul, Nat.reduceSub, Nat.reduceLeDiff, Nat.reduceEqDiff, ↓reduceIte, ne_eq, reduceCtorEq, forall_const, exists_and_left, exists_eq_left', eq_self, Nat.reduceLT, Int.reduceLT, Int.reduceLE, Int.reduceToNat, Int.reduceAdd, Int.reduceSub, Int.reduceNeg, hnm, Tryd.tf3, Tryd.tf4, Tryd.teq45, Tryd.teq94, Tryd.teq104, Tryd.teq113, Tryd.teq114]); repeat (refine And.intro (by omega) ?_))
    | ((with_reducible first | apply WL_nil | apply W_label | apply W_skip | apply W_exit | apply W_ret); try simp only [seqK, blockK, scopeK, ↓reduceIte, Nat.reduceEqDiff])
    | (with_reducible apply pguard_intro <;> (intro hc; (try simp only [hcb, reduceCtorEq, forall_const, ne_eq] at hc); first | (exfalso; omega) | (exfalso; exact hc trivial) | refine Ev_in ?_))
    | (with_reducible apply W_cond_k; intro _ _ ea eb; (simp only [condK, cob, opnd, constPV, Nat.reduceEqDiff, Nat.reduceLT, ↓reduceIte, hcb, reduceCtorEq, forall_const, ne_eq]); subst ea eb; first | (refine ⟨fun hc => ?_, fun hc => ?_⟩ <;> first | (exfalso; omega) | (exfalso; exact hc trivial) | skip) | skip)
    | (with_reducible apply hnx; clear hnx nx)
    | (with_reducible refine And.intro (by omega) ?_)
    | (with_reducible refine And.intro ?_ ?_)
    | (clear hnx nx; with_reducible apply hnx; clear hnx nx)
    | (clear hnx nx; clear hnx nx; with_reducible apply hnx; clear hnx nx)
    | (clear hnx nx; clear hnx nx; clear hnx nx; with_reducible apply hnx; clear hnx nx))
      all_goals first
        | exact absurd trivial hc
        | (exfalso
           omega)
        | skip
      all_goals
        refine hfin _ _ (Fin_ret1 rfl (Sub_nil _) ?_); simp only [List.getD_cons_zero, List.getD_cons_succ, fr_getD_cons, fr_getD_nil, Nat.reduceEqDiff, Nat.reduceLT, ↓reduceIte]
        exact ⟨by simp [h1, h2], by trivial⟩
  · (refine PCalls_f Tryd.func45 rfl Tryd.ntmps45 Tryd.results45 (by simp) fun fin hfin => ?_; have hnm : True := trivial; simp (maxSteps := 2000000) (disch := omega) only [evb, evd, pbuiltin, constPV, pnck, seqK, blockK, scopeK, pbin, pun, ppick, plen, piaddr, pindex, pfield, pslice, pbound, pconv, pelems, pextract, pmm, PV.mem?, PV.one, PV.cells, pageq, peqs, peq1, pmakes, pstore, pbytes, pmark, pusd, pust, psrc, pkey, pnile, pcap, pgrow, List.set, Value.cells, ↓popG_eq, ↓pop.eq_1, ↓List.getElem?_map, ↓List.getElem?_cons_zero, ↓List.getElem?_cons_succ, Value.oneCell', Nat.reduceAdd, Nat.reduceMul, Nat.reduceSub, Nat.reduceLeDiff, Nat.reduceEqDiff, ↓reduceIte, ne_eq, reduceCtorEq, forall_const, exists_and_left, exists_eq_left', eq_self, Nat.reduceLT, Int.reduceLT, Int.reduceLE, Int.reduceToNat, Int.reduceAdd, Int.reduceSub, Int.reduceNeg, hnm, Tryd.tf3, Tryd.tf4, Tryd.teq45, Tryd.teq94, Tryd.teq104, Tryd.teq113, Tryd.teq114])
    repeat' (first
    | (with_reducible apply W_seq_k; intro nx hnx)
    | (with_reducible first | apply W_block | apply W_scope)
    | (with_reducible refine W_prune 71 ?_; simp only [prb, Nat.reducePow, Nat.reduceDiv, Nat.reduceMod, Nat.reduceBEq]; with_reducible apply W_region_l)
    | ((first | (with_reducible apply WL_op; intro nx hnx) | with_reducible refine Ev_out ?_); try (simp (maxSteps := 2000000) (disch := omega) only [evb, evd, pbuiltin, constPV, pnck, seqK, blockK, scopeK, pbin, pun, ppick, plen, piaddr, pindex, pfield, pslice, pbound, pconv, pelems, pextract, pmm, PV.mem?, PV.one, PV.cells, pageq, peqs, peq1, pmakes, pstore, pbytes, pmark, pusd, pust, psrc, pkey, pnile, pcap, pgrow, List.set, Value.cells, ↓popG_eq, ↓pop.eq_1, ↓List.getElem?_map, ↓List.getElem?_cons_zero, ↓List.getElem?_cons_succ, Value.oneCell', Nat.reduceAdd, Nat.reduceMul, Nat.reduceSub, Nat.reduceLeDiff, Nat.reduceEqDiff, ↓reduceIte, ne_eq, reduceCtorEq, forall_const, exists_and_left, exists_eq_left', eq_self, Nat.reduceLT, Int.reduceLT, Int.reduceLE, Int.reduceToNat, Int.reduceAdd, Int.reduceSub, Int.reduceNeg, hnm, Tryd.tf3, Tryd.tf4, Tryd.teq45, Tryd.teq94, Tryd.teq104, Tryd.teq113, Tryd.teq114]); repeat (refine And.intro (by omega) ?_))
    | ((with_reducible first | apply WL_nil | apply W_label | apply W_skip | apply W_exit | apply W_ret); try simp only [seqK, blockK, scopeK, ↓reduceIte, Nat.reduceEqDiff])
    | (with_reducible apply pguard_intro <;> (intro hc; (try simp only [hcb, reduceCtorEq, forall_const, ne_eq] at hc); first | (exfalso; omega) | (exfalso; exact hc trivial) | refine Ev_in ?_))
    | (with_reducible apply W_cond_k; intro _ _ ea eb; (simp only [condK, cob, opnd, constPV, Nat.reduceEqDiff, Nat.reduceLT, ↓reduceIte, hcb, reduceCtorEq, forall_const, ne_eq]); subst ea eb; first | (refine ⟨fun hc => ?_, fun hc => ?_⟩ <;> first | (exfalso; omega) | (exfalso; exact hc trivial) | skip) | skip)
    | (with_reducible apply hnx; clear hnx nx)
    | (with_reducible refine And.intro (by omega) ?_)
    | (with_reducible refine And.intro ?_ ?_)
    | (clear hnx nx; with_reducible apply hnx; clear hnx nx)
    | (clear hnx nx; clear hnx nx; with_reducible apply hnx; clear hnx nx)
    | (clear hnx nx; clear hnx nx; clear hnx nx; with_reducible apply hnx; clear hnx nx))
    all_goals first
      | exact absurd trivial hc
      | (exfalso
         omega)
      | skip
    all_goals
      refine hfin _ _ (Fin_ret1 rfl (Sub_nil _) ?_); simp only [List.getD_cons_zero, List.getD_cons_succ, fr_getD_cons, fr_getD_nil, Nat.reduceEqDiff, Nat.reduceLT, ↓reduceIte]
      exact ⟨by simp [h1], by trivial⟩
theorem indexByte_iff (c : UInt8) : ∀ l : List UInt8, (0 ≤ Lib.indexByte l c ↔ l.contains c = true) ∧ -1 ≤ Lib.indexByte l c
  | [] => by simp [Lib.indexByte]
  | x :: r => by
    obtain ⟨h1, h2⟩ := indexByte_iff c r
    unfold Lib.indexByte
    by_cases hx : x = c
    · subst hx
      simp
    · have hb : (x == c) = false := by simpa using hx
      have hb2 : (c == x) = false := by simpa using fun e => hx (Eq.symm e)
      rw [hb]
      simp only [Bool.false_eq_true, if_false, List.contains_cons, hb2, Bool.false_or]
      split
      · rename_i h3
        have h3 : Lib.indexByte r c = -1 := by simpa using h3
        rw [← h1, h3]
        simp
      · rename_i h3
        have h3 : ¬ Lib.indexByte r c = -1 := by simpa using h3
        rw [← h1]
        omega
theorem okB_iff (c : UInt8) : okB c = (!(decide ((c.toNat : Int) < 33) || decide (0 ≤ Lib.indexByte resB c))) := by
  have := (indexByte_iff c resB).1
  unfold okB
  cases h : resB.contains c with
  | true =>
    have h2 := this.2 h
    simp [h2]
  | false =>
    have h2 : ¬ 0 ≤ Lib.indexByte resB c := fun k => by rw [this.1 k] at h; cases h
    by_cases h3 : 33 ≤ c.toNat
    · simp [h2, h3]
      omega
    · simp [h3]
      omega
set_option maxRecDepth 100000 in
set_option maxHeartbeats 8000000 in
theorem plain_c (G : Globs) (s : List UInt8) (hs : (s.length : Int) ≤ 9223372036854775807) : PCalls Tryd.prog G 51 [pstr s] [] (fun res H => res = pbool (plainB s) ∧ H = []) := by
  (refine PCalls_f Tryd.func51 rfl Tryd.ntmps51 Tryd.results51 (by simp) fun fin hfin => ?_; have hnm : True := trivial; simp (maxSteps := 2000000) (disch := omega) only [evb, evd, pbuiltin, constPV, pnck, seqK, blockK, scopeK, pbin, pun, ppick, plen, piaddr, pindex, pfield, pslice, pbound, pconv, pelems, pextract, pmm, PV.mem?, PV.one, PV.cells, pageq, peqs, peq1, pmakes, pstore, pbytes, pmark, pusd, pust, psrc, pkey, pnile, pcap, pgrow, List.set, Value.cells, ↓popG_eq, ↓pop.eq_1, ↓List.getElem?_map, ↓List.getElem?_cons_zero, ↓List.getElem?_cons_succ, Value.oneCell', Nat.reduceAdd, Nat.reduceMul, Nat.reduceSub, Nat.reduceLeDiff, Nat.reduceEqDiff, ↓reduceIte, ne_eq, reduceCtorEq, forall_const, exists_and_left, exists_eq_left', eq_self, Nat.reduceLT, Int.reduceLT, Int.reduceLE, Int.reduceToNat, Int.reduceAdd, Int.reduceSub, Int.reduceNeg, hnm, Tryd.tf3, Tryd.tf4, Tryd.tf5, Tryd.tf9, Tryd.teq45, Tryd.teq94, Tryd.teq104, Tryd.teq113, Tryd.teq114, Tryd.call58])
  repeat' (first
    | (with_reducible apply W_seq_k; intro nx hnx)
    | (with_reducible first | apply W_block | apply W_scope)
    | (with_reducible refine W_prune 109 ?_; simp only [prb, Nat.reducePow, Nat.reduceDiv, Nat.reduceMod, Nat.reduceBEq]; with_reducible apply W_region_l)
    | ((first | (with_reducible apply WL_op; intro nx hnx) | with_reducible refine Ev_out ?_); try (simp (maxSteps := 2000000) (disch := omega) only [evb, evd, pbuiltin, constPV, pnck, seqK, blockK, scopeK, pbin, pun, ppick, plen, piaddr, pindex, pfield, pslice, pbound, pconv, pelems, pextract, pmm, PV.mem?, PV.one, PV.cells, pageq, peqs, peq1, pmakes, pstore, pbytes, pmark, pusd, pust, psrc, pkey, pnile, pcap, pgrow, List.set, Value.cells, ↓popG_eq, ↓pop.eq_1, ↓List.getElem?_map, ↓List.getElem?_cons_zero, ↓List.getElem?_cons_succ, Value.oneCell', Nat.reduceAdd, Nat.reduceMul, Nat.reduceSub, Nat.reduceLeDiff, Nat.reduceEqDiff, ↓reduceIte, ne_eq, reduceCtorEq, forall_const, exists_and_left, exists_eq_left', eq_self, Nat.reduceLT, Int.reduceLT, Int.reduceLE, Int.reduceToNat, Int.reduceAdd, Int.reduceSub, Int.reduceNeg, hnm, Tryd.tf3, Tryd.tf4, Tryd.tf5, Tryd.tf9, Tryd.teq45, Tryd.teq94, Tryd.teq104, Tryd.teq113, Tryd.teq114, Tryd.call58]); repeat (refine And.intro (by omega) ?_))
    | ((with_reducible first | apply WL_nil | apply W_label | apply W_skip | apply W_exit | apply W_ret); try simp only [seqK, blockK, scopeK, ↓reduceIte, Nat.reduceEqDiff])
    | (with_reducible apply pguard_intro <;> (intro hc; (try simp only [hcb, reduceCtorEq, forall_const, ne_eq] at hc); first | (exfalso; omega) | (exfalso; exact hc trivial) | refine Ev_in ?_))
    | (with_reducible apply W_cond_k; intro _ _ ea eb; (simp only [condK, cob, opnd, constPV, Nat.reduceEqDiff, Nat.reduceLT, ↓reduceIte, hcb, reduceCtorEq, forall_const, ne_eq]); subst ea eb; first | (refine ⟨fun hc => ?_, fun hc => ?_⟩ <;> first | (exfalso; omega) | (exfalso; exact hc trivial) | skip) | skip)
    | (with_reducible apply hnx; clear hnx nx)
    | (with_reducible refine And.intro (by omega) ?_)
    | (with_reducible refine And.intro ?_ ?_)
    | (clear hnx nx; with_reducible apply hnx; clear hnx nx)
    | (clear hnx nx; clear hnx nx; with_reducible apply hnx; clear hnx nx)
    | (clear hnx nx; clear hnx nx; clear hnx nx; with_reducible apply hnx; clear hnx nx))
  refine W_loop_k (fun z τ => ∃ i : Nat, i ≤ s.length ∧ z = s.length - i ∧ plainB s = ((s.drop i).all okB && (decide (1 ≤ s.length) && decide (s.length ≤ 4))) ∧ τ = ⟨fr 28 [(6, pn i), (5, pint .i64 s.length), (0, pstr s)], []⟩) s.length
    ⟨fr 28 [(6, pn 0), (5, pint .i64 s.length), (0, pstr s)], []⟩ (by
    exact Wk_fr (by simp only [wkb, Nat.reduceEqDiff, Nat.reduceLT, ↓reduceIte, pn]) (Sub_nil _)) ⟨0, by omega, by omega, rfl, rfl⟩ ?_
  rintro z τ ⟨i, hi, rfl, hp, rfl⟩ lp hlp
  by_cases hil : i < s.length
  · rw [List.drop_eq_getElem_cons hil, List.all_cons, okB_iff, Bool.and_assoc] at hp
    have hget : s.getD i 0 = s[i] := by rw [List.getD_eq_getElem?_getD, List.getElem?_eq_getElem hil]; rfl
    have c1 : PCalls Tryd.prog G 58 [.val (.string ⟨#[48, 49, 50, 51, 52, 53, 54, 55, 56, 57, 45, 35, 46, 124, 40, 41, 42, 63, 123, 125, 62, 47, 95, 126, 59, 58, 44, 61, 34, 64]⟩), pbyte s[i]] [] _ := indexByte_c G resB s[i]
    generalize s[i] = c at *
    generalize Lib.indexByte resB c = k at *
    repeat' (first
    | (with_reducible apply W_seq_k; intro nx hnx)
    | (with_reducible first | apply W_block | apply W_scope)
    | (with_reducible refine W_prune 109 ?_; simp only [prb, Nat.reducePow, Nat.reduceDiv, Nat.reduceMod, Nat.reduceBEq]; with_reducible apply W_region_l)
    | ((first | (with_reducible apply WL_op; intro nx hnx) | with_reducible refine Ev_out ?_); try (simp (maxSteps := 2000000) (disch := omega) only [evb, evd, pbuiltin, constPV, pnck, seqK, blockK, scopeK, pbin, pun, ppick, plen, piaddr, pindex, pfield, pslice, pbound, pconv, pelems, pextract, pmm, PV.mem?, PV.one, PV.cells, pageq, peqs, peq1, pmakes, pstore, pbytes, pmark, pusd, pust, psrc, pkey, pnile, pcap, pgrow, List.set, Value.cells, ↓popG_eq, ↓pop.eq_1, ↓List.getElem?_map, ↓List.getElem?_cons_zero, ↓List.getElem?_cons_succ, Value.oneCell', Nat.reduceAdd, Nat.reduceMul, Nat.reduceSub, Nat.reduceLeDiff, Nat.reduceEqDiff, ↓reduceIte, ne_eq, reduceCtorEq, forall_const, exists_and_left, exists_eq_left', eq_self, Nat.reduceLT, Int.reduceLT, Int.reduceLE, Int.reduceToNat, Int.reduceAdd, Int.reduceSub, Int.reduceNeg, hnm, Tryd.tf3, Tryd.tf4, Tryd.tf5, Tryd.tf9, Tryd.teq45, Tryd.teq94, Tryd.teq104, Tryd.teq113, Tryd.teq114, Tryd.call58, hget]); repeat (refine And.intro (by omega) ?_))
    | ((with_reducible first | apply WL_nil | apply W_label | apply W_skip | apply W_exit | apply W_ret); try simp only [seqK, blockK, scopeK, ↓reduceIte, Nat.reduceEqDiff])
    | (with_reducible apply pguard_intro <;> (intro hc; (try simp only [hcb, reduceCtorEq, forall_const, ne_eq] at hc); first | (exfalso; omega) | (exfalso; exact hc trivial) | refine Ev_in ?_))
    | (with_reducible apply W_cond_k; intro _ _ ea eb; (simp only [condK, cob, opnd, constPV, Nat.reduceEqDiff, Nat.reduceLT, ↓reduceIte, hcb, reduceCtorEq, forall_const, ne_eq]); subst ea eb; first | (refine ⟨fun hc => ?_, fun hc => ?_⟩ <;> first | (exfalso; omega) | (exfalso; exact hc trivial) | skip) | skip)
    | (with_reducible apply hnx; clear hnx nx)
    | (with_reducible refine And.intro (by omega) ?_)
    | (with_reducible refine And.intro ?_ ?_)
    | (with_reducible refine pcall_k (c1) ?_; rintro _ _ ⟨rfl, rfl⟩ -; refine Ev_in ?_)
    | (clear hnx nx; with_reducible apply hnx; clear hnx nx)
    | (clear hnx nx; clear hnx nx; with_reducible apply hnx; clear hnx nx)
    | (clear hnx nx; clear hnx nx; clear hnx nx; with_reducible apply hnx; clear hnx nx))
    all_goals first
      | exact absurd trivial hc
      | (exfalso
         omega)
      | skip
    all_goals first
      | (rw [hp] at hfin
         refine hfin _ _ (Fin_ret1 rfl (Sub_nil _) ?_); simp only [List.getD_cons_zero, List.getD_cons_succ, fr_getD_cons, fr_getD_nil, Nat.reduceEqDiff, Nat.reduceLT, ↓reduceIte]
         exact ⟨by simp_all, by trivial⟩)
      | (refine hlp _ (s.length - (i + 1)) _ (by omega) ?_ ⟨i + 1, by omega, rfl, by simp_all, rfl⟩
         exact Wk_fr (by simp only [wkb, Nat.reduceEqDiff, Nat.reduceLT, ↓reduceIte, pn]) (Sub_nil _))
  · have hi2 : i = s.length := by omega
    subst hi2
    repeat' (first
    | (with_reducible apply W_seq_k; intro nx hnx)
    | (with_reducible first | apply W_block | apply W_scope)
    | (with_reducible refine W_prune 109 ?_; simp only [prb, Nat.reducePow, Nat.reduceDiv, Nat.reduceMod, Nat.reduceBEq]; with_reducible apply W_region_l)
    | ((first | (with_reducible apply WL_op; intro nx hnx) | with_reducible refine Ev_out ?_); try (simp (maxSteps := 2000000) (disch := omega) only [evb, evd, pbuiltin, constPV, pnck, seqK, blockK, scopeK, pbin, pun, ppick, plen, piaddr, pindex, pfield, pslice, pbound, pconv, pelems, pextract, pmm, PV.mem?, PV.one, PV.cells, pageq, peqs, peq1, pmakes, pstore, pbytes, pmark, pusd, pust, psrc, pkey, pnile, pcap, pgrow, List.set, Value.cells, ↓popG_eq, ↓pop.eq_1, ↓List.getElem?_map, ↓List.getElem?_cons_zero, ↓List.getElem?_cons_succ, Value.oneCell', Nat.reduceAdd, Nat.reduceMul, Nat.reduceSub, Nat.reduceLeDiff, Nat.reduceEqDiff, ↓reduceIte, ne_eq, reduceCtorEq, forall_const, exists_and_left, exists_eq_left', eq_self, Nat.reduceLT, Int.reduceLT, Int.reduceLE, Int.reduceToNat, Int.reduceAdd, Int.reduceSub, Int.reduceNeg, hnm, Tryd.tf3, Tryd.tf4, Tryd.tf5, Tryd.tf9, Tryd.teq45, Tryd.teq94, Tryd.teq104, Tryd.teq113, Tryd.teq114, Tryd.call58]); repeat (refine And.intro (by omega) ?_))
    | ((with_reducible first | apply WL_nil | apply W_label | apply W_skip | apply W_exit | apply W_ret); try simp only [seqK, blockK, scopeK, ↓reduceIte, Nat.reduceEqDiff])
    | (with_reducible apply pguard_intro <;> (intro hc; (try simp only [hcb, reduceCtorEq, forall_const, ne_eq] at hc); first | (exfalso; omega) | (exfalso; exact hc trivial) | refine Ev_in ?_))
    | (with_reducible apply W_cond_k; intro _ _ ea eb; (simp only [condK, cob, opnd, constPV, Nat.reduceEqDiff, Nat.reduceLT, ↓reduceIte, hcb, reduceCtorEq, forall_const, ne_eq]); subst ea eb; first | (refine ⟨fun hc => ?_, fun hc => ?_⟩ <;> first | (exfalso; omega) | (exfalso; exact hc trivial) | skip) | skip)
    | (with_reducible apply hnx; clear hnx nx)
    | (with_reducible refine And.intro (by omega) ?_)
    | (with_reducible refine And.intro ?_ ?_)
    | (clear hnx nx; with_reducible apply hnx; clear hnx nx)
    | (clear hnx nx; clear hnx nx; with_reducible apply hnx; clear hnx nx)
    | (clear hnx nx; clear hnx nx; clear hnx nx; with_reducible apply hnx; clear hnx nx))
    all_goals first
      | exact absurd trivial hc
      | (exfalso
         omega)
      | skip
    rw [List.drop_length] at hp
    rw [hp] at hfin
    all_goals
      refine hfin _ _ (Fin_ret1 rfl (Sub_nil _) ?_); simp only [List.getD_cons_zero, List.getD_cons_succ, fr_getD_cons, fr_getD_nil, Nat.reduceEqDiff, Nat.reduceLT, ↓reduceIte]
      refine ⟨?_, by trivial⟩
      cases s with
      | nil => simp_all
      | cons x r =>
        first
          | (simp_all; done)
          | (simp_all
             omega)
/-- Letters. -/
@[reducible] def ltP (x : Ltr) : PV := .agg [pstr x.text, pint .i64 x.base, pint .i64 x.mark, pint .i64 x.case_, pint .i64 x.width]
@[reducible] def ltsP (a : List Ltr) : PV := .list 5 (a.map ltP)
/-- A map comes back, or none. -/
@[reducible] def IdxR (a : List Ltr) (res : PV) (H : Heap) : Prop := (validF a = false ∧ res = .val (.map none) ∧ H = []) ∨ (validF a = true ∧ ∃ n : Int, res = .mp n ∧ H = [(n, ⟨54, false, 0, entsS (growM (texts a) 0 [])⟩)])
theorem okLtr_iff {a : List Ltr} {i : Nat} {x : Ltr} : okLtr a i x = true ↔ plainB x.text = true ∧ 0 ≤ x.base ∧ x.base < a.length ∧ (∀ h : x.base.toNat < a.length, a[x.base.toNat].base = x.base) ∧ 0 ≤ x.mark ∧ x.mark ≤ 15 ∧ 0 ≤ x.case_ ∧ x.case_ ≤ 1 ∧ 1 ≤ x.width ∧ x.width ≤ 1000 ∧ (x.base = i → x.mark = 0 ∧ x.case_ = 0) := by
  by_cases h : 0 ≤ x.base ∧ x.base < a.length
  · have hb : x.base.toNat < a.length := by omega
    have e : a.getD x.base.toNat default = a[x.base.toNat] := by rw [List.getD_eq_getElem?_getD, List.getElem?_eq_getElem hb]; rfl
    unfold okLtr
    rw [e]
    simp only [Bool.and_eq_true, Bool.not_eq_true', Bool.and_eq_false_iff, Bool.or_eq_false_iff, decide_eq_true_eq, decide_eq_false_iff_not, ne_eq, Decidable.not_not]
    constructor
    · rintro ⟨⟨k1, k2⟩, k3⟩
      refine ⟨k1, by omega, by omega, fun _ => by omega, by omega, by omega, by omega, by omega, by omega, by omega, by omega⟩
    · rintro ⟨k1, k2, k3, k4, k5, k6, k7, k8, k9, k10, k11⟩
      have k4 := k4 hb
      refine ⟨⟨k1, by omega⟩, by omega⟩
  · constructor
    · intro k
      unfold okLtr at k
      simp only [Bool.and_eq_true, decide_eq_true_eq] at k
      omega
    · rintro ⟨k1, k2, k3, k4, k5, k6, k7, k8, k9, k10, k11⟩
      omega
theorem validF_bad {a : List Ltr} (h : okFrom a 0 = false) : validF a = false := by simp [validF, h]
set_option maxRecDepth 100000 in
set_option maxHeartbeats 8000000 in
theorem index_c (G : Globs) (a : List Ltr) (ha : (a.length : Int) ≤ 9223372036854775807) (ht : ∀ x ∈ a, (x.text.length : Int) ≤ 9223372036854775807 ∧ (-9223372036854775808 ≤ x.mark ∧ x.mark ≤ 9223372036854775807) ∧ (-9223372036854775808 ≤ x.case_ ∧ x.case_ ≤ 9223372036854775807)) :
    PCalls Tryd.prog G 33 [ltsP a] [] (IdxR a) := by
  have w1 := within_c G a.length 1 60
  have w1 : PCalls Tryd.prog G 45 [pint .i64 a.length, .val (.int .i64 1), .val (.int .i64 60)] [] _ := w1
  (refine PCalls_f Tryd.func33 rfl Tryd.ntmps33 Tryd.results33 (by simp) fun fin hfin => ?_; have hnm : True := trivial; simp (maxSteps := 2000000) (disch := omega) only [evb, evd, pbuiltin, constPV, pnck, seqK, blockK, scopeK, pbin, pun, ppick, plen, piaddr, pindex, pfield, pslice, pbound, pconv, pelems, pextract, pmm, PV.mem?, PV.one, PV.cells, pageq, peqs, peq1, pmakes, pstore, pbytes, pmark, pusd, pust, psrc, pkey, pnile, pcap, pgrow, List.set, Value.cells, ↓popG_eq, ↓pop.eq_1, ↓List.getElem?_map, ↓List.getElem?_cons_zero, ↓List.getElem?_cons_succ, Value.oneCell', Nat.reduceAdd, Nat.reduceMul, Nat.reduceSub, Nat.reduceLeDiff, Nat.reduceEqDiff, ↓reduceIte, ne_eq, reduceCtorEq, forall_const, exists_and_left, exists_eq_left', eq_self, Nat.reduceLT, Int.reduceLT, Int.reduceLE, Int.reduceToNat, Int.reduceAdd, Int.reduceSub, Int.reduceNeg, hnm, Tryd.tf0, Tryd.tf1, Tryd.tf2, Tryd.tf3, Tryd.tf4, Tryd.tf9, Tryd.tf23, Tryd.tf45, Tryd.teq45, Tryd.tf54, Tryd.teq94, Tryd.teq104, Tryd.teq113, Tryd.teq114, Tryd.call45, Tryd.call51])
  repeat' (first
    | (with_reducible apply W_seq_k; intro nx hnx)
    | (with_reducible first | apply W_block | apply W_scope)
    | (with_reducible refine W_prune 57405 ?_; simp only [prb, Nat.reducePow, Nat.reduceDiv, Nat.reduceMod, Nat.reduceBEq]; first | (with_reducible apply W_region_l) | with_reducible refine W_region_draw (id := 7) 12 (.op 0 true (.op 1 true (.op 2 false (.op 3 true (.op 4 true (.op 5 true (.op 6 true (.op 7 true (.op 8 true (.op 9 true (.op 10 false (.op 11 true (.op 12 true (.op 13 true (.op 14 true (.op 15 true (.op 16 true (.op 17 true (.op 18 true (.op 19 true (.op 20 true (.op 21 true (.op 22 true (.op 23 true (.op 24 true (.op 25 true (.op 26 true (.op 27 false (.op 28 true (.op 29 true (.op 30 true (.op 31 true (.op 32 true (.op 33 false (.op 34 true (.op 35 true (.op 36 true (.op 37 true (.op 38 true (.op 39 false (.op 40 true (.op 41 true (.done))))))))))))))))))))))))))))))))))))))))))) (by kernel_rfl) ?_)
    | ((first | (with_reducible apply WL_op; intro nx hnx) | with_reducible refine Ev_out ?_ | (with_reducible apply popsD_op; intro nx hnx) | (with_reducible refine popsD_alt ?_ ?_; intro nx hnx) | (with_reducible refine pfresh_k hnm fun nm hnm => ?_; (try simp only [fmb] at hnm)) | (with_reducible refine pborn_mu hnm fun nm hnm => ?_; (try simp only [fmb] at hnm))); try (simp (maxSteps := 2000000) (disch := omega) only [evb, evd, pbuiltin, constPV, pnck, seqK, blockK, scopeK, pbin, pun, ppick, plen, piaddr, pindex, pfield, pslice, pbound, pconv, pelems, pextract, pmm, PV.mem?, PV.one, PV.cells, pageq, peqs, peq1, pmakes, pstore, pbytes, pmark, pusd, pust, psrc, pkey, pnile, pcap, pgrow, List.set, Value.cells, ↓popG_eq, ↓pop.eq_1, ↓List.getElem?_map, ↓List.getElem?_cons_zero, ↓List.getElem?_cons_succ, Value.oneCell', Nat.reduceAdd, Nat.reduceMul, Nat.reduceSub, Nat.reduceLeDiff, Nat.reduceEqDiff, ↓reduceIte, ne_eq, reduceCtorEq, forall_const, exists_and_left, exists_eq_left', eq_self, Nat.reduceLT, Int.reduceLT, Int.reduceLE, Int.reduceToNat, Int.reduceAdd, Int.reduceSub, Int.reduceNeg, hnm, Tryd.tf0, Tryd.tf1, Tryd.tf2, Tryd.tf3, Tryd.tf4, Tryd.tf9, Tryd.tf23, Tryd.tf45, Tryd.teq45, Tryd.tf54, Tryd.teq94, Tryd.teq104, Tryd.teq113, Tryd.teq114, Tryd.call45, Tryd.call51]); repeat (refine And.intro (by omega) ?_))
    | ((with_reducible first | apply WL_nil | apply W_label | apply W_skip | apply W_exit | apply W_ret | apply popsD_done); try simp only [seqK, blockK, scopeK, ↓reduceIte, Nat.reduceEqDiff])
    | with_reducible exact popsD_stop
    | (with_reducible apply pguard_intro <;> (intro hc; (try simp only [hcb, reduceCtorEq, forall_const, ne_eq] at hc); first | (exfalso; omega) | (exfalso; exact hc trivial) | refine Ev_in ?_))
    | (with_reducible apply W_cond_k; intro _ _ ea eb; (simp only [condK, cob, opnd, constPV, Nat.reduceEqDiff, Nat.reduceLT, ↓reduceIte, hcb, reduceCtorEq, forall_const, ne_eq]); subst ea eb; first | (refine ⟨fun hc => ?_, fun hc => ?_⟩ <;> first | (exfalso; omega) | (exfalso; exact hc trivial) | skip) | skip)
    | (with_reducible apply hnx; clear hnx nx)
    | (with_reducible refine And.intro (by omega) ?_)
    | (with_reducible refine And.intro ?_ ?_)
    | (with_reducible refine pcall_k (w1) ?_; rintro _ _ ⟨rfl, rfl⟩ -; refine Ev_in ?_)
    | (clear hnx nx; with_reducible apply hnx; clear hnx nx)
    | (clear hnx nx; clear hnx nx; with_reducible apply hnx; clear hnx nx)
    | (clear hnx nx; clear hnx nx; clear hnx nx; with_reducible apply hnx; clear hnx nx))
  all_goals first
    | exact absurd trivial hc
    | (exfalso
       omega)
    | skip
  · refine hfin _ _ (Fin_ret1 rfl (Sub_nil _) ?_); simp only [List.getD_cons_zero, List.getD_cons_succ, fr_getD_cons, fr_getD_nil, Nat.reduceEqDiff, Nat.reduceLT, ↓reduceIte]
    refine .inl ⟨?_, by trivial, by trivial⟩
    have : ¬ (1 ≤ a.length ∧ a.length ≤ 60) := by omega
    by_cases h1 : 1 ≤ a.length
    · have h2 : ¬ a.length ≤ 60 := fun h => this ⟨h1, h⟩
      simp [validF, h2]
    · simp [validF, h1]
  have hlen : 1 ≤ a.length ∧ a.length ≤ 60 := by omega
  have htl : (texts a).length = a.length := by simp [texts]
  generalize nm = mn at *
  refine W_loop_k (fun z τ => ∃ i : Nat, i ≤ a.length ∧ z = a.length - i ∧ okFrom a 0 = okFrom a i ∧ τ = ⟨fr 85 [(15, pn i), (14, pint .i64 a.length), (13, ltsP a), (3, .mp mn), (0, ltsP a)], [(mn, ⟨54, false, 0, entsS (growM ((texts a).take i) 0 [])⟩)]⟩) a.length
    ⟨fr 85 [(15, pn 0), (14, pint .i64 a.length), (13, ltsP a), (3, .mp mn), (0, ltsP a)], [(mn, ⟨54, false, 0, entsS (growM ((texts a).take 0) 0 [])⟩)]⟩ (by
    refine Wk_fr (by simp only [wkb, Nat.reduceEqDiff, Nat.reduceLT, ↓reduceIte, pn]) ?_
    exact Sub_refl (by simp [names])) ⟨0, by omega, by omega, rfl, rfl⟩ ?_
  rintro z τ ⟨i, hi, rfl, hok, rfl⟩ lp hlp
  by_cases hil : i < a.length
  · rw [okFrom_step hil] at hok
    obtain ⟨t1, t2, t3⟩ := ht a[i] (List.getElem_mem hil)
    have hsnoc : growM ((texts a).take (i + 1)) 0 [] = insM a[i].text i (growM ((texts a).take i) 0 []) := by
      rw [List.take_add_one, List.getElem?_eq_getElem (by omega)]
      simp only [Option.toList_some]
      rw [growM_snoc, List.length_take, Nat.min_eq_left (by omega)]
      simp [texts]
    have hfind := mfindS a[i].text (growM ((texts a).take i) 0 []) 0
    have hget : a[i]? = some a[i] := List.getElem?_eq_getElem hil
    have hx : okLtr a i a[i] = true ∨ okLtr a i a[i] = false := by cases okLtr a i a[i] <;> simp
    have c1 := plain_c G a[i].text t1
    have c2 := within_c G a[i].base 0 (a.length - 1)
    have c3 := within_c G a[i].mark 0 15
    have c4 := within_c G a[i].case_ 0 1
    have c5 := within_c G a[i].width 1 1000
    have c2 : PCalls Tryd.prog G 45 [pint .i64 a[i].base, .val (.int .i64 0), pint .i64 (a.length - 1)] [] _ := c2
    have c3 : PCalls Tryd.prog G 45 [pint .i64 a[i].mark, .val (.int .i64 0), .val (.int .i64 15)] [] _ := c3
    have c4 : PCalls Tryd.prog G 45 [pint .i64 a[i].case_, .val (.int .i64 0), .val (.int .i64 1)] [] _ := c4
    have c5 : PCalls Tryd.prog G 45 [pint .i64 a[i].width, .val (.int .i64 1), .val (.int .i64 1000)] [] _ := c5
    repeat' (first
    | (with_reducible apply W_seq_k; intro nx hnx)
    | (with_reducible first | apply W_block | apply W_scope)
    | (with_reducible refine W_prune 57405 ?_; simp only [prb, Nat.reducePow, Nat.reduceDiv, Nat.reduceMod, Nat.reduceBEq]; first | (with_reducible apply W_region_l) | with_reducible refine W_region_draw (id := 7) 12 (.op 0 true (.op 1 true (.op 2 false (.op 3 true (.op 4 true (.op 5 true (.op 6 true (.op 7 true (.op 8 true (.op 9 true (.op 10 false (.op 11 true (.op 12 true (.op 13 true (.op 14 true (.op 15 true (.op 16 true (.op 17 true (.op 18 true (.op 19 true (.op 20 true (.op 21 true (.op 22 true (.op 23 true (.op 24 true (.op 25 true (.op 26 true (.op 27 false (.op 28 true (.op 29 true (.op 30 true (.op 31 true (.op 32 true (.op 33 false (.op 34 true (.op 35 true (.op 36 true (.op 37 true (.op 38 true (.op 39 false (.op 40 true (.op 41 true (.done))))))))))))))))))))))))))))))))))))))))))) (by kernel_rfl) ?_)
    | ((first | (with_reducible apply WL_op; intro nx hnx) | with_reducible refine Ev_out ?_ | (with_reducible apply popsD_op; intro nx hnx) | (with_reducible refine popsD_alt ?_ ?_; intro nx hnx) | (with_reducible refine pfresh_k hnm fun nm hnm => ?_; (try simp only [fmb] at hnm)) | (with_reducible refine pborn_mu hnm fun nm hnm => ?_; (try simp only [fmb] at hnm))); try (simp (maxSteps := 2000000) (disch := omega) only [evb, evd, pbuiltin, constPV, pnck, seqK, blockK, scopeK, pbin, pun, ppick, plen, piaddr, pindex, pfield, pslice, pbound, pconv, pelems, pextract, pmm, PV.mem?, PV.one, PV.cells, pageq, peqs, peq1, pmakes, pstore, pbytes, pmark, pusd, pust, psrc, pkey, pnile, pcap, pgrow, List.set, Value.cells, ↓popG_eq, ↓pop.eq_1, ↓List.getElem?_map, ↓List.getElem?_cons_zero, ↓List.getElem?_cons_succ, Value.oneCell', Nat.reduceAdd, Nat.reduceMul, Nat.reduceSub, Nat.reduceLeDiff, Nat.reduceEqDiff, ↓reduceIte, ne_eq, reduceCtorEq, forall_const, exists_and_left, exists_eq_left', eq_self, Nat.reduceLT, Int.reduceLT, Int.reduceLE, Int.reduceToNat, Int.reduceAdd, Int.reduceSub, Int.reduceNeg, hnm, Tryd.tf0, Tryd.tf1, Tryd.tf2, Tryd.tf3, Tryd.tf4, Tryd.tf9, Tryd.tf23, Tryd.tf45, Tryd.teq45, Tryd.tf54, Tryd.teq94, Tryd.teq104, Tryd.teq113, Tryd.teq114, Tryd.call45, Tryd.call51, hget]); repeat (refine And.intro (by omega) ?_))
    | ((with_reducible first | apply WL_nil | apply W_label | apply W_skip | apply W_exit | apply W_ret | apply popsD_done); try simp only [seqK, blockK, scopeK, ↓reduceIte, Nat.reduceEqDiff])
    | with_reducible exact popsD_stop
    | (with_reducible apply pguard_intro <;> (intro hc; (try simp only [hcb, reduceCtorEq, forall_const, ne_eq] at hc); first | (exfalso; omega) | (exfalso; exact hc trivial) | refine Ev_in ?_))
    | (with_reducible apply W_cond_k; intro _ _ ea eb; (simp only [condK, cob, opnd, constPV, Nat.reduceEqDiff, Nat.reduceLT, ↓reduceIte, hcb, reduceCtorEq, forall_const, ne_eq]); subst ea eb; first | (refine ⟨fun hc => ?_, fun hc => ?_⟩ <;> first | (exfalso; omega) | (exfalso; exact hc trivial) | skip) | skip)
    | (with_reducible apply hnx; clear hnx nx)
    | (with_reducible refine And.intro (by omega) ?_)
    | (with_reducible refine And.intro ?_ ?_)
    | (with_reducible refine pcall_k (c1) ?_; rintro _ _ ⟨rfl, rfl⟩ -; refine Ev_in ?_)
    | (with_reducible refine pcall_k (c2) ?_; rintro _ _ ⟨rfl, rfl⟩ -; refine Ev_in ?_)
    | (with_reducible refine pcall_k (c3) ?_; rintro _ _ ⟨rfl, rfl⟩ -; refine Ev_in ?_)
    | (with_reducible refine pcall_k (c4) ?_; rintro _ _ ⟨rfl, rfl⟩ -; refine Ev_in ?_)
    | (with_reducible refine pcall_k (c5) ?_; rintro _ _ ⟨rfl, rfl⟩ -; refine Ev_in ?_)
    | (clear hnx nx; with_reducible apply hnx; clear hnx nx)
    | (clear hnx nx; clear hnx nx; with_reducible apply hnx; clear hnx nx)
    | (clear hnx nx; clear hnx nx; clear hnx nx; with_reducible apply hnx; clear hnx nx))
    all_goals first
      | (refine hfin _ _ (Fin_ret1 rfl (Sub_nil _) ?_); simp only [List.getD_cons_zero, List.getD_cons_succ, fr_getD_cons, fr_getD_nil, Nat.reduceEqDiff, Nat.reduceLT, ↓reduceIte]
         refine .inl ⟨?_, by trivial, by trivial⟩
         apply validF_bad
         rw [hok]
         cases hx2 : okLtr a i a[i] with
         | false => rfl
         | true =>
           exfalso
           obtain ⟨k1, k2, k3, k4, k5, k6, k7, k8, k9, k10, k11⟩ := okLtr_iff.1 hx2
           first
             | (simp_all; done)
             | (have hb : a[i].base.toNat < a.length := by omega
                have k4 := k4 hb
                omega))
      | skip
    all_goals
      have hx2 : okLtr a i a[i] = true := by
        rw [okLtr_iff]
        refine ⟨by assumption, by omega, by omega, fun hb => by assumption, by omega, by omega, by omega, by omega, by omega, by omega, by omega⟩
      rw [hx2, Bool.true_and] at hok
      rcases hfind with ⟨g1, g2, g3⟩ | ⟨j, v, g1, g2, g3⟩
      all_goals
        simp only [g2, Nat.zero_add]
        repeat' (first
    | (with_reducible apply W_seq_k; intro nx hnx)
    | (with_reducible first | apply W_block | apply W_scope)
    | (with_reducible refine W_prune 57405 ?_; simp only [prb, Nat.reducePow, Nat.reduceDiv, Nat.reduceMod, Nat.reduceBEq]; first | (with_reducible apply W_region_l) | with_reducible refine W_region_draw (id := 7) 12 (.op 0 true (.op 1 true (.op 2 false (.op 3 true (.op 4 true (.op 5 true (.op 6 true (.op 7 true (.op 8 true (.op 9 true (.op 10 false (.op 11 true (.op 12 true (.op 13 true (.op 14 true (.op 15 true (.op 16 true (.op 17 true (.op 18 true (.op 19 true (.op 20 true (.op 21 true (.op 22 true (.op 23 true (.op 24 true (.op 25 true (.op 26 true (.op 27 false (.op 28 true (.op 29 true (.op 30 true (.op 31 true (.op 32 true (.op 33 false (.op 34 true (.op 35 true (.op 36 true (.op 37 true (.op 38 true (.op 39 false (.op 40 true (.op 41 true (.done))))))))))))))))))))))))))))))))))))))))))) (by kernel_rfl) ?_)
    | ((first | (with_reducible apply WL_op; intro nx hnx) | with_reducible refine Ev_out ?_ | (with_reducible apply popsD_op; intro nx hnx) | (with_reducible refine popsD_alt ?_ ?_; intro nx hnx) | (with_reducible refine pfresh_k hnm fun nm hnm => ?_; (try simp only [fmb] at hnm)) | (with_reducible refine pborn_mu hnm fun nm hnm => ?_; (try simp only [fmb] at hnm))); try (simp (maxSteps := 2000000) (disch := omega) only [evb, evd, pbuiltin, constPV, pnck, seqK, blockK, scopeK, pbin, pun, ppick, plen, piaddr, pindex, pfield, pslice, pbound, pconv, pelems, pextract, pmm, PV.mem?, PV.one, PV.cells, pageq, peqs, peq1, pmakes, pstore, pbytes, pmark, pusd, pust, psrc, pkey, pnile, pcap, pgrow, List.set, Value.cells, ↓popG_eq, ↓pop.eq_1, ↓List.getElem?_map, ↓List.getElem?_cons_zero, ↓List.getElem?_cons_succ, Value.oneCell', Nat.reduceAdd, Nat.reduceMul, Nat.reduceSub, Nat.reduceLeDiff, Nat.reduceEqDiff, ↓reduceIte, ne_eq, reduceCtorEq, forall_const, exists_and_left, exists_eq_left', eq_self, Nat.reduceLT, Int.reduceLT, Int.reduceLE, Int.reduceToNat, Int.reduceAdd, Int.reduceSub, Int.reduceNeg, hnm, Tryd.tf0, Tryd.tf1, Tryd.tf2, Tryd.tf3, Tryd.tf4, Tryd.tf9, Tryd.tf23, Tryd.tf45, Tryd.teq45, Tryd.tf54, Tryd.teq94, Tryd.teq104, Tryd.teq113, Tryd.teq114, Tryd.call45, Tryd.call51]); repeat (refine And.intro (by omega) ?_))
    | ((with_reducible first | apply WL_nil | apply W_label | apply W_skip | apply W_exit | apply W_ret | apply popsD_done); try simp only [seqK, blockK, scopeK, ↓reduceIte, Nat.reduceEqDiff])
    | with_reducible exact popsD_stop
    | (with_reducible apply pguard_intro <;> (intro hc; (try simp only [hcb, reduceCtorEq, forall_const, ne_eq] at hc); first | (exfalso; omega) | (exfalso; exact hc trivial) | refine Ev_in ?_))
    | (with_reducible apply W_cond_k; intro _ _ ea eb; (simp only [condK, cob, opnd, constPV, Nat.reduceEqDiff, Nat.reduceLT, ↓reduceIte, hcb, reduceCtorEq, forall_const, ne_eq]); subst ea eb; first | (refine ⟨fun hc => ?_, fun hc => ?_⟩ <;> first | (exfalso; omega) | (exfalso; exact hc trivial) | skip) | skip)
    | (with_reducible apply hnx; clear hnx nx)
    | (with_reducible refine And.intro (by omega) ?_)
    | (with_reducible refine And.intro ?_ ?_)
    | (clear hnx nx; with_reducible apply hnx; clear hnx nx)
    | (clear hnx nx; clear hnx nx; with_reducible apply hnx; clear hnx nx)
    | (clear hnx nx; clear hnx nx; clear hnx nx; with_reducible apply hnx; clear hnx nx))
        refine hlp _ (a.length - (i + 1)) ⟨fr 85 [(15, pn (i + 1)), (14, pint .i64 a.length), (13, ltsP a), (3, .mp mn), (0, ltsP a)], [(mn, ⟨54, false, 0, entsS (growM ((texts a).take (i + 1)) 0 [])⟩)]⟩ (by omega) ?_ ⟨i + 1, by omega, rfl, hok, rfl⟩
        rw [hsnoc, g3]
        refine Wk_fr (by simp only [wkb, Nat.reduceEqDiff, Nat.reduceLT, ↓reduceIte, pn]) ?_
        all_goals exact ⟨fun x hx => List.mem_cons_of_mem _ hx, by simp [names]⟩
  · have hi2 : i = a.length := by omega
    subst hi2
    rw [okFrom_end] at hok
    have hfull : (texts a).take a.length = texts a := List.take_of_length_le (by omega)
    rw [hfull]
    repeat' (first
    | (with_reducible apply W_seq_k; intro nx hnx)
    | (with_reducible first | apply W_block | apply W_scope)
    | (with_reducible refine W_prune 57405 ?_; simp only [prb, Nat.reducePow, Nat.reduceDiv, Nat.reduceMod, Nat.reduceBEq]; first | (with_reducible apply W_region_l) | with_reducible refine W_region_draw (id := 7) 12 (.op 0 true (.op 1 true (.op 2 false (.op 3 true (.op 4 true (.op 5 true (.op 6 true (.op 7 true (.op 8 true (.op 9 true (.op 10 false (.op 11 true (.op 12 true (.op 13 true (.op 14 true (.op 15 true (.op 16 true (.op 17 true (.op 18 true (.op 19 true (.op 20 true (.op 21 true (.op 22 true (.op 23 true (.op 24 true (.op 25 true (.op 26 true (.op 27 false (.op 28 true (.op 29 true (.op 30 true (.op 31 true (.op 32 true (.op 33 false (.op 34 true (.op 35 true (.op 36 true (.op 37 true (.op 38 true (.op 39 false (.op 40 true (.op 41 true (.done))))))))))))))))))))))))))))))))))))))))))) (by kernel_rfl) ?_)
    | ((first | (with_reducible apply WL_op; intro nx hnx) | with_reducible refine Ev_out ?_ | (with_reducible apply popsD_op; intro nx hnx) | (with_reducible refine popsD_alt ?_ ?_; intro nx hnx) | (with_reducible refine pfresh_k hnm fun nm hnm => ?_; (try simp only [fmb] at hnm)) | (with_reducible refine pborn_mu hnm fun nm hnm => ?_; (try simp only [fmb] at hnm))); try (simp (maxSteps := 2000000) (disch := omega) only [evb, evd, pbuiltin, constPV, pnck, seqK, blockK, scopeK, pbin, pun, ppick, plen, piaddr, pindex, pfield, pslice, pbound, pconv, pelems, pextract, pmm, PV.mem?, PV.one, PV.cells, pageq, peqs, peq1, pmakes, pstore, pbytes, pmark, pusd, pust, psrc, pkey, pnile, pcap, pgrow, List.set, Value.cells, ↓popG_eq, ↓pop.eq_1, ↓List.getElem?_map, ↓List.getElem?_cons_zero, ↓List.getElem?_cons_succ, Value.oneCell', Nat.reduceAdd, Nat.reduceMul, Nat.reduceSub, Nat.reduceLeDiff, Nat.reduceEqDiff, ↓reduceIte, ne_eq, reduceCtorEq, forall_const, exists_and_left, exists_eq_left', eq_self, Nat.reduceLT, Int.reduceLT, Int.reduceLE, Int.reduceToNat, Int.reduceAdd, Int.reduceSub, Int.reduceNeg, hnm, Tryd.tf0, Tryd.tf1, Tryd.tf2, Tryd.tf3, Tryd.tf4, Tryd.tf9, Tryd.tf23, Tryd.tf45, Tryd.teq45, Tryd.tf54, Tryd.teq94, Tryd.teq104, Tryd.teq113, Tryd.teq114, Tryd.call45, Tryd.call51]); repeat (refine And.intro (by omega) ?_))
    | ((with_reducible first | apply WL_nil | apply W_label | apply W_skip | apply W_exit | apply W_ret | apply popsD_done); try simp only [seqK, blockK, scopeK, ↓reduceIte, Nat.reduceEqDiff])
    | with_reducible exact popsD_stop
    | (with_reducible apply pguard_intro <;> (intro hc; (try simp only [hcb, reduceCtorEq, forall_const, ne_eq] at hc); first | (exfalso; omega) | (exfalso; exact hc trivial) | refine Ev_in ?_))
    | (with_reducible apply W_cond_k; intro _ _ ea eb; (simp only [condK, cob, opnd, constPV, Nat.reduceEqDiff, Nat.reduceLT, ↓reduceIte, hcb, reduceCtorEq, forall_const, ne_eq]); subst ea eb; first | (refine ⟨fun hc => ?_, fun hc => ?_⟩ <;> first | (exfalso; omega) | (exfalso; exact hc trivial) | skip) | skip)
    | (with_reducible apply hnx; clear hnx nx)
    | (with_reducible refine And.intro (by omega) ?_)
    | (with_reducible refine And.intro ?_ ?_)
    | (clear hnx nx; with_reducible apply hnx; clear hnx nx)
    | (clear hnx nx; clear hnx nx; with_reducible apply hnx; clear hnx nx)
    | (clear hnx nx; clear hnx nx; clear hnx nx; with_reducible apply hnx; clear hnx nx))
    all_goals first
      | exact absurd trivial hc
      | (exfalso
         omega)
      | skip
    · refine hfin _ _ (Fin_ret1 rfl (Sub_nil _) ?_); simp only [List.getD_cons_zero, List.getD_cons_succ, fr_getD_cons, fr_getD_nil, Nat.reduceEqDiff, Nat.reduceLT, ↓reduceIte]
      refine .inl ⟨?_, by trivial, by trivial⟩
      have : ¬ (texts a).Nodup := by
        intro h
        have h2 := (growM_len (texts a) 0 []).2.2 ⟨h, fun t _ => by simp⟩
        simp only [List.length_nil, Nat.zero_add] at h2
        omega
      simp [validF, this]
    · refine hfin _ _ (Fin_ret1 rfl (Sub_refl (by simp [names])) ?_); simp only [List.getD_cons_zero, List.getD_cons_succ, fr_getD_cons, fr_getD_nil, Nat.reduceEqDiff, Nat.reduceLT, ↓reduceIte]
      refine .inr ⟨?_, _, rfl, rfl⟩
      obtain ⟨h1, h2⟩ := growM_len (texts a) 0 []
      simp only [List.length_nil, Nat.zero_add] at h1 h2
      have h3 := (h2.1 (by omega)).1
      simp [validF, h3, hok, hlen]
end Go.PM

namespace Go.PM
open Go.Proofs
attribute [local irreducible] W PCalls pcall pcallI WL
set_option maxRecDepth 100000
set_option maxHeartbeats 8000000
/-- Letters that a machine can hold. -/
@[reducible] def HA (a : List Ltr) : Prop := (a.length : Int) ≤ 9223372036854775807 ∧ ∀ x ∈ a, (x.text.length : Int) ≤ 9223372036854775807 ∧ (-9223372036854775808 ≤ x.mark ∧ x.mark ≤ 9223372036854775807) ∧ (-9223372036854775808 ≤ x.case_ ∧ x.case_ ≤ 9223372036854775807)
@[reducible] def wP (w : List Int) : PV := .list 1 (w.map (pint .i64))
theorem valid_c (G : Globs) (a : List Ltr) (ha : HA a) : PCalls Tryd.prog G 42 [ltsP a] [] (fun res H => res = pbool (validF a) ∧ H = []) := by
  have c1 := index_c G a ha.1 ha.2
  (refine PCalls_f Tryd.func42 rfl Tryd.ntmps42 Tryd.results42 (by simp) fun fin hfin => ?_; have hnm : True := trivial; simp (maxSteps := 2000000) (disch := omega) only [evb, evd, pbuiltin, constPV, pnck, seqK, blockK, scopeK, pbin, pun, ppick, plen, piaddr, pindex, pfield, pslice, pbound, pconv, pelems, pextract, pmm, PV.mem?, PV.one, PV.cells, pageq, peqs, peq1, pmakes, pstore, pbytes, pmark, pusd, pust, psrc, pkey, pnile, pcap, pgrow, List.set, Value.cells, ↓popG_eq, ↓pop.eq_1, ↓List.getElem?_map, ↓List.getElem?_cons_zero, ↓List.getElem?_cons_succ, Value.oneCell', Nat.reduceAdd, Nat.reduceMul, Nat.reduceSub, Nat.reduceLeDiff, Nat.reduceEqDiff, ↓reduceIte, ne_eq, reduceCtorEq, forall_const, exists_and_left, exists_eq_left', eq_self, Nat.reduceLT, Int.reduceLT, Int.reduceLE, Int.reduceToNat, Int.reduceAdd, Int.reduceSub, Int.reduceNeg, hnm, Tryd.tf4, Tryd.tf23, Tryd.tf45, Tryd.teq45, Tryd.tf54, Tryd.teq94, Tryd.teq104, Tryd.teq113, Tryd.teq114, Tryd.call33])
  repeat' (first
    | (with_reducible apply W_seq_k; intro nx hnx)
    | (with_reducible first | apply W_block | apply W_scope)
    | (with_reducible refine W_prune 5 ?_; simp only [prb, Nat.reducePow, Nat.reduceDiv, Nat.reduceMod, Nat.reduceBEq]; with_reducible apply W_region_l)
    | ((first | (with_reducible apply WL_op; intro nx hnx) | with_reducible refine Ev_out ?_); try (simp (maxSteps := 2000000) (disch := omega) only [evb, evd, pbuiltin, constPV, pnck, seqK, blockK, scopeK, pbin, pun, ppick, plen, piaddr, pindex, pfield, pslice, pbound, pconv, pelems, pextract, pmm, PV.mem?, PV.one, PV.cells, pageq, peqs, peq1, pmakes, pstore, pbytes, pmark, pusd, pust, psrc, pkey, pnile, pcap, pgrow, List.set, Value.cells, ↓popG_eq, ↓pop.eq_1, ↓List.getElem?_map, ↓List.getElem?_cons_zero, ↓List.getElem?_cons_succ, Value.oneCell', Nat.reduceAdd, Nat.reduceMul, Nat.reduceSub, Nat.reduceLeDiff, Nat.reduceEqDiff, ↓reduceIte, ne_eq, reduceCtorEq, forall_const, exists_and_left, exists_eq_left', eq_self, Nat.reduceLT, Int.reduceLT, Int.reduceLE, Int.reduceToNat, Int.reduceAdd, Int.reduceSub, Int.reduceNeg, hnm, Tryd.tf4, Tryd.tf23, Tryd.tf45, Tryd.teq45, Tryd.tf54, Tryd.teq94, Tryd.teq104, Tryd.teq113, Tryd.teq114, Tryd.call33]); repeat (refine And.intro (by omega) ?_))
    | ((with_reducible first | apply WL_nil | apply W_label | apply W_skip | apply W_exit | apply W_ret); try simp only [seqK, blockK, scopeK, ↓reduceIte, Nat.reduceEqDiff])
    | (with_reducible apply W_cond_k; intro _ _ ea eb; (simp only [condK, cob, opnd, constPV, Nat.reduceEqDiff, Nat.reduceLT, ↓reduceIte, hcb, reduceCtorEq, forall_const, ne_eq]); subst ea eb; first | (refine ⟨fun hc => ?_, fun hc => ?_⟩ <;> first | (exfalso; omega) | (exfalso; exact hc trivial) | skip) | skip)
    | (with_reducible apply hnx; clear hnx nx)
    | (with_reducible refine And.intro (by omega) ?_)
    | (with_reducible refine And.intro ?_ ?_)
    | ((with_reducible refine pcall_k c1 ?_; rintro _ _ (⟨hv, rfl, rfl⟩ | ⟨hv, n, rfl, rfl⟩) - <;> refine Ev_in ?_))
    | (clear hnx nx; with_reducible apply hnx; clear hnx nx)
    | (clear hnx nx; clear hnx nx; with_reducible apply hnx; clear hnx nx)
    | (clear hnx nx; clear hnx nx; clear hnx nx; with_reducible apply hnx; clear hnx nx))
  all_goals
    refine hfin _ _ (Fin_ret1 rfl (Sub_nil _) ?_); simp only [List.getD_cons_zero, List.getD_cons_succ, fr_getD_cons, fr_getD_nil, Nat.reduceEqDiff, Nat.reduceLT, ↓reduceIte]
    exact ⟨by rw [hv], by trivial⟩
theorem sameInts_c (G : Globs) (xs ys : List Int) (hx : (xs.length : Int) ≤ 9223372036854775807) : PCalls Tryd.prog G 14 [.list 1 (xs.map (pint .i64)), .list 1 (ys.map (pint .i64))] [] (fun res H => res = pbool (decide (xs = ys)) ∧ H = []) := by
  (refine PCalls_f Tryd.func14 rfl Tryd.ntmps14 Tryd.results14 (by simp) fun fin hfin => ?_; have hnm : True := trivial; simp (maxSteps := 2000000) (disch := omega) only [evb, evd, pbuiltin, constPV, pnck, seqK, blockK, scopeK, pbin, pun, ppick, plen, piaddr, pindex, pfield, pslice, pbound, pconv, pelems, pextract, pmm, PV.mem?, PV.one, PV.cells, pageq, peqs, peq1, pmakes, pstore, pbytes, pmark, pusd, pust, psrc, pkey, pnile, pcap, pgrow, List.set, Value.cells, ↓popG_eq, ↓pop.eq_1, ↓List.getElem?_map, ↓List.getElem?_cons_zero, ↓List.getElem?_cons_succ, Value.oneCell', Nat.reduceAdd, Nat.reduceMul, Nat.reduceSub, Nat.reduceLeDiff, Nat.reduceEqDiff, ↓reduceIte, ne_eq, reduceCtorEq, forall_const, exists_and_left, exists_eq_left', eq_self, Nat.reduceLT, Int.reduceLT, Int.reduceLE, Int.reduceToNat, Int.reduceAdd, Int.reduceSub, Int.reduceNeg, hnm, Tryd.tf0, Tryd.tf3, Tryd.tf4, Tryd.tf22, Tryd.teq45, Tryd.teq94, Tryd.teq104, Tryd.teq113, Tryd.teq114])
  repeat' (first
    | (with_reducible apply W_seq_k; intro nx hnx)
    | (with_reducible first | apply W_block | apply W_scope)
    | (with_reducible refine W_prune 51 ?_; simp only [prb, Nat.reducePow, Nat.reduceDiv, Nat.reduceMod, Nat.reduceBEq]; first | (with_reducible apply W_region_l) | with_reducible refine W_region_draw (id := 6) 1 (.op 0 true (.op 1 true (.op 2 true (.op 3 true (.op 4 true (.op 5 true (.op 6 true (.op 7 true (.op 8 true (.done)))))))))) (by kernel_rfl) ?_)
    | ((first | (with_reducible apply WL_op; intro nx hnx) | with_reducible refine Ev_out ?_ | (with_reducible apply popsD_op; intro nx hnx) | (with_reducible refine popsD_alt ?_ ?_; intro nx hnx)); try (simp (maxSteps := 2000000) (disch := omega) only [evb, evd, pbuiltin, constPV, pnck, seqK, blockK, scopeK, pbin, pun, ppick, plen, piaddr, pindex, pfield, pslice, pbound, pconv, pelems, pextract, pmm, PV.mem?, PV.one, PV.cells, pageq, peqs, peq1, pmakes, pstore, pbytes, pmark, pusd, pust, psrc, pkey, pnile, pcap, pgrow, List.set, Value.cells, ↓popG_eq, ↓pop.eq_1, ↓List.getElem?_map, ↓List.getElem?_cons_zero, ↓List.getElem?_cons_succ, Value.oneCell', Nat.reduceAdd, Nat.reduceMul, Nat.reduceSub, Nat.reduceLeDiff, Nat.reduceEqDiff, ↓reduceIte, ne_eq, reduceCtorEq, forall_const, exists_and_left, exists_eq_left', eq_self, Nat.reduceLT, Int.reduceLT, Int.reduceLE, Int.reduceToNat, Int.reduceAdd, Int.reduceSub, Int.reduceNeg, hnm, Tryd.tf0, Tryd.tf3, Tryd.tf4, Tryd.tf22, Tryd.teq45, Tryd.teq94, Tryd.teq104, Tryd.teq113, Tryd.teq114]); repeat (refine And.intro (by omega) ?_))
    | ((with_reducible first | apply WL_nil | apply W_label | apply W_skip | apply W_exit | apply W_ret | apply popsD_done); try simp only [seqK, blockK, scopeK, ↓reduceIte, Nat.reduceEqDiff])
    | with_reducible exact popsD_stop
    | (with_reducible apply W_cond_k; intro _ _ ea eb; (simp only [condK, cob, opnd, constPV, Nat.reduceEqDiff, Nat.reduceLT, ↓reduceIte, hcb, reduceCtorEq, forall_const, ne_eq]); subst ea eb; first | (refine ⟨fun hc => ?_, fun hc => ?_⟩ <;> first | (exfalso; omega) | (exfalso; exact hc trivial) | skip) | skip)
    | (with_reducible apply hnx; clear hnx nx)
    | (with_reducible refine And.intro (by omega) ?_)
    | (with_reducible refine And.intro ?_ ?_)
    | (clear hnx nx; with_reducible apply hnx; clear hnx nx)
    | (clear hnx nx; clear hnx nx; with_reducible apply hnx; clear hnx nx)
    | (clear hnx nx; clear hnx nx; clear hnx nx; with_reducible apply hnx; clear hnx nx))
  · refine hfin _ _ (Fin_ret1 rfl (Sub_nil _) ?_); simp only [List.getD_cons_zero, List.getD_cons_succ, fr_getD_cons, fr_getD_nil, Nat.reduceEqDiff, Nat.reduceLT, ↓reduceIte]
    simp
    intro h
    exact hc (by rw [h])
  · refine W_loop_k (fun n τ => ∃ i : Nat, i ≤ xs.length ∧ n = xs.length - i ∧ xs.take i = ys.take i ∧ τ = ⟨fr 26 [(0, .list 1 (xs.map (pint .i64))), (1, .list 1 (ys.map (pint .i64))), (5, pint .i64 i)], []⟩) xs.length ⟨fr 26 [(0, .list 1 (xs.map (pint .i64))), (1, .list 1 (ys.map (pint .i64))), (5, pint .i64 (0 : Nat))], []⟩ (by exact Wk_fr (by simp only [wkb, Nat.reduceEqDiff, Nat.reduceLT, ↓reduceIte]) (Sub_nil _)) ⟨0, by omega, by omega, by simp, rfl⟩ ?_
    rintro n τ ⟨i, hi, rfl, he, rfl⟩ lp hlp
    repeat' (first
    | (with_reducible apply W_seq_k; intro nx hnx)
    | (with_reducible first | apply W_block | apply W_scope)
    | (with_reducible refine W_prune 51 ?_; simp only [prb, Nat.reducePow, Nat.reduceDiv, Nat.reduceMod, Nat.reduceBEq]; first | (with_reducible apply W_region_l) | with_reducible refine W_region_draw (id := 6) 1 (.op 0 true (.op 1 true (.op 2 true (.op 3 true (.op 4 true (.op 5 true (.op 6 true (.op 7 true (.op 8 true (.done)))))))))) (by kernel_rfl) ?_)
    | ((first | (with_reducible apply WL_op; intro nx hnx) | with_reducible refine Ev_out ?_ | (with_reducible apply popsD_op; intro nx hnx) | (with_reducible refine popsD_alt ?_ ?_; intro nx hnx)); try (simp (maxSteps := 2000000) (disch := omega) only [evb, evd, pbuiltin, constPV, pnck, seqK, blockK, scopeK, pbin, pun, ppick, plen, piaddr, pindex, pfield, pslice, pbound, pconv, pelems, pextract, pmm, PV.mem?, PV.one, PV.cells, pageq, peqs, peq1, pmakes, pstore, pbytes, pmark, pusd, pust, psrc, pkey, pnile, pcap, pgrow, List.set, Value.cells, ↓popG_eq, ↓pop.eq_1, ↓List.getElem?_map, ↓List.getElem?_cons_zero, ↓List.getElem?_cons_succ, Value.oneCell', Nat.reduceAdd, Nat.reduceMul, Nat.reduceSub, Nat.reduceLeDiff, Nat.reduceEqDiff, ↓reduceIte, ne_eq, reduceCtorEq, forall_const, exists_and_left, exists_eq_left', eq_self, Nat.reduceLT, Int.reduceLT, Int.reduceLE, Int.reduceToNat, Int.reduceAdd, Int.reduceSub, Int.reduceNeg, hnm, Tryd.tf0, Tryd.tf3, Tryd.tf4, Tryd.tf22, Tryd.teq45, Tryd.teq94, Tryd.teq104, Tryd.teq113, Tryd.teq114]); repeat (refine And.intro (by omega) ?_))
    | ((with_reducible first | apply WL_nil | apply W_label | apply W_skip | apply W_exit | apply W_ret | apply popsD_done); try simp only [seqK, blockK, scopeK, ↓reduceIte, Nat.reduceEqDiff])
    | with_reducible exact popsD_stop
    | (with_reducible apply W_cond_k; intro _ _ ea eb; (simp only [condK, cob, opnd, constPV, Nat.reduceEqDiff, Nat.reduceLT, ↓reduceIte, hcb, reduceCtorEq, forall_const, ne_eq]); subst ea eb; first | (refine ⟨fun hc => ?_, fun hc => ?_⟩ <;> first | (exfalso; omega) | (exfalso; exact hc trivial) | skip) | skip)
    | (with_reducible apply hnx; clear hnx nx)
    | (with_reducible refine And.intro (by omega) ?_)
    | (with_reducible refine And.intro ?_ ?_)
    | (clear hnx nx; with_reducible apply hnx; clear hnx nx)
    | (clear hnx nx; clear hnx nx; with_reducible apply hnx; clear hnx nx)
    | (clear hnx nx; clear hnx nx; clear hnx nx; with_reducible apply hnx; clear hnx nx))
    · refine hfin _ _ (Fin_ret1 rfl (Sub_nil _) ?_); simp only [List.getD_cons_zero, List.getD_cons_succ, fr_getD_cons, fr_getD_nil, Nat.reduceEqDiff, Nat.reduceLT, ↓reduceIte]
      simp
      intro h
      subst h
      exact hc rfl
    · refine hlp _ (xs.length - (i+1)) _ (by omega) ?_ ⟨i+1, by omega, rfl, ?_, rfl⟩
      · exact Wk_fr (by simp only [wkb, Nat.reduceEqDiff, Nat.reduceLT, ↓reduceIte]) (Sub_nil _)
      · rw [List.take_add_one, List.take_add_one, he]
        have h1 : i < xs.length := by omega
        have h2 : i < ys.length := by omega
        rw [List.getElem?_eq_getElem h1, List.getElem?_eq_getElem h2, show xs[i] = ys[i] from hc]
    · refine hfin _ _ (Fin_ret1 rfl (Sub_nil _) ?_); simp only [List.getD_cons_zero, List.getD_cons_succ, fr_getD_cons, fr_getD_nil, Nat.reduceEqDiff, Nat.reduceLT, ↓reduceIte]
      simp
      rw [List.take_of_length_le (by omega), List.take_of_length_le (by omega)] at he
      exact he
theorem equal_c (G : Globs) (xs ys : List Int) (hx : (xs.length : Int) ≤ 9223372036854775807) : PCalls Tryd.prog G 48 [wP xs, wP ys] [] (fun res H => res = pbool (decide (xs = ys)) ∧ H = []) := by
  (refine PCalls_f Tryd.func48 rfl Tryd.ntmps48 Tryd.results48 (by simp) fun fin hfin => ?_; have hnm : True := trivial; simp (maxSteps := 2000000) (disch := omega) only [evb, evd, pbuiltin, constPV, pnck, seqK, blockK, scopeK, pbin, pun, ppick, plen, piaddr, pindex, pfield, pslice, pbound, pconv, pelems, pextract, pmm, PV.mem?, PV.one, PV.cells, pageq, peqs, peq1, pmakes, pstore, pbytes, pmark, pusd, pust, psrc, pkey, pnile, pcap, pgrow, List.set, Value.cells, ↓popG_eq, ↓pop.eq_1, ↓List.getElem?_map, ↓List.getElem?_cons_zero, ↓List.getElem?_cons_succ, Value.oneCell', Nat.reduceAdd, Nat.reduceMul, Nat.reduceSub, Nat.reduceLeDiff, Nat.reduceEqDiff, ↓reduceIte, ne_eq, reduceCtorEq, forall_const, exists_and_left, exists_eq_left', eq_self, Nat.reduceLT, Int.reduceLT, Int.reduceLE, Int.reduceToNat, Int.reduceAdd, Int.reduceSub, Int.reduceNeg, hnm, Tryd.tf0, Tryd.tf3, Tryd.tf4, Tryd.tf22, Tryd.teq45, Tryd.teq94, Tryd.teq104, Tryd.teq113, Tryd.teq114])
  repeat' (first
    | (with_reducible apply W_seq_k; intro nx hnx)
    | (with_reducible first | apply W_block | apply W_scope)
    | (with_reducible refine W_prune 12339 ?_; simp only [prb, Nat.reducePow, Nat.reduceDiv, Nat.reduceMod, Nat.reduceBEq]; first | (with_reducible apply W_region_l) | with_reducible refine W_region_draw (id := 6) 1 (.op 0 true (.op 1 true (.op 2 true (.op 3 true (.op 4 true (.op 5 true (.op 6 true (.op 7 true (.op 8 true (.done)))))))))) (by kernel_rfl) ?_)
    | ((first | (with_reducible apply WL_op; intro nx hnx) | with_reducible refine Ev_out ?_ | (with_reducible apply popsD_op; intro nx hnx) | (with_reducible refine popsD_alt ?_ ?_; intro nx hnx)); try (simp (maxSteps := 2000000) (disch := omega) only [evb, evd, pbuiltin, constPV, pnck, seqK, blockK, scopeK, pbin, pun, ppick, plen, piaddr, pindex, pfield, pslice, pbound, pconv, pelems, pextract, pmm, PV.mem?, PV.one, PV.cells, pageq, peqs, peq1, pmakes, pstore, pbytes, pmark, pusd, pust, psrc, pkey, pnile, pcap, pgrow, List.set, Value.cells, ↓popG_eq, ↓pop.eq_1, ↓List.getElem?_map, ↓List.getElem?_cons_zero, ↓List.getElem?_cons_succ, Value.oneCell', Nat.reduceAdd, Nat.reduceMul, Nat.reduceSub, Nat.reduceLeDiff, Nat.reduceEqDiff, ↓reduceIte, ne_eq, reduceCtorEq, forall_const, exists_and_left, exists_eq_left', eq_self, Nat.reduceLT, Int.reduceLT, Int.reduceLE, Int.reduceToNat, Int.reduceAdd, Int.reduceSub, Int.reduceNeg, hnm, Tryd.tf0, Tryd.tf3, Tryd.tf4, Tryd.tf22, Tryd.teq45, Tryd.teq94, Tryd.teq104, Tryd.teq113, Tryd.teq114]); repeat (refine And.intro (by omega) ?_))
    | ((with_reducible first | apply WL_nil | apply W_label | apply W_skip | apply W_exit | apply W_ret | apply popsD_done); try simp only [seqK, blockK, scopeK, ↓reduceIte, Nat.reduceEqDiff])
    | with_reducible exact popsD_stop
    | (with_reducible apply W_cond_k; intro _ _ ea eb; (simp only [condK, cob, opnd, constPV, Nat.reduceEqDiff, Nat.reduceLT, ↓reduceIte, hcb, reduceCtorEq, forall_const, ne_eq]); subst ea eb; first | (refine ⟨fun hc => ?_, fun hc => ?_⟩ <;> first | (exfalso; omega) | (exfalso; exact hc trivial) | skip) | skip)
    | (with_reducible apply hnx; clear hnx nx)
    | (with_reducible refine And.intro (by omega) ?_)
    | (with_reducible refine And.intro ?_ ?_)
    | (clear hnx nx; with_reducible apply hnx; clear hnx nx)
    | (clear hnx nx; clear hnx nx; with_reducible apply hnx; clear hnx nx)
    | (clear hnx nx; clear hnx nx; clear hnx nx; with_reducible apply hnx; clear hnx nx))
  · refine hfin _ _ (Fin_ret1 rfl (Sub_nil _) ?_); simp only [List.getD_cons_zero, List.getD_cons_succ, fr_getD_cons, fr_getD_nil, Nat.reduceEqDiff, Nat.reduceLT, ↓reduceIte]
    simp
    intro h
    exact hc (by rw [h])
  · refine W_loop_k (fun n τ => ∃ i : Nat, i ≤ xs.length ∧ n = xs.length - i ∧ xs.take i = ys.take i ∧ τ = ⟨fr 26 [(0, wP xs), (1, wP ys), (13, pn i), (12, pint .i64 xs.length)], []⟩) xs.length ⟨fr 26 [(0, wP xs), (1, wP ys), (13, pn 0), (12, pint .i64 xs.length)], []⟩ (by exact Wk_fr (by simp only [wkb, Nat.reduceEqDiff, Nat.reduceLT, ↓reduceIte, pn]) (Sub_nil _)) ⟨0, by omega, by omega, by simp, rfl⟩ ?_
    rintro n τ ⟨i, hi, rfl, he, rfl⟩ lp hlp
    repeat' (first
    | (with_reducible apply W_seq_k; intro nx hnx)
    | (with_reducible first | apply W_block | apply W_scope)
    | (with_reducible refine W_prune 12339 ?_; simp only [prb, Nat.reducePow, Nat.reduceDiv, Nat.reduceMod, Nat.reduceBEq]; first | (with_reducible apply W_region_l) | with_reducible refine W_region_draw (id := 6) 1 (.op 0 true (.op 1 true (.op 2 true (.op 3 true (.op 4 true (.op 5 true (.op 6 true (.op 7 true (.op 8 true (.done)))))))))) (by kernel_rfl) ?_)
    | ((first | (with_reducible apply WL_op; intro nx hnx) | with_reducible refine Ev_out ?_ | (with_reducible apply popsD_op; intro nx hnx) | (with_reducible refine popsD_alt ?_ ?_; intro nx hnx)); try (simp (maxSteps := 2000000) (disch := omega) only [evb, evd, pbuiltin, constPV, pnck, seqK, blockK, scopeK, pbin, pun, ppick, plen, piaddr, pindex, pfield, pslice, pbound, pconv, pelems, pextract, pmm, PV.mem?, PV.one, PV.cells, pageq, peqs, peq1, pmakes, pstore, pbytes, pmark, pusd, pust, psrc, pkey, pnile, pcap, pgrow, List.set, Value.cells, ↓popG_eq, ↓pop.eq_1, ↓List.getElem?_map, ↓List.getElem?_cons_zero, ↓List.getElem?_cons_succ, Value.oneCell', Nat.reduceAdd, Nat.reduceMul, Nat.reduceSub, Nat.reduceLeDiff, Nat.reduceEqDiff, ↓reduceIte, ne_eq, reduceCtorEq, forall_const, exists_and_left, exists_eq_left', eq_self, Nat.reduceLT, Int.reduceLT, Int.reduceLE, Int.reduceToNat, Int.reduceAdd, Int.reduceSub, Int.reduceNeg, hnm, Tryd.tf0, Tryd.tf3, Tryd.tf4, Tryd.tf22, Tryd.teq45, Tryd.teq94, Tryd.teq104, Tryd.teq113, Tryd.teq114]); repeat (refine And.intro (by omega) ?_))
    | ((with_reducible first | apply WL_nil | apply W_label | apply W_skip | apply W_exit | apply W_ret | apply popsD_done); try simp only [seqK, blockK, scopeK, ↓reduceIte, Nat.reduceEqDiff])
    | with_reducible exact popsD_stop
    | (with_reducible apply W_cond_k; intro _ _ ea eb; (simp only [condK, cob, opnd, constPV, Nat.reduceEqDiff, Nat.reduceLT, ↓reduceIte, hcb, reduceCtorEq, forall_const, ne_eq]); subst ea eb; first | (refine ⟨fun hc => ?_, fun hc => ?_⟩ <;> first | (exfalso; omega) | (exfalso; exact hc trivial) | skip) | skip)
    | (with_reducible apply hnx; clear hnx nx)
    | (with_reducible refine And.intro (by omega) ?_)
    | (with_reducible refine And.intro ?_ ?_)
    | (clear hnx nx; with_reducible apply hnx; clear hnx nx)
    | (clear hnx nx; clear hnx nx; with_reducible apply hnx; clear hnx nx)
    | (clear hnx nx; clear hnx nx; clear hnx nx; with_reducible apply hnx; clear hnx nx))
    · refine hfin _ _ (Fin_ret1 rfl (Sub_nil _) ?_); simp only [List.getD_cons_zero, List.getD_cons_succ, fr_getD_cons, fr_getD_nil, Nat.reduceEqDiff, Nat.reduceLT, ↓reduceIte]
      simp
      intro h
      subst h
      exact hc rfl
    · refine hlp _ (xs.length - (i+1)) _ (by omega) ?_ ⟨i+1, by omega, rfl, ?_, rfl⟩
      · exact Wk_fr (by simp only [wkb, Nat.reduceEqDiff, Nat.reduceLT, ↓reduceIte, pn]) (Sub_nil _)
      · rw [List.take_add_one, List.take_add_one, he]
        have h1 : i < xs.length := by omega
        have h2 : i < ys.length := by omega
        rw [List.getElem?_eq_getElem h1, List.getElem?_eq_getElem h2, show xs[i] = ys[i] from hc]
    · refine hfin _ _ (Fin_ret1 rfl (Sub_nil _) ?_); simp only [List.getD_cons_zero, List.getD_cons_succ, fr_getD_cons, fr_getD_nil, Nat.reduceEqDiff, Nat.reduceLT, ↓reduceIte]
      simp
      rw [List.take_of_length_le (by omega), List.take_of_length_le (by omega)] at he
      exact he
end Go.PM

namespace Go.PM
open Go.Proofs
attribute [local irreducible] W PCalls pcall pcallI WL
set_option maxRecDepth 100000
set_option maxHeartbeats 8000000
/-- A row of numbers, or none. -/
@[reducible] def CRI (w : List Int) (res : PV) (H : Heap) : Prop := (w = [] ∧ res = pnil ∧ H = []) ∨ (∃ n : Int, res = .row n 1 w.length ∧ H = [(n, ⟨3, true, 1, w.map (pint .i64)⟩)])
/-- The text of letters. -/
def textF (a : List Ltr) (w : List Int) : List UInt8 := w.flatMap fun x => (a.getD x.toNat default).text
def inA (a : List Ltr) (x : Int) : Bool := decide (0 ≤ x) && decide (x ≤ (a.length : Int) - 1)
def writeF (a : List Ltr) (w : List Int) : List UInt8 × Int := if validF a then (if w.all (inA a) then (textF a w, 0) else ([], 5)) else ([], 1)
theorem okFrom_get {a : List Ltr} (h : okFrom a 0 = true) {j : Nat} (hj : j < a.length) : okLtr a j a[j] = true := by
  unfold okFrom at h
  rw [List.drop_zero, List.all_eq_true] at h
  have := h j (by simpa using hj)
  rw [List.getD_eq_getElem?_getD, List.getElem?_eq_getElem hj] at this
  exact this
theorem plainB_iff {s : List UInt8} : plainB s = true → s ≠ [] ∧ s.length ≤ 4 := by
  intro h
  unfold plainB at h
  simp only [Bool.and_eq_true, decide_eq_true_eq] at h
  constructor
  · intro e
    subst e
    simp at h
  · omega
theorem validF_iff {a : List Ltr} : validF a = true ↔ 1 ≤ a.length ∧ a.length ≤ 60 ∧ okFrom a 0 = true ∧ (texts a).Nodup := by
  unfold validF
  simp only [Bool.and_eq_true, decide_eq_true_eq]
  constructor
  · rintro ⟨⟨⟨h1, h2⟩, h3⟩, h4⟩
    exact ⟨h1, h2, h3, h4⟩
  · rintro ⟨h1, h2, h3, h4⟩
    exact ⟨⟨⟨h1, h2⟩, h3⟩, h4⟩
theorem valid_text {a : List Ltr} (h : validF a = true) {j : Nat} (hj : j < a.length) : a[j].text ≠ [] ∧ a[j].text.length ≤ 4 :=
  plainB_iff (okLtr_iff.1 (okFrom_get (validF_iff.1 h).2.2.1 hj)).1
theorem textF_len {a : List Ltr} (h : validF a = true) (w : List Int) (hw : w.all (inA a) = true) : (textF a w).length ≤ 4 * w.length := by
  induction w with
  | nil => simp [textF]
  | cons x r ih =>
    simp only [List.all_cons, Bool.and_eq_true] at hw
    have h1 := ih hw.2
    have h2 := hw.1
    unfold inA at h2
    simp only [Bool.and_eq_true, decide_eq_true_eq] at h2
    have hj : x.toNat < a.length := by omega
    have h3 := (valid_text h hj).2
    unfold textF at h1 ⊢
    rw [List.flatMap_cons, List.length_append, List.getD_eq_getElem?_getD, List.getElem?_eq_getElem hj, List.length_cons]
    simp only [Option.getD_some]
    omega
theorem write_c (G : Globs) (a : List Ltr) (w : List Int) (ha : HA a) (hw : w.length ≤ 100000000) : PCalls Tryd.prog G 22 [ltsP a, wP w] [] (fun res H => res = .tuple [pstr (writeF a w).1, pint .i64 (writeF a w).2] ∧ H = []) := by
  have c1 := valid_c G a ha
  (refine PCalls_f Tryd.func22 rfl Tryd.ntmps22 Tryd.results22 (by simp) fun fin hfin => ?_; have hnm : True := trivial; simp (maxSteps := 2000000) (disch := omega) only [evb, evd, pbuiltin, constPV, pnck, seqK, blockK, scopeK, pbin, pun, ppick, plen, piaddr, pindex, pfield, pslice, pbound, pconv, pelems, pextract, pmm, PV.mem?, PV.one, PV.cells, pageq, peqs, peq1, pmakes, pstore, pbytes, pmark, pusd, pust, psrc, pkey, pnile, pcap, pgrow, List.set, Value.cells, ↓popG_eq, ↓pop.eq_1, ↓List.getElem?_map, ↓List.getElem?_cons_zero, ↓List.getElem?_cons_succ, Value.oneCell', Nat.reduceAdd, Nat.reduceMul, Nat.reduceSub, Nat.reduceLeDiff, Nat.reduceEqDiff, ↓reduceIte, ne_eq, reduceCtorEq, forall_const, exists_and_left, exists_eq_left', eq_self, Nat.reduceLT, Int.reduceLT, Int.reduceLE, Int.reduceToNat, Int.reduceAdd, Int.reduceSub, Int.reduceNeg, hnm, Tryd.tf0, Tryd.tf3, Tryd.tf4, Tryd.tf9, Tryd.tf22, Tryd.tf23, Tryd.tf36, Tryd.tf45, Tryd.teq45, Tryd.tf70, Tryd.tf74, Tryd.teq94, Tryd.teq104, Tryd.teq113, Tryd.teq114, Tryd.call42, Tryd.call45, Tryd.call46, Tryd.call47])
  repeat' (first
    | (with_reducible apply W_seq_k; intro nx hnx)
    | (with_reducible first | apply W_block | apply W_scope)
    | (with_reducible refine W_prune 29043 ?_; simp only [prb, Nat.reducePow, Nat.reduceDiv, Nat.reduceMod, Nat.reduceBEq]; with_reducible apply W_region_l)
    | ((first | (with_reducible apply WL_op; intro nx hnx) | with_reducible refine Ev_out ?_ | (with_reducible refine pfresh_k hnm fun nm hnm => ?_; (try simp only [fmb] at hnm)) | (with_reducible refine pborn_mu hnm fun nm hnm => ?_; (try simp only [fmb] at hnm))); try (simp (maxSteps := 2000000) (disch := omega) only [evb, evd, pbuiltin, constPV, pnck, seqK, blockK, scopeK, pbin, pun, ppick, plen, piaddr, pindex, pfield, pslice, pbound, pconv, pelems, pextract, pmm, PV.mem?, PV.one, PV.cells, pageq, peqs, peq1, pmakes, pstore, pbytes, pmark, pusd, pust, psrc, pkey, pnile, pcap, pgrow, List.set, Value.cells, ↓popG_eq, ↓pop.eq_1, ↓List.getElem?_map, ↓List.getElem?_cons_zero, ↓List.getElem?_cons_succ, Value.oneCell', Nat.reduceAdd, Nat.reduceMul, Nat.reduceSub, Nat.reduceLeDiff, Nat.reduceEqDiff, ↓reduceIte, ne_eq, reduceCtorEq, forall_const, exists_and_left, exists_eq_left', eq_self, Nat.reduceLT, Int.reduceLT, Int.reduceLE, Int.reduceToNat, Int.reduceAdd, Int.reduceSub, Int.reduceNeg, hnm, Tryd.tf0, Tryd.tf3, Tryd.tf4, Tryd.tf9, Tryd.tf22, Tryd.tf23, Tryd.tf36, Tryd.tf45, Tryd.teq45, Tryd.tf70, Tryd.tf74, Tryd.teq94, Tryd.teq104, Tryd.teq113, Tryd.teq114, Tryd.call42, Tryd.call45, Tryd.call46, Tryd.call47]); repeat (refine And.intro (by omega) ?_))
    | ((with_reducible first | apply WL_nil | apply W_label | apply W_skip | apply W_exit | apply W_ret); try simp only [seqK, blockK, scopeK, ↓reduceIte, Nat.reduceEqDiff])
    | (with_reducible apply W_cond_k; intro _ _ ea eb; (simp only [condK, cob, opnd, constPV, Nat.reduceEqDiff, Nat.reduceLT, ↓reduceIte, hcb, reduceCtorEq, forall_const, ne_eq]); subst ea eb; first | (refine ⟨fun hc => ?_, fun hc => ?_⟩ <;> first | (exfalso; omega) | (exfalso; exact hc trivial) | skip) | skip)
    | (with_reducible apply hnx; clear hnx nx)
    | (with_reducible refine And.intro (by omega) ?_)
    | (with_reducible refine And.intro ?_ ?_)
    | (with_reducible refine pcall_k (c1) ?_; rintro _ _ ⟨rfl, rfl⟩ -; refine Ev_in ?_)
    | (clear hnx nx; with_reducible apply hnx; clear hnx nx)
    | (clear hnx nx; clear hnx nx; with_reducible apply hnx; clear hnx nx)
    | (clear hnx nx; clear hnx nx; clear hnx nx; with_reducible apply hnx; clear hnx nx))
  all_goals first
    | exact absurd trivial hc
    | skip
  · have hv : validF a = false := by simpa using hc
    refine hfin _ _ (Fin_ret2 rfl rfl (Sub_nil _) ?_); simp only [List.getD_cons_zero, List.getD_cons_succ, fr_getD_cons, fr_getD_nil, Nat.reduceEqDiff, Nat.reduceLT, ↓reduceIte]
    refine ⟨?_, by trivial⟩
    simp [writeF, hv]
    rfl
  have hv : validF a = true := by simpa using hc
  generalize nm = b at *
  refine W_loop_k (fun z τ => ∃ (i : Nat) (H : Heap), i ≤ w.length ∧ z = w.length - i ∧ (w.take i).all (inA a) = true ∧ BS b (textF a (w.take i)) H ∧ (names H).Nodup ∧ τ = ⟨fr 32 [(14, pn i), (13, pint .i64 w.length), (12, wP w), (6, .ptr b 0), (0, ltsP a)], H⟩) w.length
    ⟨fr 32 [(14, pn 0), (13, pint .i64 w.length), (12, wP w), (6, .ptr b 0), (0, ltsP a)], [(b, ⟨70, false, 0, [.val (.pointer none), pnil]⟩)]⟩ (by
    refine Wk_fr (by simp only [wkb, Nat.reduceEqDiff, Nat.reduceLT, ↓reduceIte, pn]) ?_
    exact Sub_refl (by simp [names])) ⟨0, _, by omega, by omega, by simp, .inl ⟨by simp [textF], rfl⟩, by simp [names], rfl⟩ ?_
  rintro z τ ⟨i, H, hi, rfl, hall, hB, hnd, rfl⟩ lp hlp
  have hlen := textF_len hv _ hall
  rw [List.length_take] at hlen
  by_cases hil : i < w.length
  · have hsn : w.take (i + 1) = w.take i ++ [w[i]] := by rw [List.take_add_one, List.getElem?_eq_getElem hil]; rfl
    by_cases hx : 0 ≤ w[i] ∧ w[i] ≤ (a.length : Int) - 1
    · have hin : inA a w[i] = true := by simp [inA, hx]
      have hj : w[i].toNat < a.length := by omega
      obtain ⟨h3, h4⟩ := valid_text hv hj
      have ht : textF a (w.take (i + 1)) = textF a (w.take i) ++ a[w[i].toNat].text := by
        rw [hsn]
        unfold textF
        rw [List.flatMap_append, List.flatMap_singleton, List.getD_eq_getElem?_getD, List.getElem?_eq_getElem hj]
        rfl
      have cw := writeStr_c G b _ a[w[i].toNat].text h3 (by omega) (by omega) H hB
      have c2 := within_c G w[i] 0 (a.length - 1)
      have c2 : PCalls Tryd.prog G 45 [pint .i64 w[i], .val (.int .i64 0), pint .i64 (a.length - 1)] [] _ := c2
      rw [decide_eq_true hx.1, decide_eq_true hx.2] at c2
      repeat' (first
    | (with_reducible apply W_seq_k; intro nx hnx)
    | (with_reducible first | apply W_block | apply W_scope)
    | (with_reducible refine W_prune 29043 ?_; simp only [prb, Nat.reducePow, Nat.reduceDiv, Nat.reduceMod, Nat.reduceBEq]; with_reducible apply W_region_l)
    | ((first | (with_reducible apply WL_op; intro nx hnx) | with_reducible refine Ev_out ?_ | (with_reducible refine pfresh_k hnm fun nm hnm => ?_; (try simp only [fmb] at hnm)) | (with_reducible refine pborn_mu hnm fun nm hnm => ?_; (try simp only [fmb] at hnm))); try (simp (maxSteps := 2000000) (disch := omega) only [evb, evd, pbuiltin, constPV, pnck, seqK, blockK, scopeK, pbin, pun, ppick, plen, piaddr, pindex, pfield, pslice, pbound, pconv, pelems, pextract, pmm, PV.mem?, PV.one, PV.cells, pageq, peqs, peq1, pmakes, pstore, pbytes, pmark, pusd, pust, psrc, pkey, pnile, pcap, pgrow, List.set, Value.cells, ↓popG_eq, ↓pop.eq_1, ↓List.getElem?_map, ↓List.getElem?_cons_zero, ↓List.getElem?_cons_succ, Value.oneCell', Nat.reduceAdd, Nat.reduceMul, Nat.reduceSub, Nat.reduceLeDiff, Nat.reduceEqDiff, ↓reduceIte, ne_eq, reduceCtorEq, forall_const, exists_and_left, exists_eq_left', eq_self, Nat.reduceLT, Int.reduceLT, Int.reduceLE, Int.reduceToNat, Int.reduceAdd, Int.reduceSub, Int.reduceNeg, hnm, Tryd.tf0, Tryd.tf3, Tryd.tf4, Tryd.tf9, Tryd.tf22, Tryd.tf23, Tryd.tf36, Tryd.tf45, Tryd.teq45, Tryd.tf70, Tryd.tf74, Tryd.teq94, Tryd.teq104, Tryd.teq113, Tryd.teq114, Tryd.call42, Tryd.call45, Tryd.call46, Tryd.call47]); repeat (refine And.intro (by omega) ?_))
    | ((with_reducible first | apply WL_nil | apply W_label | apply W_skip | apply W_exit | apply W_ret); try simp only [seqK, blockK, scopeK, ↓reduceIte, Nat.reduceEqDiff])
    | (with_reducible apply W_cond_k; intro _ _ ea eb; (simp only [condK, cob, opnd, constPV, Nat.reduceEqDiff, Nat.reduceLT, ↓reduceIte, hcb, reduceCtorEq, forall_const, ne_eq]); subst ea eb; first | (refine ⟨fun hc => ?_, fun hc => ?_⟩ <;> first | (exfalso; omega) | (exfalso; exact hc trivial) | skip) | skip)
    | (with_reducible apply hnx; clear hnx nx)
    | (with_reducible refine And.intro (by omega) ?_)
    | (with_reducible refine And.intro ?_ ?_)
    | (with_reducible refine pcall_k (c2) ?_; rintro _ _ ⟨rfl, rfl⟩ -; refine Ev_in ?_)
    | ((refine pcall_midn [] H [] (by simp) cw ?_; rintro _ H2 ⟨rfl, hB2⟩ nd2; refine Ev_in ?_))
    | (clear hnx nx; with_reducible apply hnx; clear hnx nx)
    | (clear hnx nx; clear hnx nx; with_reducible apply hnx; clear hnx nx)
    | (clear hnx nx; clear hnx nx; clear hnx nx; with_reducible apply hnx; clear hnx nx))
      all_goals first
        | exact absurd trivial hc
        | (exfalso
           omega)
        | skip
      simp only [List.nil_append, List.append_nil] at nd2
      rw [← ht] at hB2
      refine hlp _ (w.length - (i + 1)) ⟨fr 32 [(14, pn (i + 1)), (13, pint .i64 w.length), (12, wP w), (6, .ptr b 0), (0, ltsP a)], H2⟩ (by omega) ?_ ⟨i + 1, H2, by omega, rfl, ?_, hB2, nd2, rfl⟩
      · refine Wk_fr (by simp only [wkb, Nat.reduceEqDiff, Nat.reduceLT, ↓reduceIte, pn]) ?_
        exact Sub_refl nd2
      · rw [hsn, List.all_append, hall]
        simp [hin]
    · have hin : inA a w[i] = false := by
        simp only [inA]
        by_cases h1 : 0 ≤ w[i]
        · have h2 : ¬ w[i] ≤ (a.length : Int) - 1 := fun h => hx ⟨h1, h⟩
          simp [h2]
        · simp [h1]
      have c2 := within_c G w[i] 0 (a.length - 1)
      have c2 : PCalls Tryd.prog G 45 [pint .i64 w[i], .val (.int .i64 0), pint .i64 (a.length - 1)] [] _ := c2
      have e2 : (decide (0 ≤ w[i]) && decide (w[i] ≤ (a.length : Int) - 1)) = false := hin
      rw [e2] at c2
      repeat' (first
    | (with_reducible apply W_seq_k; intro nx hnx)
    | (with_reducible first | apply W_block | apply W_scope)
    | (with_reducible refine W_prune 29043 ?_; simp only [prb, Nat.reducePow, Nat.reduceDiv, Nat.reduceMod, Nat.reduceBEq]; with_reducible apply W_region_l)
    | ((first | (with_reducible apply WL_op; intro nx hnx) | with_reducible refine Ev_out ?_ | (with_reducible refine pfresh_k hnm fun nm hnm => ?_; (try simp only [fmb] at hnm)) | (with_reducible refine pborn_mu hnm fun nm hnm => ?_; (try simp only [fmb] at hnm))); try (simp (maxSteps := 2000000) (disch := omega) only [evb, evd, pbuiltin, constPV, pnck, seqK, blockK, scopeK, pbin, pun, ppick, plen, piaddr, pindex, pfield, pslice, pbound, pconv, pelems, pextract, pmm, PV.mem?, PV.one, PV.cells, pageq, peqs, peq1, pmakes, pstore, pbytes, pmark, pusd, pust, psrc, pkey, pnile, pcap, pgrow, List.set, Value.cells, ↓popG_eq, ↓pop.eq_1, ↓List.getElem?_map, ↓List.getElem?_cons_zero, ↓List.getElem?_cons_succ, Value.oneCell', Nat.reduceAdd, Nat.reduceMul, Nat.reduceSub, Nat.reduceLeDiff, Nat.reduceEqDiff, ↓reduceIte, ne_eq, reduceCtorEq, forall_const, exists_and_left, exists_eq_left', eq_self, Nat.reduceLT, Int.reduceLT, Int.reduceLE, Int.reduceToNat, Int.reduceAdd, Int.reduceSub, Int.reduceNeg, hnm, Tryd.tf0, Tryd.tf3, Tryd.tf4, Tryd.tf9, Tryd.tf22, Tryd.tf23, Tryd.tf36, Tryd.tf45, Tryd.teq45, Tryd.tf70, Tryd.tf74, Tryd.teq94, Tryd.teq104, Tryd.teq113, Tryd.teq114, Tryd.call42, Tryd.call45, Tryd.call46, Tryd.call47]); repeat (refine And.intro (by omega) ?_))
    | ((with_reducible first | apply WL_nil | apply W_label | apply W_skip | apply W_exit | apply W_ret); try simp only [seqK, blockK, scopeK, ↓reduceIte, Nat.reduceEqDiff])
    | (with_reducible apply W_cond_k; intro _ _ ea eb; (simp only [condK, cob, opnd, constPV, Nat.reduceEqDiff, Nat.reduceLT, ↓reduceIte, hcb, reduceCtorEq, forall_const, ne_eq]); subst ea eb; first | (refine ⟨fun hc => ?_, fun hc => ?_⟩ <;> first | (exfalso; omega) | (exfalso; exact hc trivial) | skip) | skip)
    | (with_reducible apply hnx; clear hnx nx)
    | (with_reducible refine And.intro (by omega) ?_)
    | (with_reducible refine And.intro ?_ ?_)
    | (with_reducible refine pcall_k (c2) ?_; rintro _ _ ⟨rfl, rfl⟩ -; refine Ev_in ?_)
    | (clear hnx nx; with_reducible apply hnx; clear hnx nx)
    | (clear hnx nx; clear hnx nx; with_reducible apply hnx; clear hnx nx)
    | (clear hnx nx; clear hnx nx; clear hnx nx; with_reducible apply hnx; clear hnx nx))
      all_goals first
        | exact absurd trivial hc
        | (exfalso
           omega)
        | skip
      all_goals
        refine hfin _ _ (Fin_ret2 rfl rfl (Sub_nil _) ?_); simp only [List.getD_cons_zero, List.getD_cons_succ, fr_getD_cons, fr_getD_nil, Nat.reduceEqDiff, Nat.reduceLT, ↓reduceIte]
        refine ⟨?_, by trivial⟩
        have : w.all (inA a) = false := by
          rw [List.all_eq_false]
          exact ⟨w[i], List.getElem_mem hil, by simp [hin]⟩
        simp [writeF, hv, this]
        rfl
  · have hi2 : i = w.length := by omega
    subst hi2
    rw [List.take_length] at hall hB
    have cs := string_c G b _ (by have := textF_len hv w hall; omega) H hB
    repeat' (first
    | (with_reducible apply W_seq_k; intro nx hnx)
    | (with_reducible first | apply W_block | apply W_scope)
    | (with_reducible refine W_prune 29043 ?_; simp only [prb, Nat.reducePow, Nat.reduceDiv, Nat.reduceMod, Nat.reduceBEq]; with_reducible apply W_region_l)
    | ((first | (with_reducible apply WL_op; intro nx hnx) | with_reducible refine Ev_out ?_ | (with_reducible refine pfresh_k hnm fun nm hnm => ?_; (try simp only [fmb] at hnm)) | (with_reducible refine pborn_mu hnm fun nm hnm => ?_; (try simp only [fmb] at hnm))); try (simp (maxSteps := 2000000) (disch := omega) only [evb, evd, pbuiltin, constPV, pnck, seqK, blockK, scopeK, pbin, pun, ppick, plen, piaddr, pindex, pfield, pslice, pbound, pconv, pelems, pextract, pmm, PV.mem?, PV.one, PV.cells, pageq, peqs, peq1, pmakes, pstore, pbytes, pmark, pusd, pust, psrc, pkey, pnile, pcap, pgrow, List.set, Value.cells, ↓popG_eq, ↓pop.eq_1, ↓List.getElem?_map, ↓List.getElem?_cons_zero, ↓List.getElem?_cons_succ, Value.oneCell', Nat.reduceAdd, Nat.reduceMul, Nat.reduceSub, Nat.reduceLeDiff, Nat.reduceEqDiff, ↓reduceIte, ne_eq, reduceCtorEq, forall_const, exists_and_left, exists_eq_left', eq_self, Nat.reduceLT, Int.reduceLT, Int.reduceLE, Int.reduceToNat, Int.reduceAdd, Int.reduceSub, Int.reduceNeg, hnm, Tryd.tf0, Tryd.tf3, Tryd.tf4, Tryd.tf9, Tryd.tf22, Tryd.tf23, Tryd.tf36, Tryd.tf45, Tryd.teq45, Tryd.tf70, Tryd.tf74, Tryd.teq94, Tryd.teq104, Tryd.teq113, Tryd.teq114, Tryd.call42, Tryd.call45, Tryd.call46, Tryd.call47]); repeat (refine And.intro (by omega) ?_))
    | ((with_reducible first | apply WL_nil | apply W_label | apply W_skip | apply W_exit | apply W_ret); try simp only [seqK, blockK, scopeK, ↓reduceIte, Nat.reduceEqDiff])
    | (with_reducible apply W_cond_k; intro _ _ ea eb; (simp only [condK, cob, opnd, constPV, Nat.reduceEqDiff, Nat.reduceLT, ↓reduceIte, hcb, reduceCtorEq, forall_const, ne_eq]); subst ea eb; first | (refine ⟨fun hc => ?_, fun hc => ?_⟩ <;> first | (exfalso; omega) | (exfalso; exact hc trivial) | skip) | skip)
    | (with_reducible apply hnx; clear hnx nx)
    | (with_reducible refine And.intro (by omega) ?_)
    | (with_reducible refine And.intro ?_ ?_)
    | ((refine pcall_midn [] H [] (by simp) cs ?_; rintro _ H2 ⟨rfl, rfl⟩ nd2; refine Ev_in ?_))
    | (clear hnx nx; with_reducible apply hnx; clear hnx nx)
    | (clear hnx nx; clear hnx nx; with_reducible apply hnx; clear hnx nx)
    | (clear hnx nx; clear hnx nx; clear hnx nx; with_reducible apply hnx; clear hnx nx))
    all_goals first
      | exact absurd trivial hc
      | (exfalso
         omega)
      | skip
    all_goals
      refine hfin _ _ (Fin_ret2 rfl rfl (Sub_nil _) ?_); simp only [List.getD_cons_zero, List.getD_cons_succ, fr_getD_cons, fr_getD_nil, Nat.reduceEqDiff, Nat.reduceLT, ↓reduceIte]
      refine ⟨?_, by trivial⟩
      simp [writeF, hv, hall]
end Go.PM

namespace Go.PM
open Go.Proofs
attribute [local irreducible] W PCalls pcall pcallI WL
set_option maxRecDepth 100000
set_option maxHeartbeats 8000000
/-- The letters by their texts. -/
def mA (a : List Ltr) : List (List UInt8 × Nat) := growM (texts a) 0 []
/-- The longest text of at most n bytes with which s begins. -/
def hitN (a : List Ltr) (s : List UInt8) : Nat → Option (Nat × Nat)
  | 0 => none
  | n + 1 => match getM (s.take (n + 1)) (mA a) with
    | some i => some (i, n + 1)
    | none => hitN a s n
def hit (a : List Ltr) (s : List UInt8) : Option (Nat × Nat) := hitN a s (min 4 s.length)
def readW (a : List Ltr) : Nat → List UInt8 → List Int × Nat
  | 0, _ => ([], 0)
  | f + 1, s => match hit a s with
    | none => ([], 0)
    | some (i, n) => ((i : Int) :: (readW a f (s.drop n)).1, n + (readW a f (s.drop n)).2)
def readF (a : List Ltr) (s : List UInt8) : List Int × Int :=
  if validF a then ((readW a s.length s).1, if (readW a s.length s).2 = s.length then -1 else (readW a s.length s).2) else ([], 0)
theorem hitN_le {a : List Ltr} {s : List UInt8} {i m : Nat} : ∀ {n : Nat}, hitN a s n = some (i, m) → 1 ≤ m ∧ m ≤ n
  | 0, h => by simp [hitN] at h
  | n + 1, h => by
    unfold hitN at h
    split at h
    · simp only [Option.some.injEq, Prod.mk.injEq] at h
      omega
    · have := hitN_le h
      omega
theorem hit_le {a : List Ltr} {s : List UInt8} {i m : Nat} (h : hit a s = some (i, m)) : 1 ≤ m ∧ m ≤ 4 ∧ m ≤ s.length := by
  have := hitN_le h
  omega
theorem readW_nil {a : List Ltr} : ∀ f : Nat, readW a f [] = ([], 0)
  | 0 => rfl
  | f + 1 => rfl
theorem readW_hit {a : List Ltr} {f : Nat} {s : List UInt8} {i n : Nat} (h : hit a s = some (i, n)) : readW a (f + 1) s = ((i : Int) :: (readW a f (s.drop n)).1, n + (readW a f (s.drop n)).2) := by
  rw [readW, h]
theorem readW_le {a : List Ltr} : ∀ (f : Nat) (s : List UInt8), (readW a f s).2 ≤ s.length ∧ (readW a f s).1.length ≤ (readW a f s).2
  | 0, s => by simp [readW]
  | f + 1, s => by
    unfold readW
    cases h : hit a s with
    | none => simp
    | some x =>
      obtain ⟨i, n⟩ := x
      have h1 := hit_le h
      obtain ⟨h2, h3⟩ := readW_le f (s.drop n)
      rw [List.length_drop] at h2
      show n + (readW a f (s.drop n)).2 ≤ s.length ∧ ((i : Int) :: (readW a f (s.drop n)).1).length ≤ n + (readW a f (s.drop n)).2
      generalize readW a f (s.drop n) = q at h2 h3 ⊢
      rw [List.length_cons]
      obtain ⟨h4, h5, h6⟩ := h1
      exact ⟨by omega, by omega⟩
/-- Numbers read so far, beside the map. -/
theorem read_c (G : Globs) (a : List Ltr) (s : List UInt8) (ha : HA a) (hs : s.length ≤ 100000000) : PCalls Tryd.prog G 12 [ltsP a, pstr s] [] (fun res H => ∃ o, res = .tuple [o, pint .i64 (readF a s).2] ∧ CRI (readF a s).1 o H) := by
  have c1 := index_c G a ha.1 ha.2
  (refine PCalls_f Tryd.func12 rfl Tryd.ntmps12 Tryd.results12 (by simp) fun fin hfin => ?_; have hnm : True := trivial; simp (maxSteps := 2000000) (disch := omega) only [evb, evd, pbuiltin, constPV, pnck, seqK, blockK, scopeK, pbin, pun, ppick, plen, piaddr, pindex, pfield, pslice, pbound, pconv, pelems, pextract, pmm, PV.mem?, PV.one, PV.cells, pageq, peqs, peq1, pmakes, pstore, pbytes, pmark, pusd, pust, psrc, pkey, pnile, pcap, pgrow, List.set, Value.cells, ↓popG_eq, ↓pop.eq_1, ↓List.getElem?_map, ↓List.getElem?_cons_zero, ↓List.getElem?_cons_succ, Value.oneCell', Nat.reduceAdd, Nat.reduceMul, Nat.reduceSub, Nat.reduceLeDiff, Nat.reduceEqDiff, ↓reduceIte, ne_eq, reduceCtorEq, forall_const, exists_and_left, exists_eq_left', eq_self, Nat.reduceLT, Int.reduceLT, Int.reduceLE, Int.reduceToNat, Int.reduceAdd, Int.reduceSub, Int.reduceNeg, hnm, Tryd.tf0, Tryd.tf1, Tryd.tf3, Tryd.tf4, Tryd.tf9, Tryd.tf22, Tryd.tf23, Tryd.tf45, Tryd.teq45, Tryd.tf54, Tryd.tf56, Tryd.teq94, Tryd.teq104, Tryd.teq113, Tryd.teq114, Tryd.call33])
  repeat' (first
    | (with_reducible apply W_seq_k; intro nx hnx)
    | (with_reducible first | apply W_block | apply W_scope)
    | (with_reducible refine W_prune 4083 ?_; simp only [prb, Nat.reducePow, Nat.reduceDiv, Nat.reduceMod, Nat.reduceBEq]; with_reducible apply W_region_l)
    | ((first | (with_reducible apply WL_op; intro nx hnx) | with_reducible refine Ev_out ?_ | (with_reducible refine pfresh_k hnm fun nm hnm => ?_; (try simp only [fmb] at hnm)) | (with_reducible refine pborn_mu hnm fun nm hnm => ?_; (try simp only [fmb] at hnm)) | (with_reducible refine pmaybe_k ?_; intro bn hbn)); try (simp (maxSteps := 2000000) (disch := omega) only [evb, evd, pbuiltin, constPV, pnck, seqK, blockK, scopeK, pbin, pun, ppick, plen, piaddr, pindex, pfield, pslice, pbound, pconv, pelems, pextract, pmm, PV.mem?, PV.one, PV.cells, pageq, peqs, peq1, pmakes, pstore, pbytes, pmark, pusd, pust, psrc, pkey, pnile, pcap, pgrow, List.set, Value.cells, ↓popG_eq, ↓pop.eq_1, ↓List.getElem?_map, ↓List.getElem?_cons_zero, ↓List.getElem?_cons_succ, Value.oneCell', Nat.reduceAdd, Nat.reduceMul, Nat.reduceSub, Nat.reduceLeDiff, Nat.reduceEqDiff, ↓reduceIte, ne_eq, reduceCtorEq, forall_const, exists_and_left, exists_eq_left', eq_self, Nat.reduceLT, Int.reduceLT, Int.reduceLE, Int.reduceToNat, Int.reduceAdd, Int.reduceSub, Int.reduceNeg, hnm, Tryd.tf0, Tryd.tf1, Tryd.tf3, Tryd.tf4, Tryd.tf9, Tryd.tf22, Tryd.tf23, Tryd.tf45, Tryd.teq45, Tryd.tf54, Tryd.tf56, Tryd.teq94, Tryd.teq104, Tryd.teq113, Tryd.teq114, Tryd.call33]); repeat (refine And.intro (by omega) ?_))
    | ((with_reducible first | apply WL_nil | apply W_label | apply W_skip | apply W_exit | apply W_ret); try simp only [seqK, blockK, scopeK, ↓reduceIte, Nat.reduceEqDiff])
    | (with_reducible apply W_cond_k; intro _ _ ea eb; (simp only [condK, cob, opnd, constPV, Nat.reduceEqDiff, Nat.reduceLT, ↓reduceIte, hcb, reduceCtorEq, forall_const, ne_eq]); subst ea eb; first | (refine ⟨fun hc => ?_, fun hc => ?_⟩ <;> first | (exfalso; omega) | (exfalso; exact hc trivial) | skip) | skip)
    | (with_reducible apply hnx; clear hnx nx)
    | (with_reducible refine And.intro (by omega) ?_)
    | (with_reducible refine And.intro ?_ ?_)
    | ((with_reducible refine pcall_k c1 ?_; rintro _ _ (⟨hv, rfl, rfl⟩ | ⟨hv, mn, rfl, rfl⟩) - <;> refine Ev_in ?_))
    | (clear hnx nx; with_reducible apply hnx; clear hnx nx)
    | (clear hnx nx; clear hnx nx; with_reducible apply hnx; clear hnx nx)
    | (clear hnx nx; clear hnx nx; clear hnx nx; with_reducible apply hnx; clear hnx nx))
  · refine hfin _ _ (Fin_ret2 rfl rfl (Sub_nil _) ?_); simp only [List.getD_cons_zero, List.getD_cons_succ, fr_getD_cons, fr_getD_nil, Nat.reduceEqDiff, Nat.reduceLT, ↓reduceIte]
    refine ⟨pnil, ?_, .inl ⟨?_, rfl, by trivial⟩⟩ <;> simp [readF, hv]
  · refine W_loop_k (fun z τ => ∃ (p f : Nat) (out : List Int) (o : PV) (HO : Heap), p ≤ s.length ∧ z = s.length - p ∧ s.length - p ≤ f ∧ out.length ≤ p ∧ (readW a s.length s).1 = out ++ (readW a f (s.drop p)).1 ∧ (readW a s.length s).2 = p + (readW a f (s.drop p)).2 ∧ CRI out o HO ∧ τ = ⟨fr 51 [(8, pn p), (7, o), (6, .mp mn), (1, pstr s)], (mn, ⟨54, false, 0, entsS (mA a)⟩) :: HO⟩) s.length
      ⟨fr 51 [(8, pn 0), (7, pnil), (6, .mp mn), (1, pstr s)], (mn, ⟨54, false, 0, entsS (mA a)⟩) :: []⟩ (by
      refine Wk_fr (by simp only [wkb, Nat.reduceEqDiff, Nat.reduceLT, ↓reduceIte, pn]) ?_
      exact Sub_refl (by simp [names])) ⟨0, s.length, [], _, _, by omega, by omega, by omega, by simp, by simp, by simp, .inl ⟨rfl, rfl, rfl⟩, rfl⟩ ?_
    rintro z τ ⟨p, f, out, o, HO, hp, rfl, hf, hol, hr1, hr2, hC, rfl⟩ lp hlp
    refine W_nd fun nd => ?_
    have nd3 : (mn ∉ names HO) ∧ (names HO).Nodup := by
      simp only [names, List.map_cons, List.nodup_cons] at nd
      exact nd
    by_cases hps : p < s.length
    · obtain ⟨f', rfl⟩ : ∃ f', f = f' + 1 := ⟨f - 1, by omega⟩
      repeat' (first
    | (with_reducible apply W_seq_k; intro nx hnx)
    | (with_reducible first | apply W_block | apply W_scope)
    | (with_reducible refine W_prune 4083 ?_; simp only [prb, Nat.reducePow, Nat.reduceDiv, Nat.reduceMod, Nat.reduceBEq]; with_reducible apply W_region_l)
    | ((first | (with_reducible apply WL_op; intro nx hnx) | with_reducible refine Ev_out ?_ | (with_reducible refine pfresh_k hnm fun nm hnm => ?_; (try simp only [fmb] at hnm)) | (with_reducible refine pborn_mu hnm fun nm hnm => ?_; (try simp only [fmb] at hnm)) | (with_reducible refine pmaybe_k ?_; intro bn hbn)); try (simp (maxSteps := 2000000) (disch := omega) only [evb, evd, pbuiltin, constPV, pnck, seqK, blockK, scopeK, pbin, pun, ppick, plen, piaddr, pindex, pfield, pslice, pbound, pconv, pelems, pextract, pmm, PV.mem?, PV.one, PV.cells, pageq, peqs, peq1, pmakes, pstore, pbytes, pmark, pusd, pust, psrc, pkey, pnile, pcap, pgrow, List.set, Value.cells, ↓popG_eq, ↓pop.eq_1, ↓List.getElem?_map, ↓List.getElem?_cons_zero, ↓List.getElem?_cons_succ, Value.oneCell', Nat.reduceAdd, Nat.reduceMul, Nat.reduceSub, Nat.reduceLeDiff, Nat.reduceEqDiff, ↓reduceIte, ne_eq, reduceCtorEq, forall_const, exists_and_left, exists_eq_left', eq_self, Nat.reduceLT, Int.reduceLT, Int.reduceLE, Int.reduceToNat, Int.reduceAdd, Int.reduceSub, Int.reduceNeg, hnm, Tryd.tf0, Tryd.tf1, Tryd.tf3, Tryd.tf4, Tryd.tf9, Tryd.tf22, Tryd.tf23, Tryd.tf45, Tryd.teq45, Tryd.tf54, Tryd.tf56, Tryd.teq94, Tryd.teq104, Tryd.teq113, Tryd.teq114, Tryd.call33]); repeat (refine And.intro (by omega) ?_))
    | ((with_reducible first | apply WL_nil | apply W_label | apply W_skip | apply W_exit | apply W_ret); try simp only [seqK, blockK, scopeK, ↓reduceIte, Nat.reduceEqDiff])
    | (with_reducible apply W_cond_k; intro _ _ ea eb; (simp only [condK, cob, opnd, constPV, Nat.reduceEqDiff, Nat.reduceLT, ↓reduceIte, hcb, reduceCtorEq, forall_const, ne_eq]); subst ea eb; first | (refine ⟨fun hc => ?_, fun hc => ?_⟩ <;> first | (exfalso; omega) | (exfalso; exact hc trivial) | skip) | skip)
    | (with_reducible apply hnx; clear hnx nx)
    | (with_reducible refine And.intro (by omega) ?_)
    | (with_reducible refine And.intro ?_ ?_)
    | (clear hnx nx; with_reducible apply hnx; clear hnx nx)
    | (clear hnx nx; clear hnx nx; with_reducible apply hnx; clear hnx nx)
    | (clear hnx nx; clear hnx nx; clear hnx nx; with_reducible apply hnx; clear hnx nx))
      all_goals first
        | exact absurd trivial hc
        | (exfalso
           omega)
        | skip
      have hmin : min 4 ((s.length : Int) - p) = ((min 4 (s.length - p) : Nat) : Int) := by omega
      rw [hmin]
      have hm4 : min 4 (s.length - p) ≤ 4 ∧ min 4 (s.length - p) ≤ s.length - p := by omega
      have hh : hitN a (s.drop p) (min 4 (s.length - p)) = hit a (s.drop p) := by
        unfold hit
        rw [List.length_drop]
      generalize min 4 (s.length - p) = m at hh hm4 ⊢
      refine W_loop_k (fun z τ => ∃ n : Nat, n ≤ m ∧ z = n ∧ hitN a (s.drop p) n = hit a (s.drop p) ∧ τ = ⟨fr 51 [(9, pn n), (8, pn p), (7, o), (6, .mp mn), (1, pstr s)], (mn, ⟨54, false, 0, entsS (mA a)⟩) :: HO⟩) m
        ⟨fr 51 [(9, pn m), (8, pn p), (7, o), (6, .mp mn), (1, pstr s)], (mn, ⟨54, false, 0, entsS (mA a)⟩) :: HO⟩ (by
        refine Wk_fr (by simp only [wkb, Nat.reduceEqDiff, Nat.reduceLT, ↓reduceIte, pn]) ?_
        exact Sub_refl (by simp only [names, List.map_cons, List.nodup_cons]; exact nd3)) ⟨m, by omega, rfl, hh, rfl⟩ ?_
      rintro n τ ⟨_, hnm2, rfl, hhn, rfl⟩ lp2 hlp2
      cases n with
      | zero =>
        have hnone : hit a (s.drop p) = none := hhn.symm
        repeat' (first
    | (with_reducible apply W_seq_k; intro nx hnx)
    | (with_reducible first | apply W_block | apply W_scope)
    | (with_reducible refine W_prune 4083 ?_; simp only [prb, Nat.reducePow, Nat.reduceDiv, Nat.reduceMod, Nat.reduceBEq]; with_reducible apply W_region_l)
    | ((first | (with_reducible apply WL_op; intro nx hnx) | with_reducible refine Ev_out ?_ | (with_reducible refine pfresh_k hnm fun nm hnm => ?_; (try simp only [fmb] at hnm)) | (with_reducible refine pborn_mu hnm fun nm hnm => ?_; (try simp only [fmb] at hnm)) | (with_reducible refine pmaybe_k ?_; intro bn hbn)); try (simp (maxSteps := 2000000) (disch := omega) only [evb, evd, pbuiltin, constPV, pnck, seqK, blockK, scopeK, pbin, pun, ppick, plen, piaddr, pindex, pfield, pslice, pbound, pconv, pelems, pextract, pmm, PV.mem?, PV.one, PV.cells, pageq, peqs, peq1, pmakes, pstore, pbytes, pmark, pusd, pust, psrc, pkey, pnile, pcap, pgrow, List.set, Value.cells, ↓popG_eq, ↓pop.eq_1, ↓List.getElem?_map, ↓List.getElem?_cons_zero, ↓List.getElem?_cons_succ, Value.oneCell', Nat.reduceAdd, Nat.reduceMul, Nat.reduceSub, Nat.reduceLeDiff, Nat.reduceEqDiff, ↓reduceIte, ne_eq, reduceCtorEq, forall_const, exists_and_left, exists_eq_left', eq_self, Nat.reduceLT, Int.reduceLT, Int.reduceLE, Int.reduceToNat, Int.reduceAdd, Int.reduceSub, Int.reduceNeg, hnm, Tryd.tf0, Tryd.tf1, Tryd.tf3, Tryd.tf4, Tryd.tf9, Tryd.tf22, Tryd.tf23, Tryd.tf45, Tryd.teq45, Tryd.tf54, Tryd.tf56, Tryd.teq94, Tryd.teq104, Tryd.teq113, Tryd.teq114, Tryd.call33]); repeat (refine And.intro (by omega) ?_))
    | ((with_reducible first | apply WL_nil | apply W_label | apply W_skip | apply W_exit | apply W_ret); try simp only [seqK, blockK, scopeK, ↓reduceIte, Nat.reduceEqDiff])
    | (with_reducible apply W_cond_k; intro _ _ ea eb; (simp only [condK, cob, opnd, constPV, Nat.reduceEqDiff, Nat.reduceLT, ↓reduceIte, hcb, reduceCtorEq, forall_const, ne_eq]); subst ea eb; first | (refine ⟨fun hc => ?_, fun hc => ?_⟩ <;> first | (exfalso; omega) | (exfalso; exact hc trivial) | skip) | skip)
    | (with_reducible apply hnx; clear hnx nx)
    | (with_reducible refine And.intro (by omega) ?_)
    | (with_reducible refine And.intro ?_ ?_)
    | (clear hnx nx; with_reducible apply hnx; clear hnx nx)
    | (clear hnx nx; clear hnx nx; with_reducible apply hnx; clear hnx nx)
    | (clear hnx nx; clear hnx nx; clear hnx nx; with_reducible apply hnx; clear hnx nx))
        all_goals first
          | exact absurd trivial hc
          | (exfalso
             omega)
          | skip
        have e : readW a (f' + 1) (s.drop p) = ([], 0) := by
          unfold readW
          rw [hnone]
        rw [e] at hr1 hr2
        have e2 : readF a s = (out, (p : Int)) := by
          simp [readF, hv, hr1, hr2, Nat.ne_of_lt hps]
        refine hfin _ _ (Fin_ret2 rfl rfl (H := HO) ⟨fun x hx => List.mem_cons_of_mem _ hx, nd3.2⟩ ?_)
        simp only [fr_getD_cons, Nat.reduceEqDiff, Nat.reduceLT, ↓reduceIte]
        rw [e2]
        exact ⟨o, rfl, hC⟩
      | succ n =>
        have hk0 : ((p : Int) + ((n + 1 : Nat) : Int)).toNat = p + (n + 1) := by omega
        have hkey : List.drop p (List.take (p + (n + 1)) s) = (s.drop p).take (n + 1) := by
          rw [List.drop_take, Nat.add_sub_cancel_left]
        unfold hitN at hhn
        generalize (s.drop p).take (n + 1) = t at hkey hhn
        rcases mfindS t (mA a) 0 with ⟨g1, g2, g3⟩ | ⟨j, v, g1, g2, g3⟩
        · rw [g1] at hhn
          repeat' (first
    | (with_reducible apply W_seq_k; intro nx hnx)
    | (with_reducible first | apply W_block | apply W_scope)
    | (with_reducible refine W_prune 4083 ?_; simp only [prb, Nat.reducePow, Nat.reduceDiv, Nat.reduceMod, Nat.reduceBEq]; with_reducible apply W_region_l)
    | ((first | (with_reducible apply WL_op; intro nx hnx) | with_reducible refine Ev_out ?_ | (with_reducible refine pfresh_k hnm fun nm hnm => ?_; (try simp only [fmb] at hnm)) | (with_reducible refine pborn_mu hnm fun nm hnm => ?_; (try simp only [fmb] at hnm)) | (with_reducible refine pmaybe_k ?_; intro bn hbn)); try (simp (maxSteps := 2000000) (disch := omega) only [evb, evd, pbuiltin, constPV, pnck, seqK, blockK, scopeK, pbin, pun, ppick, plen, piaddr, pindex, pfield, pslice, pbound, pconv, pelems, pextract, pmm, PV.mem?, PV.one, PV.cells, pageq, peqs, peq1, pmakes, pstore, pbytes, pmark, pusd, pust, psrc, pkey, pnile, pcap, pgrow, List.set, Value.cells, ↓popG_eq, ↓pop.eq_1, ↓List.getElem?_map, ↓List.getElem?_cons_zero, ↓List.getElem?_cons_succ, Value.oneCell', Nat.reduceAdd, Nat.reduceMul, Nat.reduceSub, Nat.reduceLeDiff, Nat.reduceEqDiff, ↓reduceIte, ne_eq, reduceCtorEq, forall_const, exists_and_left, exists_eq_left', eq_self, Nat.reduceLT, Int.reduceLT, Int.reduceLE, Int.reduceToNat, Int.reduceAdd, Int.reduceSub, Int.reduceNeg, hnm, Tryd.tf0, Tryd.tf1, Tryd.tf3, Tryd.tf4, Tryd.tf9, Tryd.tf22, Tryd.tf23, Tryd.tf45, Tryd.teq45, Tryd.tf54, Tryd.tf56, Tryd.teq94, Tryd.teq104, Tryd.teq113, Tryd.teq114, Tryd.call33, hk0, hkey, g2]); repeat (refine And.intro (by omega) ?_))
    | ((with_reducible first | apply WL_nil | apply W_label | apply W_skip | apply W_exit | apply W_ret); try simp only [seqK, blockK, scopeK, ↓reduceIte, Nat.reduceEqDiff])
    | (with_reducible apply W_cond_k; intro _ _ ea eb; (simp only [condK, cob, opnd, constPV, Nat.reduceEqDiff, Nat.reduceLT, ↓reduceIte, hcb, reduceCtorEq, forall_const, ne_eq]); subst ea eb; first | (refine ⟨fun hc => ?_, fun hc => ?_⟩ <;> first | (exfalso; omega) | (exfalso; exact hc trivial) | skip) | skip)
    | (with_reducible apply hnx; clear hnx nx)
    | (with_reducible refine And.intro (by omega) ?_)
    | (with_reducible refine And.intro ?_ ?_)
    | (clear hnx nx; with_reducible apply hnx; clear hnx nx)
    | (clear hnx nx; clear hnx nx; with_reducible apply hnx; clear hnx nx)
    | (clear hnx nx; clear hnx nx; clear hnx nx; with_reducible apply hnx; clear hnx nx))
          all_goals first
            | exact absurd trivial hc
            | (exfalso
               omega)
            | skip
          all_goals
            refine hlp2 _ n _ (by omega) ?_ ⟨by omega, by omega, rfl, hhn, rfl⟩
            refine Wk_fr (by simp only [wkb, Nat.reduceEqDiff, Nat.reduceLT, ↓reduceIte, pn, Int.natCast_add, Int.natCast_one, Int.add_sub_cancel]) ?_
            all_goals exact Sub_refl (by simp only [names, List.map_cons, List.nodup_cons]; exact nd3)
        · rw [g1] at hhn
          have e : readW a (f' + 1) (s.drop p) = ((v : Int) :: (readW a f' (s.drop (p + (n + 1)))).1, (n + 1) + (readW a f' (s.drop (p + (n + 1)))).2) := by
            rw [readW_hit hhn.symm, List.drop_drop]
          rw [e] at hr1 hr2
          have hr1 : (readW a s.length s).1 = (out ++ [(v : Int)]) ++ (readW a f' (s.drop (p + (n + 1)))).1 := by rw [hr1]; simp
          have hr2 : (readW a s.length s).2 = (p + (n + 1)) + (readW a f' (s.drop (p + (n + 1)))).2 := by rw [hr2]; omega
          rcases hC with ⟨rfl, rfl, rfl⟩ | ⟨nn, rfl, rfl⟩
          · repeat' (first
    | (with_reducible apply W_seq_k; intro nx hnx)
    | (with_reducible first | apply W_block | apply W_scope)
    | (with_reducible refine W_prune 4083 ?_; simp only [prb, Nat.reducePow, Nat.reduceDiv, Nat.reduceMod, Nat.reduceBEq]; with_reducible apply W_region_l)
    | ((first | (with_reducible apply WL_op; intro nx hnx) | with_reducible refine Ev_out ?_ | (with_reducible refine pfresh_k hnm fun nm hnm => ?_; (try simp only [fmb] at hnm)) | (with_reducible refine pborn_mu hnm fun nm hnm => ?_; (try simp only [fmb] at hnm)) | (with_reducible refine pmaybe_k ?_; intro bn hbn)); try (simp (maxSteps := 2000000) (disch := omega) only [evb, evd, pbuiltin, constPV, pnck, seqK, blockK, scopeK, pbin, pun, ppick, plen, piaddr, pindex, pfield, pslice, pbound, pconv, pelems, pextract, pmm, PV.mem?, PV.one, PV.cells, pageq, peqs, peq1, pmakes, pstore, pbytes, pmark, pusd, pust, psrc, pkey, pnile, pcap, pgrow, List.set, Value.cells, ↓popG_eq, ↓pop.eq_1, ↓List.getElem?_map, ↓List.getElem?_cons_zero, ↓List.getElem?_cons_succ, Value.oneCell', Nat.reduceAdd, Nat.reduceMul, Nat.reduceSub, Nat.reduceLeDiff, Nat.reduceEqDiff, ↓reduceIte, ne_eq, reduceCtorEq, forall_const, exists_and_left, exists_eq_left', eq_self, Nat.reduceLT, Int.reduceLT, Int.reduceLE, Int.reduceToNat, Int.reduceAdd, Int.reduceSub, Int.reduceNeg, hnm, Tryd.tf0, Tryd.tf1, Tryd.tf3, Tryd.tf4, Tryd.tf9, Tryd.tf22, Tryd.tf23, Tryd.tf45, Tryd.teq45, Tryd.tf54, Tryd.tf56, Tryd.teq94, Tryd.teq104, Tryd.teq113, Tryd.teq114, Tryd.call33, hk0, hkey, g2]); repeat (refine And.intro (by omega) ?_))
    | ((with_reducible first | apply WL_nil | apply W_label | apply W_skip | apply W_exit | apply W_ret); try simp only [seqK, blockK, scopeK, ↓reduceIte, Nat.reduceEqDiff])
    | (with_reducible apply W_cond_k; intro _ _ ea eb; (simp only [condK, cob, opnd, constPV, Nat.reduceEqDiff, Nat.reduceLT, ↓reduceIte, hcb, reduceCtorEq, forall_const, ne_eq]); subst ea eb; first | (refine ⟨fun hc => ?_, fun hc => ?_⟩ <;> first | (exfalso; omega) | (exfalso; exact hc trivial) | skip) | skip)
    | (with_reducible apply hnx; clear hnx nx)
    | (with_reducible refine And.intro (by omega) ?_)
    | (with_reducible refine And.intro ?_ ?_)
    | (clear hnx nx; with_reducible apply hnx; clear hnx nx)
    | (clear hnx nx; clear hnx nx; with_reducible apply hnx; clear hnx nx)
    | (clear hnx nx; clear hnx nx; clear hnx nx; with_reducible apply hnx; clear hnx nx))
            all_goals first
              | exact absurd trivial hc
              | (exfalso
                 omega)
              | skip
            refine hlp _ (s.length - (p + (n + 1))) ⟨fr 51 [(8, pn (p + (n + 1))), (7, .row nm 1 1), (6, .mp mn), (1, pstr s)], (mn, ⟨54, false, 0, entsS (mA a)⟩) :: [(nm, ⟨3, true, 1, [pn v]⟩)]⟩ (by omega) ?_ ⟨p + (n + 1), f', [(v : Int)], _, _, by omega, rfl, by omega, by simp; omega, hr1, hr2, .inr ⟨nm, rfl, rfl⟩, rfl⟩
            refine Wk_fr (by simp only [wkb, Nat.reduceEqDiff, Nat.reduceLT, ↓reduceIte, pn, Int.natCast_add]) ?_
            all_goals
              (try rw [List.map_append])
              refine ⟨fun x hx => ?_, by simp [names, hnm]⟩
              simp only [List.mem_cons, List.not_mem_nil, or_false] at hx ⊢
              rcases hx with rfl | rfl
              · exact .inr (.inr rfl)
              · exact .inl rfl
          · have hne : (nn = mn) = False ∧ (mn = nn) = False := by
              have := nd3.1
              simp only [names, List.map_cons, List.map_nil, List.mem_cons, List.not_mem_nil, or_false] at this
              exact ⟨eq_false fun e => this e.symm, eq_false this⟩
            repeat' (first
    | (with_reducible apply W_seq_k; intro nx hnx)
    | (with_reducible first | apply W_block | apply W_scope)
    | (with_reducible refine W_prune 4083 ?_; simp only [prb, Nat.reducePow, Nat.reduceDiv, Nat.reduceMod, Nat.reduceBEq]; with_reducible apply W_region_l)
    | ((first | (with_reducible apply WL_op; intro nx hnx) | with_reducible refine Ev_out ?_ | (with_reducible refine pfresh_k hnm fun nm hnm => ?_; (try simp only [fmb] at hnm)) | (with_reducible refine pborn_mu hnm fun nm hnm => ?_; (try simp only [fmb] at hnm)) | (with_reducible refine pmaybe_k ?_; intro bn hbn)); try (simp (maxSteps := 2000000) (disch := omega) only [evb, evd, pbuiltin, constPV, pnck, seqK, blockK, scopeK, pbin, pun, ppick, plen, piaddr, pindex, pfield, pslice, pbound, pconv, pelems, pextract, pmm, PV.mem?, PV.one, PV.cells, pageq, peqs, peq1, pmakes, pstore, pbytes, pmark, pusd, pust, psrc, pkey, pnile, pcap, pgrow, List.set, Value.cells, ↓popG_eq, ↓pop.eq_1, ↓List.getElem?_map, ↓List.getElem?_cons_zero, ↓List.getElem?_cons_succ, Value.oneCell', Nat.reduceAdd, Nat.reduceMul, Nat.reduceSub, Nat.reduceLeDiff, Nat.reduceEqDiff, ↓reduceIte, ne_eq, reduceCtorEq, forall_const, exists_and_left, exists_eq_left', eq_self, Nat.reduceLT, Int.reduceLT, Int.reduceLE, Int.reduceToNat, Int.reduceAdd, Int.reduceSub, Int.reduceNeg, hnm, Tryd.tf0, Tryd.tf1, Tryd.tf3, Tryd.tf4, Tryd.tf9, Tryd.tf22, Tryd.tf23, Tryd.tf45, Tryd.teq45, Tryd.tf54, Tryd.tf56, Tryd.teq94, Tryd.teq104, Tryd.teq113, Tryd.teq114, Tryd.call33, hk0, hkey, g2, hne]); repeat (refine And.intro (by omega) ?_))
    | ((with_reducible first | apply WL_nil | apply W_label | apply W_skip | apply W_exit | apply W_ret); try simp only [seqK, blockK, scopeK, ↓reduceIte, Nat.reduceEqDiff])
    | (with_reducible apply W_cond_k; intro _ _ ea eb; (simp only [condK, cob, opnd, constPV, Nat.reduceEqDiff, Nat.reduceLT, ↓reduceIte, hcb, reduceCtorEq, forall_const, ne_eq]); subst ea eb; first | (refine ⟨fun hc => ?_, fun hc => ?_⟩ <;> first | (exfalso; omega) | (exfalso; exact hc trivial) | skip) | skip)
    | (with_reducible apply hnx; clear hnx nx)
    | (with_reducible refine And.intro (by omega) ?_)
    | (with_reducible refine And.intro ?_ ?_)
    | (clear hnx nx; with_reducible apply hnx; clear hnx nx)
    | (clear hnx nx; clear hnx nx; with_reducible apply hnx; clear hnx nx)
    | (clear hnx nx; clear hnx nx; clear hnx nx; with_reducible apply hnx; clear hnx nx))
            all_goals first
              | exact absurd trivial hc
              | (exfalso
                 omega)
              | skip
            have hl1 : (out ++ [(v : Int)]).length = out.length + 1 := by simp
            refine hlp _ (s.length - (p + (n + 1))) ⟨fr 51 [(8, pn (p + (n + 1))), (7, .row nm 1 (out ++ [(v : Int)]).length), (6, .mp mn), (1, pstr s)], (mn, ⟨54, false, 0, entsS (mA a)⟩) :: [(nm, ⟨3, true, 1, (out ++ [(v : Int)]).map (pint .i64)⟩)]⟩ (by omega) ?_ ⟨p + (n + 1), f', out ++ [(v : Int)], _, _, by omega, rfl, by omega, by simp; omega, hr1, hr2, .inr ⟨nm, rfl, rfl⟩, rfl⟩
            refine Wk_fr (by simp only [wkb, Nat.reduceEqDiff, Nat.reduceLT, ↓reduceIte, pn, Int.natCast_add, hl1]) ?_
            all_goals
              (try rw [List.map_append])
              refine ⟨fun x hx => ?_, by simp [names, hnm]⟩
              simp only [List.mem_cons, List.not_mem_nil, or_false] at hx ⊢
              rcases hx with rfl | rfl
              · exact .inr (.inr rfl)
              · exact .inl rfl
    · have hi2 : p = s.length := by omega
      subst hi2
      rw [List.drop_length, readW_nil] at hr1 hr2
      repeat' (first
    | (with_reducible apply W_seq_k; intro nx hnx)
    | (with_reducible first | apply W_block | apply W_scope)
    | (with_reducible refine W_prune 4083 ?_; simp only [prb, Nat.reducePow, Nat.reduceDiv, Nat.reduceMod, Nat.reduceBEq]; with_reducible apply W_region_l)
    | ((first | (with_reducible apply WL_op; intro nx hnx) | with_reducible refine Ev_out ?_ | (with_reducible refine pfresh_k hnm fun nm hnm => ?_; (try simp only [fmb] at hnm)) | (with_reducible refine pborn_mu hnm fun nm hnm => ?_; (try simp only [fmb] at hnm)) | (with_reducible refine pmaybe_k ?_; intro bn hbn)); try (simp (maxSteps := 2000000) (disch := omega) only [evb, evd, pbuiltin, constPV, pnck, seqK, blockK, scopeK, pbin, pun, ppick, plen, piaddr, pindex, pfield, pslice, pbound, pconv, pelems, pextract, pmm, PV.mem?, PV.one, PV.cells, pageq, peqs, peq1, pmakes, pstore, pbytes, pmark, pusd, pust, psrc, pkey, pnile, pcap, pgrow, List.set, Value.cells, ↓popG_eq, ↓pop.eq_1, ↓List.getElem?_map, ↓List.getElem?_cons_zero, ↓List.getElem?_cons_succ, Value.oneCell', Nat.reduceAdd, Nat.reduceMul, Nat.reduceSub, Nat.reduceLeDiff, Nat.reduceEqDiff, ↓reduceIte, ne_eq, reduceCtorEq, forall_const, exists_and_left, exists_eq_left', eq_self, Nat.reduceLT, Int.reduceLT, Int.reduceLE, Int.reduceToNat, Int.reduceAdd, Int.reduceSub, Int.reduceNeg, hnm, Tryd.tf0, Tryd.tf1, Tryd.tf3, Tryd.tf4, Tryd.tf9, Tryd.tf22, Tryd.tf23, Tryd.tf45, Tryd.teq45, Tryd.tf54, Tryd.tf56, Tryd.teq94, Tryd.teq104, Tryd.teq113, Tryd.teq114, Tryd.call33]); repeat (refine And.intro (by omega) ?_))
    | ((with_reducible first | apply WL_nil | apply W_label | apply W_skip | apply W_exit | apply W_ret); try simp only [seqK, blockK, scopeK, ↓reduceIte, Nat.reduceEqDiff])
    | (with_reducible apply W_cond_k; intro _ _ ea eb; (simp only [condK, cob, opnd, constPV, Nat.reduceEqDiff, Nat.reduceLT, ↓reduceIte, hcb, reduceCtorEq, forall_const, ne_eq]); subst ea eb; first | (refine ⟨fun hc => ?_, fun hc => ?_⟩ <;> first | (exfalso; omega) | (exfalso; exact hc trivial) | skip) | skip)
    | (with_reducible apply hnx; clear hnx nx)
    | (with_reducible refine And.intro (by omega) ?_)
    | (with_reducible refine And.intro ?_ ?_)
    | (clear hnx nx; with_reducible apply hnx; clear hnx nx)
    | (clear hnx nx; clear hnx nx; with_reducible apply hnx; clear hnx nx)
    | (clear hnx nx; clear hnx nx; clear hnx nx; with_reducible apply hnx; clear hnx nx))
      all_goals first
        | exact absurd trivial hc
        | (exfalso
           omega)
        | skip
      have e2 : readF a s = (out, -1) := by
        simp only [List.append_nil, Nat.add_zero] at hr1 hr2
        simp [readF, hv, hr1, hr2]
      refine hfin _ _ (Fin_ret2 rfl rfl (H := HO) ⟨fun x hx => List.mem_cons_of_mem _ hx, nd3.2⟩ ?_)
      simp only [fr_getD_cons, Nat.reduceEqDiff, Nat.reduceLT, ↓reduceIte]
      rw [e2]
      exact ⟨o, rfl, hC⟩
end Go.PM

namespace Go.PM
open Go.Proofs
theorem CRI.frz {G : Globs} {f : FuncId} {args : List PV} {b : List Int} (h : PCalls Tryd.prog G f args [] (CRI b)) : PCalls Tryd.prog G f args [] (fun res H => res = wP b ∧ H = []) := by
  refine h.px fun res H hR => ?_
  rcases hR with ⟨rfl, rfl, rfl⟩ | ⟨N, rfl, rfl⟩
  · exact ⟨_, _, Px.nil 1 _, rfl, rfl⟩
  · have h2 := Px.freeze (G := G) (.row N 1 b.length) [(N, ⟨3, true, 1, b.map (pint .i64)⟩)] N (o := ⟨3, true, 1, b.map (pint .i64)⟩) (by simp only [look, if_true]) (by simp [frzOk, del])
    refine ⟨_, _, h2, ?_, by simp [frzH, del]⟩
    simp only [PM.frz, frz1, if_true]
    rw [if_pos ⟨by simp, by omega⟩, elemsOf, if_pos rfl, List.take_of_length_le (by simp)]
theorem CRI.frz2 {G : Globs} {f : FuncId} {args : List PV} {b : List Int} {k : Int} (h : PCalls Tryd.prog G f args [] (fun res H => ∃ o, res = .tuple [o, pint .i64 k] ∧ CRI b o H)) : PCalls Tryd.prog G f args [] (fun res H => res = .tuple [wP b, pint .i64 k] ∧ H = []) := by
  refine h.px fun res H hR => ?_
  obtain ⟨o, rfl, hR⟩ := hR
  rcases hR with ⟨rfl, rfl, rfl⟩ | ⟨N, rfl, rfl⟩
  · exact ⟨_, _, Px.nil2 1 _ _, rfl, rfl⟩
  · have h2 := Px.freeze (G := G) (.tuple [.row N 1 b.length, pint .i64 k]) [(N, ⟨3, true, 1, b.map (pint .i64)⟩)] N (o := ⟨3, true, 1, b.map (pint .i64)⟩) (by simp only [look, if_true]) (by simp [frzOk, del])
    refine ⟨_, _, h2, ?_, by simp [frzH, del]⟩
    simp only [PM.frz, frz1, if_true, List.map_cons, List.map_nil]
    rw [if_pos ⟨by simp, by omega⟩, elemsOf, if_pos rfl, List.take_of_length_le (by simp)]
theorem read_f (G : Globs) (a : List Ltr) (s : List UInt8) (ha : HA a) (hs : s.length ≤ 100000000) : PCalls Tryd.prog G 12 [ltsP a, pstr s] [] (fun res H => res = .tuple [wP (readF a s).1, pint .i64 (readF a s).2] ∧ H = []) := CRI.frz2 (read_c G a s ha hs)
attribute [local irreducible] W PCalls pcall pcallI WL
set_option maxRecDepth 100000
set_option maxHeartbeats 8000000
def safeF (a : List Ltr) (w : List Int) : Bool :=
  decide ((writeF a w).2 = 0) && (decide ((readF a (writeF a w).1).2 = -1) && decide ((readF a (writeF a w).1).1 = w))
theorem writeF_len {a : List Ltr} {w : List Int} : (writeF a w).1.length ≤ 4 * w.length := by
  unfold writeF
  split
  · split
    · exact textF_len (by assumption) w (by assumption)
    · simp
  · simp
theorem readF_len {a : List Ltr} {s : List UInt8} : (readF a s).1.length ≤ s.length := by
  unfold readF
  split
  · have := readW_le (a := a) s.length s
    simp only
    omega
  · simp
theorem safe_c (G : Globs) (a : List Ltr) (w : List Int) (ha : HA a) (hw : w.length ≤ 10000000) : PCalls Tryd.prog G 25 [ltsP a, wP w] [] (fun res H => res = pbool (safeF a w) ∧ H = []) := by
  have h1 := writeF_len (a := a) (w := w)
  have c1 := write_c G a w ha (by omega)
  have c2 := read_f G a (writeF a w).1 ha (by omega)
  have h2 := readF_len (a := a) (s := (writeF a w).1)
  have c3 := equal_c G (readF a (writeF a w).1).1 w (by omega)
  unfold safeF
  generalize readF a (writeF a w).1 = q at *
  generalize writeF a w = p at *
  by_cases hp : p.2 = 0
  · by_cases hq : q.2 = -1
    · (refine PCalls_f Tryd.func25 rfl Tryd.ntmps25 Tryd.results25 (by simp) fun fin hfin => ?_; have hnm : True := trivial; simp (maxSteps := 2000000) (disch := omega) only [evb, evd, pbuiltin, constPV, pnck, seqK, blockK, scopeK, pbin, pun, ppick, plen, piaddr, pindex, pfield, pslice, pbound, pconv, pelems, pextract, pmm, PV.mem?, PV.one, PV.cells, pageq, peqs, peq1, pmakes, pstore, pbytes, pmark, pusd, pust, psrc, pkey, pnile, pcap, pgrow, List.set, Value.cells, ↓popG_eq, ↓pop.eq_1, ↓List.getElem?_map, ↓List.getElem?_cons_zero, ↓List.getElem?_cons_succ, Value.oneCell', Nat.reduceAdd, Nat.reduceMul, Nat.reduceSub, Nat.reduceLeDiff, Nat.reduceEqDiff, ↓reduceIte, ne_eq, reduceCtorEq, forall_const, exists_and_left, exists_eq_left', eq_self, Nat.reduceLT, Int.reduceLT, Int.reduceLE, Int.reduceToNat, Int.reduceAdd, Int.reduceSub, Int.reduceNeg, hnm, Tryd.tf0, Tryd.tf1, Tryd.tf3, Tryd.tf4, Tryd.tf9, Tryd.tf22, Tryd.tf23, Tryd.tf28, Tryd.tf36, Tryd.tf42, Tryd.tf45, Tryd.teq45, Tryd.teq94, Tryd.teq104, Tryd.teq113, Tryd.teq114, Tryd.call12, Tryd.call22, Tryd.call48])
      repeat' (first
    | (with_reducible apply W_seq_k; intro nx hnx)
    | (with_reducible first | apply W_block | apply W_scope)
    | (with_reducible refine W_prune 499 ?_; simp only [prb, Nat.reducePow, Nat.reduceDiv, Nat.reduceMod, Nat.reduceBEq]; with_reducible apply W_region_l)
    | ((first | (with_reducible apply WL_op; intro nx hnx) | with_reducible refine Ev_out ?_); try (simp (maxSteps := 2000000) (disch := omega) only [evb, evd, pbuiltin, constPV, pnck, seqK, blockK, scopeK, pbin, pun, ppick, plen, piaddr, pindex, pfield, pslice, pbound, pconv, pelems, pextract, pmm, PV.mem?, PV.one, PV.cells, pageq, peqs, peq1, pmakes, pstore, pbytes, pmark, pusd, pust, psrc, pkey, pnile, pcap, pgrow, List.set, Value.cells, ↓popG_eq, ↓pop.eq_1, ↓List.getElem?_map, ↓List.getElem?_cons_zero, ↓List.getElem?_cons_succ, Value.oneCell', Nat.reduceAdd, Nat.reduceMul, Nat.reduceSub, Nat.reduceLeDiff, Nat.reduceEqDiff, ↓reduceIte, ne_eq, reduceCtorEq, forall_const, exists_and_left, exists_eq_left', eq_self, Nat.reduceLT, Int.reduceLT, Int.reduceLE, Int.reduceToNat, Int.reduceAdd, Int.reduceSub, Int.reduceNeg, hnm, Tryd.tf0, Tryd.tf1, Tryd.tf3, Tryd.tf4, Tryd.tf9, Tryd.tf22, Tryd.tf23, Tryd.tf28, Tryd.tf36, Tryd.tf42, Tryd.tf45, Tryd.teq45, Tryd.teq94, Tryd.teq104, Tryd.teq113, Tryd.teq114, Tryd.call12, Tryd.call22, Tryd.call48, hp, hq]); repeat (refine And.intro (by omega) ?_))
    | ((with_reducible first | apply WL_nil | apply W_label | apply W_skip | apply W_exit | apply W_ret); try simp only [seqK, blockK, scopeK, ↓reduceIte, Nat.reduceEqDiff])
    | (with_reducible apply pguard_intro <;> (intro hc; (try simp only [hcb, reduceCtorEq, forall_const, ne_eq] at hc); first | (exfalso; omega) | (exfalso; exact hc trivial) | refine Ev_in ?_))
    | (with_reducible apply W_cond_k; intro _ _ ea eb; (simp only [condK, cob, opnd, constPV, Nat.reduceEqDiff, Nat.reduceLT, ↓reduceIte, hcb, reduceCtorEq, forall_const, ne_eq]); subst ea eb; first | (refine ⟨fun hc => ?_, fun hc => ?_⟩ <;> first | (exfalso; omega) | (exfalso; exact hc trivial) | skip) | skip)
    | (with_reducible apply hnx; clear hnx nx)
    | (with_reducible refine And.intro (by omega) ?_)
    | (with_reducible refine And.intro ?_ ?_)
    | (with_reducible refine pcall_k (c1) ?_; rintro _ _ ⟨rfl, rfl⟩ -; refine Ev_in ?_)
    | (with_reducible refine pcall_k (c2) ?_; rintro _ _ ⟨rfl, rfl⟩ -; refine Ev_in ?_)
    | (with_reducible refine pcall_k (c3) ?_; rintro _ _ ⟨rfl, rfl⟩ -; refine Ev_in ?_)
    | (clear hnx nx; with_reducible apply hnx; clear hnx nx)
    | (clear hnx nx; clear hnx nx; with_reducible apply hnx; clear hnx nx)
    | (clear hnx nx; clear hnx nx; clear hnx nx; with_reducible apply hnx; clear hnx nx))
      all_goals first
        | exact absurd trivial hc
        | (exfalso
           omega)
        | skip
      all_goals
        refine hfin _ _ (Fin_ret1 rfl (Sub_nil _) ?_); simp only [List.getD_cons_zero, List.getD_cons_succ, fr_getD_cons, fr_getD_nil, Nat.reduceEqDiff, Nat.reduceLT, ↓reduceIte]
        exact ⟨by simp [hp, hq], by trivial⟩
    · (refine PCalls_f Tryd.func25 rfl Tryd.ntmps25 Tryd.results25 (by simp) fun fin hfin => ?_; have hnm : True := trivial; simp (maxSteps := 2000000) (disch := omega) only [evb, evd, pbuiltin, constPV, pnck, seqK, blockK, scopeK, pbin, pun, ppick, plen, piaddr, pindex, pfield, pslice, pbound, pconv, pelems, pextract, pmm, PV.mem?, PV.one, PV.cells, pageq, peqs, peq1, pmakes, pstore, pbytes, pmark, pusd, pust, psrc, pkey, pnile, pcap, pgrow, List.set, Value.cells, ↓popG_eq, ↓pop.eq_1, ↓List.getElem?_map, ↓List.getElem?_cons_zero, ↓List.getElem?_cons_succ, Value.oneCell', Nat.reduceAdd, Nat.reduceMul, Nat.reduceSub, Nat.reduceLeDiff, Nat.reduceEqDiff, ↓reduceIte, ne_eq, reduceCtorEq, forall_const, exists_and_left, exists_eq_left', eq_self, Nat.reduceLT, Int.reduceLT, Int.reduceLE, Int.reduceToNat, Int.reduceAdd, Int.reduceSub, Int.reduceNeg, hnm, Tryd.tf0, Tryd.tf1, Tryd.tf3, Tryd.tf4, Tryd.tf9, Tryd.tf22, Tryd.tf23, Tryd.tf28, Tryd.tf36, Tryd.tf42, Tryd.tf45, Tryd.teq45, Tryd.teq94, Tryd.teq104, Tryd.teq113, Tryd.teq114, Tryd.call12, Tryd.call22, Tryd.call48])
      repeat' (first
    | (with_reducible apply W_seq_k; intro nx hnx)
    | (with_reducible first | apply W_block | apply W_scope)
    | (with_reducible refine W_prune 499 ?_; simp only [prb, Nat.reducePow, Nat.reduceDiv, Nat.reduceMod, Nat.reduceBEq]; with_reducible apply W_region_l)
    | ((first | (with_reducible apply WL_op; intro nx hnx) | with_reducible refine Ev_out ?_); try (simp (maxSteps := 2000000) (disch := omega) only [evb, evd, pbuiltin, constPV, pnck, seqK, blockK, scopeK, pbin, pun, ppick, plen, piaddr, pindex, pfield, pslice, pbound, pconv, pelems, pextract, pmm, PV.mem?, PV.one, PV.cells, pageq, peqs, peq1, pmakes, pstore, pbytes, pmark, pusd, pust, psrc, pkey, pnile, pcap, pgrow, List.set, Value.cells, ↓popG_eq, ↓pop.eq_1, ↓List.getElem?_map, ↓List.getElem?_cons_zero, ↓List.getElem?_cons_succ, Value.oneCell', Nat.reduceAdd, Nat.reduceMul, Nat.reduceSub, Nat.reduceLeDiff, Nat.reduceEqDiff, ↓reduceIte, ne_eq, reduceCtorEq, forall_const, exists_and_left, exists_eq_left', eq_self, Nat.reduceLT, Int.reduceLT, Int.reduceLE, Int.reduceToNat, Int.reduceAdd, Int.reduceSub, Int.reduceNeg, hnm, Tryd.tf0, Tryd.tf1, Tryd.tf3, Tryd.tf4, Tryd.tf9, Tryd.tf22, Tryd.tf23, Tryd.tf28, Tryd.tf36, Tryd.tf42, Tryd.tf45, Tryd.teq45, Tryd.teq94, Tryd.teq104, Tryd.teq113, Tryd.teq114, Tryd.call12, Tryd.call22, Tryd.call48, hp]); repeat (refine And.intro (by omega) ?_))
    | ((with_reducible first | apply WL_nil | apply W_label | apply W_skip | apply W_exit | apply W_ret); try simp only [seqK, blockK, scopeK, ↓reduceIte, Nat.reduceEqDiff])
    | (with_reducible apply pguard_intro <;> (intro hc; (try simp only [hcb, reduceCtorEq, forall_const, ne_eq] at hc); first | (exfalso; omega) | (exfalso; exact hc trivial) | refine Ev_in ?_))
    | (with_reducible apply W_cond_k; intro _ _ ea eb; (simp only [condK, cob, opnd, constPV, Nat.reduceEqDiff, Nat.reduceLT, ↓reduceIte, hcb, reduceCtorEq, forall_const, ne_eq]); subst ea eb; first | (refine ⟨fun hc => ?_, fun hc => ?_⟩ <;> first | (exfalso; omega) | (exfalso; exact hc trivial) | skip) | skip)
    | (with_reducible apply hnx; clear hnx nx)
    | (with_reducible refine And.intro (by omega) ?_)
    | (with_reducible refine And.intro ?_ ?_)
    | (with_reducible refine pcall_k (c1) ?_; rintro _ _ ⟨rfl, rfl⟩ -; refine Ev_in ?_)
    | (with_reducible refine pcall_k (c2) ?_; rintro _ _ ⟨rfl, rfl⟩ -; refine Ev_in ?_)
    | (with_reducible refine pcall_k (c3) ?_; rintro _ _ ⟨rfl, rfl⟩ -; refine Ev_in ?_)
    | (clear hnx nx; with_reducible apply hnx; clear hnx nx)
    | (clear hnx nx; clear hnx nx; with_reducible apply hnx; clear hnx nx)
    | (clear hnx nx; clear hnx nx; clear hnx nx; with_reducible apply hnx; clear hnx nx))
      all_goals first
        | exact absurd trivial hc
        | (exfalso
           omega)
        | skip
      all_goals
        refine hfin _ _ (Fin_ret1 rfl (Sub_nil _) ?_); simp only [List.getD_cons_zero, List.getD_cons_succ, fr_getD_cons, fr_getD_nil, Nat.reduceEqDiff, Nat.reduceLT, ↓reduceIte]
        exact ⟨by simp [hp, hq], by trivial⟩
  · (refine PCalls_f Tryd.func25 rfl Tryd.ntmps25 Tryd.results25 (by simp) fun fin hfin => ?_; have hnm : True := trivial; simp (maxSteps := 2000000) (disch := omega) only [evb, evd, pbuiltin, constPV, pnck, seqK, blockK, scopeK, pbin, pun, ppick, plen, piaddr, pindex, pfield, pslice, pbound, pconv, pelems, pextract, pmm, PV.mem?, PV.one, PV.cells, pageq, peqs, peq1, pmakes, pstore, pbytes, pmark, pusd, pust, psrc, pkey, pnile, pcap, pgrow, List.set, Value.cells, ↓popG_eq, ↓pop.eq_1, ↓List.getElem?_map, ↓List.getElem?_cons_zero, ↓List.getElem?_cons_succ, Value.oneCell', Nat.reduceAdd, Nat.reduceMul, Nat.reduceSub, Nat.reduceLeDiff, Nat.reduceEqDiff, ↓reduceIte, ne_eq, reduceCtorEq, forall_const, exists_and_left, exists_eq_left', eq_self, Nat.reduceLT, Int.reduceLT, Int.reduceLE, Int.reduceToNat, Int.reduceAdd, Int.reduceSub, Int.reduceNeg, hnm, Tryd.tf0, Tryd.tf1, Tryd.tf3, Tryd.tf4, Tryd.tf9, Tryd.tf22, Tryd.tf23, Tryd.tf28, Tryd.tf36, Tryd.tf42, Tryd.tf45, Tryd.teq45, Tryd.teq94, Tryd.teq104, Tryd.teq113, Tryd.teq114, Tryd.call12, Tryd.call22, Tryd.call48])
    repeat' (first
    | (with_reducible apply W_seq_k; intro nx hnx)
    | (with_reducible first | apply W_block | apply W_scope)
    | (with_reducible refine W_prune 499 ?_; simp only [prb, Nat.reducePow, Nat.reduceDiv, Nat.reduceMod, Nat.reduceBEq]; with_reducible apply W_region_l)
    | ((first | (with_reducible apply WL_op; intro nx hnx) | with_reducible refine Ev_out ?_); try (simp (maxSteps := 2000000) (disch := omega) only [evb, evd, pbuiltin, constPV, pnck, seqK, blockK, scopeK, pbin, pun, ppick, plen, piaddr, pindex, pfield, pslice, pbound, pconv, pelems, pextract, pmm, PV.mem?, PV.one, PV.cells, pageq, peqs, peq1, pmakes, pstore, pbytes, pmark, pusd, pust, psrc, pkey, pnile, pcap, pgrow, List.set, Value.cells, ↓popG_eq, ↓pop.eq_1, ↓List.getElem?_map, ↓List.getElem?_cons_zero, ↓List.getElem?_cons_succ, Value.oneCell', Nat.reduceAdd, Nat.reduceMul, Nat.reduceSub, Nat.reduceLeDiff, Nat.reduceEqDiff, ↓reduceIte, ne_eq, reduceCtorEq, forall_const, exists_and_left, exists_eq_left', eq_self, Nat.reduceLT, Int.reduceLT, Int.reduceLE, Int.reduceToNat, Int.reduceAdd, Int.reduceSub, Int.reduceNeg, hnm, Tryd.tf0, Tryd.tf1, Tryd.tf3, Tryd.tf4, Tryd.tf9, Tryd.tf22, Tryd.tf23, Tryd.tf28, Tryd.tf36, Tryd.tf42, Tryd.tf45, Tryd.teq45, Tryd.teq94, Tryd.teq104, Tryd.teq113, Tryd.teq114, Tryd.call12, Tryd.call22, Tryd.call48]); repeat (refine And.intro (by omega) ?_))
    | ((with_reducible first | apply WL_nil | apply W_label | apply W_skip | apply W_exit | apply W_ret); try simp only [seqK, blockK, scopeK, ↓reduceIte, Nat.reduceEqDiff])
    | (with_reducible apply pguard_intro <;> (intro hc; (try simp only [hcb, reduceCtorEq, forall_const, ne_eq] at hc); first | (exfalso; omega) | (exfalso; exact hc trivial) | refine Ev_in ?_))
    | (with_reducible apply W_cond_k; intro _ _ ea eb; (simp only [condK, cob, opnd, constPV, Nat.reduceEqDiff, Nat.reduceLT, ↓reduceIte, hcb, reduceCtorEq, forall_const, ne_eq]); subst ea eb; first | (refine ⟨fun hc => ?_, fun hc => ?_⟩ <;> first | (exfalso; omega) | (exfalso; exact hc trivial) | skip) | skip)
    | (with_reducible apply hnx; clear hnx nx)
    | (with_reducible refine And.intro (by omega) ?_)
    | (with_reducible refine And.intro ?_ ?_)
    | (with_reducible refine pcall_k (c1) ?_; rintro _ _ ⟨rfl, rfl⟩ -; refine Ev_in ?_)
    | (with_reducible refine pcall_k (c2) ?_; rintro _ _ ⟨rfl, rfl⟩ -; refine Ev_in ?_)
    | (with_reducible refine pcall_k (c3) ?_; rintro _ _ ⟨rfl, rfl⟩ -; refine Ev_in ?_)
    | (clear hnx nx; with_reducible apply hnx; clear hnx nx)
    | (clear hnx nx; clear hnx nx; with_reducible apply hnx; clear hnx nx)
    | (clear hnx nx; clear hnx nx; clear hnx nx; with_reducible apply hnx; clear hnx nx))
    all_goals first
      | exact absurd trivial hc
      | (exfalso
         omega)
      | skip
    all_goals
      refine hfin _ _ (Fin_ret1 rfl (Sub_nil _) ?_); simp only [List.getD_cons_zero, List.getD_cons_succ, fr_getD_cons, fr_getD_nil, Nat.reduceEqDiff, Nat.reduceLT, ↓reduceIte]
      exact ⟨by simp [hp], by trivial⟩
end Go.PM

namespace Go.PM
open Go.Proofs
attribute [local irreducible] W PCalls pcall pcallI WL
set_option maxRecDepth 100000
set_option maxHeartbeats 8000000
end Go.PM

namespace Go.PM
open Go.Proofs
attribute [local irreducible] W PCalls pcall pcallI WL
set_option maxRecDepth 100000
set_option maxHeartbeats 8000000
theorem index60_c (G : Globs) (s : List UInt8) (c : UInt8) : PCalls Tryd.prog G 60 [pstr s, .val (.string ⟨#[c]⟩)] [] (fun res H => res = pint .i64 (Lib.indexByte s c) ∧ H = []) :=
  PCalls_pure (P := Tryd.prog) (G := G) (f := 60) [.string (mk s), .string ⟨#[c]⟩] (.int .i64 (Lib.indexByte s c)) (fun w => by
    have := Tryd.stringslite_Index_one (mk s) c w
    simpa [mk] using this)
theorem indexByte_lt (c : UInt8) : ∀ l : List UInt8, Lib.indexByte l c < l.length
  | [] => by simp [Lib.indexByte]
  | x :: r => by
    have h1 := indexByte_lt c r
    unfold Lib.indexByte
    split
    · simp only [List.length_cons]
      omega
    · split
      · simp only [List.length_cons]
        omega
      · simp only [List.length_cons]
        omega
/-- A text up to a byte, and what follows it. -/
def cutF (s : List UInt8) (c : UInt8) : List UInt8 × List UInt8 × Bool :=
  if 0 ≤ Lib.indexByte s c then (s.take (Lib.indexByte s c).toNat, s.drop ((Lib.indexByte s c).toNat + 1), true) else (s, [], false)
theorem cutB_c (G : Globs) (s : List UInt8) (c : UInt8) (hs : (s.length : Int) ≤ 9223372036854775806) : PCalls Tryd.prog G 53 [pstr s, .val (.string ⟨#[c]⟩)] [] (fun res H => res = .tuple [pstr (cutF s c).1, pstr (cutF s c).2.1, pbool (cutF s c).2.2] ∧ H = []) := by
  have c1 := index60_c G s c
  have h1 := indexByte_lt c s
  have h2 := (indexByte_iff c s).2
  unfold cutF
  generalize Lib.indexByte s c = k at *
  by_cases hk : 0 ≤ k
  · obtain ⟨n, rfl⟩ : ∃ n : Nat, k = n := ⟨k.toNat, by omega⟩
    have hn1 : ((n : Int) + 1).toNat = n + 1 := by omega
    (refine PCalls_f Tryd.func53 rfl Tryd.ntmps53 Tryd.results53 (by simp) fun fin hfin => ?_; have hnm : True := trivial; simp (maxSteps := 2000000) (disch := omega) only [evb, evd, pbuiltin, constPV, pnck, seqK, blockK, scopeK, pbin, pun, ppick, plen, piaddr, pindex, pfield, pslice, pbound, pconv, pelems, pextract, pmm, PV.mem?, PV.one, PV.cells, pageq, peqs, peq1, pmakes, pstore, pbytes, pmark, pusd, pust, psrc, pkey, pnile, pcap, pgrow, List.set, Value.cells, ↓popG_eq, ↓pop.eq_1, ↓List.getElem?_map, ↓List.getElem?_cons_zero, ↓List.getElem?_cons_succ, Value.oneCell', Nat.reduceAdd, Nat.reduceMul, Nat.reduceSub, Nat.reduceLeDiff, Nat.reduceEqDiff, ↓reduceIte, ne_eq, reduceCtorEq, forall_const, exists_and_left, exists_eq_left', eq_self, Nat.reduceLT, Int.reduceLT, Int.reduceLE, Int.reduceToNat, Int.reduceAdd, Int.reduceSub, Int.reduceNeg, hnm, Tryd.tf3, Tryd.tf4, Tryd.tf9, Tryd.teq45, Tryd.teq94, Tryd.teq104, Tryd.teq113, Tryd.teq114, Tryd.call60])
    repeat' (first
    | (with_reducible apply W_seq_k; intro nx hnx)
    | (with_reducible first | apply W_block | apply W_scope)
    | (with_reducible refine W_prune 243 ?_; simp only [prb, Nat.reducePow, Nat.reduceDiv, Nat.reduceMod, Nat.reduceBEq]; first | (with_reducible apply W_region_l) | with_reducible refine W_region_draw (id := 3) 1 (.op 0 true (.op 1 true (.op 2 true (.op 3 true (.op 4 true (.op 5 true (.op 6 true (.op 7 true (.op 8 true (.op 9 true (.op 10 true (.op 11 true (.done))))))))))))) (by kernel_rfl) ?_)
    | ((first | (with_reducible apply WL_op; intro nx hnx) | with_reducible refine Ev_out ?_ | (with_reducible apply popsD_op; intro nx hnx) | (with_reducible refine popsD_alt ?_ ?_; intro nx hnx)); try (simp (maxSteps := 2000000) (disch := omega) only [evb, evd, pbuiltin, constPV, pnck, seqK, blockK, scopeK, pbin, pun, ppick, plen, piaddr, pindex, pfield, pslice, pbound, pconv, pelems, pextract, pmm, PV.mem?, PV.one, PV.cells, pageq, peqs, peq1, pmakes, pstore, pbytes, pmark, pusd, pust, psrc, pkey, pnile, pcap, pgrow, List.set, Value.cells, ↓popG_eq, ↓pop.eq_1, ↓List.getElem?_map, ↓List.getElem?_cons_zero, ↓List.getElem?_cons_succ, Value.oneCell', Nat.reduceAdd, Nat.reduceMul, Nat.reduceSub, Nat.reduceLeDiff, Nat.reduceEqDiff, ↓reduceIte, ne_eq, reduceCtorEq, forall_const, exists_and_left, exists_eq_left', eq_self, Nat.reduceLT, Int.reduceLT, Int.reduceLE, Int.reduceToNat, Int.reduceAdd, Int.reduceSub, Int.reduceNeg, hnm, Tryd.tf3, Tryd.tf4, Tryd.tf9, Tryd.teq45, Tryd.teq94, Tryd.teq104, Tryd.teq113, Tryd.teq114, Tryd.call60, hn1, List.take_length]); repeat (refine And.intro (by omega) ?_))
    | ((with_reducible first | apply WL_nil | apply W_label | apply W_skip | apply W_exit | apply W_ret | apply popsD_done); try simp only [seqK, blockK, scopeK, ↓reduceIte, Nat.reduceEqDiff])
    | with_reducible exact popsD_stop
    | (with_reducible apply W_cond_k; intro _ _ ea eb; (simp only [condK, cob, opnd, constPV, Nat.reduceEqDiff, Nat.reduceLT, ↓reduceIte, hcb, reduceCtorEq, forall_const, ne_eq]); subst ea eb; first | (refine ⟨fun hc => ?_, fun hc => ?_⟩ <;> first | (exfalso; omega) | (exfalso; exact hc trivial) | skip) | skip)
    | (with_reducible apply hnx; clear hnx nx)
    | (with_reducible refine And.intro (by omega) ?_)
    | (with_reducible refine And.intro ?_ ?_)
    | (with_reducible refine pcall_k (c1) ?_; rintro _ _ ⟨rfl, rfl⟩ -; refine Ev_in ?_)
    | (clear hnx nx; with_reducible apply hnx; clear hnx nx)
    | (clear hnx nx; clear hnx nx; with_reducible apply hnx; clear hnx nx)
    | (clear hnx nx; clear hnx nx; clear hnx nx; with_reducible apply hnx; clear hnx nx))
    all_goals first
      | exact absurd trivial hc
      | (exfalso
         omega)
      | skip
    all_goals
      refine hfin _ _ (Fin_ret3 rfl rfl rfl (Sub_nil _) ?_); simp only [List.getD_cons_zero, List.getD_cons_succ, fr_getD_cons, fr_getD_nil, Nat.reduceEqDiff, Nat.reduceLT, ↓reduceIte]
      rw [if_pos hk]
      simp
  · (refine PCalls_f Tryd.func53 rfl Tryd.ntmps53 Tryd.results53 (by simp) fun fin hfin => ?_; have hnm : True := trivial; simp (maxSteps := 2000000) (disch := omega) only [evb, evd, pbuiltin, constPV, pnck, seqK, blockK, scopeK, pbin, pun, ppick, plen, piaddr, pindex, pfield, pslice, pbound, pconv, pelems, pextract, pmm, PV.mem?, PV.one, PV.cells, pageq, peqs, peq1, pmakes, pstore, pbytes, pmark, pusd, pust, psrc, pkey, pnile, pcap, pgrow, List.set, Value.cells, ↓popG_eq, ↓pop.eq_1, ↓List.getElem?_map, ↓List.getElem?_cons_zero, ↓List.getElem?_cons_succ, Value.oneCell', Nat.reduceAdd, Nat.reduceMul, Nat.reduceSub, Nat.reduceLeDiff, Nat.reduceEqDiff, ↓reduceIte, ne_eq, reduceCtorEq, forall_const, exists_and_left, exists_eq_left', eq_self, Nat.reduceLT, Int.reduceLT, Int.reduceLE, Int.reduceToNat, Int.reduceAdd, Int.reduceSub, Int.reduceNeg, hnm, Tryd.tf3, Tryd.tf4, Tryd.tf9, Tryd.teq45, Tryd.teq94, Tryd.teq104, Tryd.teq113, Tryd.teq114, Tryd.call60])
    repeat' (first
    | (with_reducible apply W_seq_k; intro nx hnx)
    | (with_reducible first | apply W_block | apply W_scope)
    | (with_reducible refine W_prune 243 ?_; simp only [prb, Nat.reducePow, Nat.reduceDiv, Nat.reduceMod, Nat.reduceBEq]; first | (with_reducible apply W_region_l) | with_reducible refine W_region_draw (id := 3) 1 (.op 0 true (.op 1 true (.op 2 true (.op 3 true (.op 4 true (.op 5 true (.op 6 true (.op 7 true (.op 8 true (.op 9 true (.op 10 true (.op 11 true (.done))))))))))))) (by kernel_rfl) ?_)
    | ((first | (with_reducible apply WL_op; intro nx hnx) | with_reducible refine Ev_out ?_ | (with_reducible apply popsD_op; intro nx hnx) | (with_reducible refine popsD_alt ?_ ?_; intro nx hnx)); try (simp (maxSteps := 2000000) (disch := omega) only [evb, evd, pbuiltin, constPV, pnck, seqK, blockK, scopeK, pbin, pun, ppick, plen, piaddr, pindex, pfield, pslice, pbound, pconv, pelems, pextract, pmm, PV.mem?, PV.one, PV.cells, pageq, peqs, peq1, pmakes, pstore, pbytes, pmark, pusd, pust, psrc, pkey, pnile, pcap, pgrow, List.set, Value.cells, ↓popG_eq, ↓pop.eq_1, ↓List.getElem?_map, ↓List.getElem?_cons_zero, ↓List.getElem?_cons_succ, Value.oneCell', Nat.reduceAdd, Nat.reduceMul, Nat.reduceSub, Nat.reduceLeDiff, Nat.reduceEqDiff, ↓reduceIte, ne_eq, reduceCtorEq, forall_const, exists_and_left, exists_eq_left', eq_self, Nat.reduceLT, Int.reduceLT, Int.reduceLE, Int.reduceToNat, Int.reduceAdd, Int.reduceSub, Int.reduceNeg, hnm, Tryd.tf3, Tryd.tf4, Tryd.tf9, Tryd.teq45, Tryd.teq94, Tryd.teq104, Tryd.teq113, Tryd.teq114, Tryd.call60]); repeat (refine And.intro (by omega) ?_))
    | ((with_reducible first | apply WL_nil | apply W_label | apply W_skip | apply W_exit | apply W_ret | apply popsD_done); try simp only [seqK, blockK, scopeK, ↓reduceIte, Nat.reduceEqDiff])
    | with_reducible exact popsD_stop
    | (with_reducible apply W_cond_k; intro _ _ ea eb; (simp only [condK, cob, opnd, constPV, Nat.reduceEqDiff, Nat.reduceLT, ↓reduceIte, hcb, reduceCtorEq, forall_const, ne_eq]); subst ea eb; first | (refine ⟨fun hc => ?_, fun hc => ?_⟩ <;> first | (exfalso; omega) | (exfalso; exact hc trivial) | skip) | skip)
    | (with_reducible apply hnx; clear hnx nx)
    | (with_reducible refine And.intro (by omega) ?_)
    | (with_reducible refine And.intro ?_ ?_)
    | (with_reducible refine pcall_k (c1) ?_; rintro _ _ ⟨rfl, rfl⟩ -; refine Ev_in ?_)
    | (clear hnx nx; with_reducible apply hnx; clear hnx nx)
    | (clear hnx nx; clear hnx nx; with_reducible apply hnx; clear hnx nx)
    | (clear hnx nx; clear hnx nx; clear hnx nx; with_reducible apply hnx; clear hnx nx))
    all_goals first
      | exact absurd trivial hc
      | (exfalso
         omega)
      | skip
    all_goals
      refine hfin _ _ (Fin_ret3 rfl rfl rfl (Sub_nil _) ?_); simp only [List.getD_cons_zero, List.getD_cons_succ, fr_getD_cons, fr_getD_nil, Nat.reduceEqDiff, Nat.reduceLT, ↓reduceIte]
      rw [if_neg hk]
      exact ⟨rfl, by trivial⟩
theorem cut_c (G : Globs) (s : List UInt8) (c : UInt8) (hs : (s.length : Int) ≤ 9223372036854775806) : PCalls Tryd.prog G 37 [pstr s, .val (.string ⟨#[c]⟩)] [] (fun res H => res = .tuple [pstr (cutF s c).1, pstr (cutF s c).2.1, pbool (cutF s c).2.2] ∧ H = []) := by
  have c1 := cutB_c G s c hs
  (refine PCalls_f Tryd.func37 rfl Tryd.ntmps37 Tryd.results37 (by simp) fun fin hfin => ?_; have hnm : True := trivial; simp (maxSteps := 2000000) (disch := omega) only [evb, evd, pbuiltin, constPV, pnck, seqK, blockK, scopeK, pbin, pun, ppick, plen, piaddr, pindex, pfield, pslice, pbound, pconv, pelems, pextract, pmm, PV.mem?, PV.one, PV.cells, pageq, peqs, peq1, pmakes, pstore, pbytes, pmark, pusd, pust, psrc, pkey, pnile, pcap, pgrow, List.set, Value.cells, ↓popG_eq, ↓pop.eq_1, ↓List.getElem?_map, ↓List.getElem?_cons_zero, ↓List.getElem?_cons_succ, Value.oneCell', Nat.reduceAdd, Nat.reduceMul, Nat.reduceSub, Nat.reduceLeDiff, Nat.reduceEqDiff, ↓reduceIte, ne_eq, reduceCtorEq, forall_const, exists_and_left, exists_eq_left', eq_self, Nat.reduceLT, Int.reduceLT, Int.reduceLE, Int.reduceToNat, Int.reduceAdd, Int.reduceSub, Int.reduceNeg, hnm, Tryd.tf0, Tryd.tf1, Tryd.tf2, Tryd.tf4, Tryd.tf9, Tryd.teq45, Tryd.tf59, Tryd.teq94, Tryd.teq104, Tryd.teq113, Tryd.teq114, Tryd.call53])
  repeat' (first
    | (with_reducible apply W_seq_k; intro nx hnx)
    | (with_reducible first | apply W_block | apply W_scope)
    | (with_reducible refine W_prune 115 ?_; simp only [prb, Nat.reducePow, Nat.reduceDiv, Nat.reduceMod, Nat.reduceBEq]; with_reducible apply W_region_l)
    | ((first | (with_reducible apply WL_op; intro nx hnx) | with_reducible refine Ev_out ?_); try (simp (maxSteps := 2000000) (disch := omega) only [evb, evd, pbuiltin, constPV, pnck, seqK, blockK, scopeK, pbin, pun, ppick, plen, piaddr, pindex, pfield, pslice, pbound, pconv, pelems, pextract, pmm, PV.mem?, PV.one, PV.cells, pageq, peqs, peq1, pmakes, pstore, pbytes, pmark, pusd, pust, psrc, pkey, pnile, pcap, pgrow, List.set, Value.cells, ↓popG_eq, ↓pop.eq_1, ↓List.getElem?_map, ↓List.getElem?_cons_zero, ↓List.getElem?_cons_succ, Value.oneCell', Nat.reduceAdd, Nat.reduceMul, Nat.reduceSub, Nat.reduceLeDiff, Nat.reduceEqDiff, ↓reduceIte, ne_eq, reduceCtorEq, forall_const, exists_and_left, exists_eq_left', eq_self, Nat.reduceLT, Int.reduceLT, Int.reduceLE, Int.reduceToNat, Int.reduceAdd, Int.reduceSub, Int.reduceNeg, hnm, Tryd.tf0, Tryd.tf1, Tryd.tf2, Tryd.tf4, Tryd.tf9, Tryd.teq45, Tryd.tf59, Tryd.teq94, Tryd.teq104, Tryd.teq113, Tryd.teq114, Tryd.call53]); repeat (refine And.intro (by omega) ?_))
    | ((with_reducible first | apply WL_nil | apply W_label | apply W_skip | apply W_exit | apply W_ret); try simp only [seqK, blockK, scopeK, ↓reduceIte, Nat.reduceEqDiff])
    | (with_reducible apply W_cond_k; intro _ _ ea eb; (simp only [condK, cob, opnd, constPV, Nat.reduceEqDiff, Nat.reduceLT, ↓reduceIte, hcb, reduceCtorEq, forall_const, ne_eq]); subst ea eb; first | (refine ⟨fun hc => ?_, fun hc => ?_⟩ <;> first | (exfalso; omega) | (exfalso; exact hc trivial) | skip) | skip)
    | (with_reducible apply hnx; clear hnx nx)
    | (with_reducible refine And.intro (by omega) ?_)
    | (with_reducible refine And.intro ?_ ?_)
    | (with_reducible refine pcall_k (c1) ?_; rintro _ _ ⟨rfl, rfl⟩ -; refine Ev_in ?_)
    | (clear hnx nx; with_reducible apply hnx; clear hnx nx)
    | (clear hnx nx; clear hnx nx; with_reducible apply hnx; clear hnx nx)
    | (clear hnx nx; clear hnx nx; clear hnx nx; with_reducible apply hnx; clear hnx nx))
  all_goals
    refine hfin _ _ (Fin_ret3 rfl rfl rfl (Sub_nil _) ?_); simp only [List.getD_cons_zero, List.getD_cons_succ, fr_getD_cons, fr_getD_nil, Nat.reduceEqDiff, Nat.reduceLT, ↓reduceIte]
    simp
end Go.PM

namespace Go.PM
open Go.Proofs
attribute [local irreducible] W PCalls pcall pcallI WL
set_option maxRecDepth 100000
set_option maxHeartbeats 8000000
theorem wr8 (x : Int) (h0 : 0 ≤ x) (h1 : x < 256) : IntKind.u8.wrap x = x := by
  simp [IntKind.wrap, IntKind.bits, IntKind.signed]
  omega
def dig (c : UInt8) : Bool := decide (48 ≤ (c.toNat : Int)) && decide ((c.toNat : Int) ≤ 57)
def valN (s : List UInt8) : Int := s.foldl (fun n c => 10 * n + ((c.toNat : Int) - 48)) 0
def numB (s : List UInt8) : Bool := decide (1 ≤ s.length) && decide (s.length ≤ 6) && !(decide (1 < s.length) && decide ((s.getD 0 0).toNat = 48)) && s.all dig
def numF (s : List UInt8) : Int × Bool := if numB s then (valN s, true) else (0, false)
theorem valN_snoc (s : List UInt8) (c : UInt8) : valN (s ++ [c]) = 10 * valN s + ((c.toNat : Int) - 48) := by
  simp [valN]
theorem number_c (G : Globs) (s : List UInt8) (hs : (s.length : Int) ≤ 9223372036854775807) : PCalls Tryd.prog G 39 [pstr s] [] (fun res H => res = .tuple [pint .i64 (numF s).1, pbool (numF s).2] ∧ H = []) := by
  have c1 := within_c G s.length 1 6
  have c1 : PCalls Tryd.prog G 45 [pint .i64 s.length, .val (.int .i64 1), .val (.int .i64 6)] [] _ := c1
  by_cases hl : 1 ≤ s.length ∧ s.length ≤ 6
  · have hl1 : 1 ≤ (s.length : Int) := by omega
    have hl2 : (s.length : Int) ≤ 6 := by omega
    rw [decide_eq_true hl1, decide_eq_true hl2] at c1
    (refine PCalls_f Tryd.func39 rfl Tryd.ntmps39 Tryd.results39 (by simp) fun fin hfin => ?_; have hnm : True := trivial; simp (maxSteps := 2000000) (disch := omega) only [evb, evd, pbuiltin, constPV, pnck, seqK, blockK, scopeK, pbin, pun, ppick, plen, piaddr, pindex, pfield, pslice, pbound, pconv, pelems, pextract, pmm, PV.mem?, PV.one, PV.cells, pageq, peqs, peq1, pmakes, pstore, pbytes, pmark, pusd, pust, psrc, pkey, pnile, pcap, pgrow, List.set, Value.cells, ↓popG_eq, ↓pop.eq_1, ↓List.getElem?_map, ↓List.getElem?_cons_zero, ↓List.getElem?_cons_succ, Value.oneCell', Nat.reduceAdd, Nat.reduceMul, Nat.reduceSub, Nat.reduceLeDiff, Nat.reduceEqDiff, ↓reduceIte, ne_eq, reduceCtorEq, forall_const, exists_and_left, exists_eq_left', eq_self, Nat.reduceLT, Int.reduceLT, Int.reduceLE, Int.reduceToNat, Int.reduceAdd, Int.reduceSub, Int.reduceNeg, hnm, Tryd.tf3, Tryd.tf4, Tryd.tf5, Tryd.tf9, Tryd.teq45, Tryd.teq94, Tryd.teq104, Tryd.teq113, Tryd.teq114, Tryd.call45])
    repeat' (first
    | (with_reducible apply W_seq_k; intro nx hnx)
    | (with_reducible first | apply W_block | apply W_scope)
    | (with_reducible refine W_prune 6291517 ?_; simp only [prb, Nat.reducePow, Nat.reduceDiv, Nat.reduceMod, Nat.reduceBEq]; with_reducible apply W_region_l)
    | ((first | (with_reducible apply WL_op; intro nx hnx) | with_reducible refine Ev_out ?_ | (with_reducible refine pfresh_k hnm fun nm hnm => ?_; (try simp only [fmb] at hnm)) | (with_reducible refine pborn_mu hnm fun nm hnm => ?_; (try simp only [fmb] at hnm))); try (simp (maxSteps := 2000000) (disch := omega) only [evb, evd, pbuiltin, constPV, pnck, seqK, blockK, scopeK, pbin, pun, ppick, plen, piaddr, pindex, pfield, pslice, pbound, pconv, pelems, pextract, pmm, PV.mem?, PV.one, PV.cells, pageq, peqs, peq1, pmakes, pstore, pbytes, pmark, pusd, pust, psrc, pkey, pnile, pcap, pgrow, List.set, Value.cells, ↓popG_eq, ↓pop.eq_1, ↓List.getElem?_map, ↓List.getElem?_cons_zero, ↓List.getElem?_cons_succ, Value.oneCell', Nat.reduceAdd, Nat.reduceMul, Nat.reduceSub, Nat.reduceLeDiff, Nat.reduceEqDiff, ↓reduceIte, ne_eq, reduceCtorEq, forall_const, exists_and_left, exists_eq_left', eq_self, Nat.reduceLT, Int.reduceLT, Int.reduceLE, Int.reduceToNat, Int.reduceAdd, Int.reduceSub, Int.reduceNeg, hnm, Tryd.tf3, Tryd.tf4, Tryd.tf5, Tryd.tf9, Tryd.teq45, Tryd.teq94, Tryd.teq104, Tryd.teq113, Tryd.teq114, Tryd.call45]); repeat (refine And.intro (by omega) ?_))
    | ((with_reducible first | apply WL_nil | apply W_label | apply W_skip | apply W_exit | apply W_ret); try simp only [seqK, blockK, scopeK, ↓reduceIte, Nat.reduceEqDiff])
    | (with_reducible apply pguard_intro <;> (intro hc; (try simp only [hcb, reduceCtorEq, forall_const, ne_eq] at hc); first | (exfalso; omega) | (exfalso; exact hc trivial) | refine Ev_in ?_))
    | (with_reducible apply W_cond_k; intro _ _ ea eb; (simp only [condK, cob, opnd, constPV, Nat.reduceEqDiff, Nat.reduceLT, ↓reduceIte, hcb, reduceCtorEq, forall_const, ne_eq]); subst ea eb; first | (refine ⟨fun hc => ?_, fun hc => ?_⟩ <;> first | (exfalso; omega) | (exfalso; exact hc trivial) | skip) | skip)
    | (with_reducible apply hnx; clear hnx nx)
    | (with_reducible refine And.intro (by omega) ?_)
    | (with_reducible refine And.intro ?_ ?_)
    | (with_reducible refine pcall_k (c1) ?_; rintro _ _ ⟨rfl, rfl⟩ -; refine Ev_in ?_)
    | (clear hnx nx; with_reducible apply hnx; clear hnx nx)
    | (clear hnx nx; clear hnx nx; with_reducible apply hnx; clear hnx nx)
    | (clear hnx nx; clear hnx nx; clear hnx nx; with_reducible apply hnx; clear hnx nx))
    all_goals first
      | exact absurd trivial hc
      | exact fun h => False.elim h
      | (exfalso
         omega)
      | (exfalso
         have hc := of_decide_eq_false hc
         omega)
      | skip
    · have hn : numB s = false := by
        have h1 : 1 < s.length := by omega
        have h2 : (s.getD 0 0).toNat = 48 := by omega
        simp only [numB]
        rw [h2]
        simp [h1]
      refine hfin _ _ (Fin_ret2 rfl rfl (Sub_nil _) ?_); simp only [List.getD_cons_zero, List.getD_cons_succ, fr_getD_cons, fr_getD_nil, Nat.reduceEqDiff, Nat.reduceLT, ↓reduceIte]
      exact ⟨by simp [numF, hn], by trivial⟩
    all_goals
      have hz : numB s = s.all dig := by
        have h2 : ¬ (1 < s.length ∧ (s.getD 0 0).toNat = 48) := by omega
        simp only [numB]
        rw [decide_eq_true hl.1, decide_eq_true hl.2, ← Bool.decide_and, decide_eq_false h2]
        simp
      clear hc
      refine W_loop_k (fun z τ => ∃ i : Nat, i ≤ s.length ∧ z = s.length - i ∧ s.all dig = (s.drop i).all dig ∧ 0 ≤ valN (s.take i) ∧ valN (s.take i) < 10 ^ i ∧ τ = ⟨fr 41 [(22, pn i), (21, pint .i64 s.length), (4, pint .i64 (valN (s.take i))), (0, pstr s)], []⟩) s.length
        ⟨fr 41 [(22, pn 0), (21, pint .i64 s.length), (4, pint .i64 (valN (s.take 0))), (0, pstr s)], []⟩ (by
        exact Wk_fr (by simp only [wkb, Nat.reduceEqDiff, Nat.reduceLT, ↓reduceIte, pn, List.take_zero, valN, List.foldl_nil]) (Sub_nil _)) ⟨0, by omega, by omega, rfl, by simp [valN], by simp [valN], rfl⟩ ?_
      rintro z τ ⟨i, hi, rfl, hall, hv0, hv1, rfl⟩ lp hlp
      have h10 : (10 : Int) ^ i ≤ 10 ^ 6 := by
        have : (10 : Nat) ^ i ≤ 10 ^ 6 := Nat.pow_le_pow_right (by omega) (by omega)
        exact_mod_cast this
      by_cases hil : i < s.length
      · rw [List.drop_eq_getElem_cons hil, List.all_cons] at hall
        have hget : s.getD i 0 = s[i] := by rw [List.getD_eq_getElem?_getD, List.getElem?_eq_getElem hil]; rfl
        have hsn : s.take (i + 1) = s.take i ++ [s[i]] := by rw [List.take_add_one, List.getElem?_eq_getElem hil]; rfl
        have hvn : valN (s.take (i + 1)) = 10 * valN (s.take i) + ((s[i].toNat : Int) - 48) := by rw [hsn, valN_snoc]
        have c2 := within_c G s[i].toNat 48 57
        have c2 : PCalls Tryd.prog G 45 [pint .i64 s[i].toNat, .val (.int .i64 48), .val (.int .i64 57)] [] _ := c2
        by_cases hd : 48 ≤ (s[i].toNat : Int) ∧ (s[i].toNat : Int) ≤ 57
        · rw [decide_eq_true hd.1, decide_eq_true hd.2] at c2
          have hdig : dig s[i] = true := by simp [dig, hd]
          rw [hdig, Bool.true_and] at hall
          generalize s[i] = c at *
          have hw8 : IntKind.u8.wrap ((c.toNat : Int) - 48) = (c.toNat : Int) - 48 := wr8 _ (by omega) (by omega)
          generalize valN (s.take i) = n at *
          repeat' (first
    | (with_reducible apply W_seq_k; intro nx hnx)
    | (with_reducible first | apply W_block | apply W_scope)
    | (with_reducible refine W_prune 6291517 ?_; simp only [prb, Nat.reducePow, Nat.reduceDiv, Nat.reduceMod, Nat.reduceBEq]; with_reducible apply W_region_l)
    | ((first | (with_reducible apply WL_op; intro nx hnx) | with_reducible refine Ev_out ?_ | (with_reducible refine pfresh_k hnm fun nm hnm => ?_; (try simp only [fmb] at hnm)) | (with_reducible refine pborn_mu hnm fun nm hnm => ?_; (try simp only [fmb] at hnm))); try (simp (maxSteps := 2000000) (disch := omega) only [evb, evd, pbuiltin, constPV, pnck, seqK, blockK, scopeK, pbin, pun, ppick, plen, piaddr, pindex, pfield, pslice, pbound, pconv, pelems, pextract, pmm, PV.mem?, PV.one, PV.cells, pageq, peqs, peq1, pmakes, pstore, pbytes, pmark, pusd, pust, psrc, pkey, pnile, pcap, pgrow, List.set, Value.cells, ↓popG_eq, ↓pop.eq_1, ↓List.getElem?_map, ↓List.getElem?_cons_zero, ↓List.getElem?_cons_succ, Value.oneCell', Nat.reduceAdd, Nat.reduceMul, Nat.reduceSub, Nat.reduceLeDiff, Nat.reduceEqDiff, ↓reduceIte, ne_eq, reduceCtorEq, forall_const, exists_and_left, exists_eq_left', eq_self, Nat.reduceLT, Int.reduceLT, Int.reduceLE, Int.reduceToNat, Int.reduceAdd, Int.reduceSub, Int.reduceNeg, hnm, Tryd.tf3, Tryd.tf4, Tryd.tf5, Tryd.tf9, Tryd.teq45, Tryd.teq94, Tryd.teq104, Tryd.teq113, Tryd.teq114, Tryd.call45, hget, hw8]); repeat (refine And.intro (by omega) ?_))
    | ((with_reducible first | apply WL_nil | apply W_label | apply W_skip | apply W_exit | apply W_ret); try simp only [seqK, blockK, scopeK, ↓reduceIte, Nat.reduceEqDiff])
    | (with_reducible apply pguard_intro <;> (intro hc; (try simp only [hcb, reduceCtorEq, forall_const, ne_eq] at hc); first | (exfalso; omega) | (exfalso; exact hc trivial) | refine Ev_in ?_))
    | (with_reducible apply W_cond_k; intro _ _ ea eb; (simp only [condK, cob, opnd, constPV, Nat.reduceEqDiff, Nat.reduceLT, ↓reduceIte, hcb, reduceCtorEq, forall_const, ne_eq]); subst ea eb; first | (refine ⟨fun hc => ?_, fun hc => ?_⟩ <;> first | (exfalso; omega) | (exfalso; exact hc trivial) | skip) | skip)
    | (with_reducible apply hnx; clear hnx nx)
    | (with_reducible refine And.intro (by omega) ?_)
    | (with_reducible refine And.intro ?_ ?_)
    | (with_reducible refine pcall_k (c2) ?_; rintro _ _ ⟨rfl, rfl⟩ -; refine Ev_in ?_)
    | (clear hnx nx; with_reducible apply hnx; clear hnx nx)
    | (clear hnx nx; clear hnx nx; with_reducible apply hnx; clear hnx nx)
    | (clear hnx nx; clear hnx nx; clear hnx nx; with_reducible apply hnx; clear hnx nx))
          all_goals first
            | exact absurd trivial hc
            | exact fun h => False.elim h
            | (exfalso
               omega)
            | (exfalso
               have hc := of_decide_eq_false hc
               omega)
            | skip
          all_goals
            refine hlp _ (s.length - (i + 1)) _ (by omega) ?_ ⟨i + 1, by omega, rfl, hall, by rw [hvn]; omega, by rw [hvn, Int.pow_succ]; omega, rfl⟩
            rw [hvn]
            exact Wk_fr (by simp only [wkb, Nat.reduceEqDiff, Nat.reduceLT, ↓reduceIte, pn]) (Sub_nil _)
        · have hdig : dig s[i] = false := by
            simp only [dig]
            by_cases h1 : 48 ≤ (s[i].toNat : Int)
            · have h2 : ¬ (s[i].toNat : Int) ≤ 57 := fun h => hd ⟨h1, h⟩
              rw [decide_eq_false h2, Bool.and_false]
            · rw [decide_eq_false h1, Bool.false_and]
          have e2 : (decide (48 ≤ (s[i].toNat : Int)) && decide ((s[i].toNat : Int) ≤ 57)) = false := hdig
          rw [e2] at c2
          rw [hdig, Bool.false_and] at hall
          have hcb : (s[i].toNat : Int) < 256 := by have := s[i].toNat_lt; omega
          generalize s[i] = c at *
          repeat' (first
    | (with_reducible apply W_seq_k; intro nx hnx)
    | (with_reducible first | apply W_block | apply W_scope)
    | (with_reducible refine W_prune 6291517 ?_; simp only [prb, Nat.reducePow, Nat.reduceDiv, Nat.reduceMod, Nat.reduceBEq]; with_reducible apply W_region_l)
    | ((first | (with_reducible apply WL_op; intro nx hnx) | with_reducible refine Ev_out ?_ | (with_reducible refine pfresh_k hnm fun nm hnm => ?_; (try simp only [fmb] at hnm)) | (with_reducible refine pborn_mu hnm fun nm hnm => ?_; (try simp only [fmb] at hnm))); try (simp (maxSteps := 2000000) (disch := omega) only [evb, evd, pbuiltin, constPV, pnck, seqK, blockK, scopeK, pbin, pun, ppick, plen, piaddr, pindex, pfield, pslice, pbound, pconv, pelems, pextract, pmm, PV.mem?, PV.one, PV.cells, pageq, peqs, peq1, pmakes, pstore, pbytes, pmark, pusd, pust, psrc, pkey, pnile, pcap, pgrow, List.set, Value.cells, ↓popG_eq, ↓pop.eq_1, ↓List.getElem?_map, ↓List.getElem?_cons_zero, ↓List.getElem?_cons_succ, Value.oneCell', Nat.reduceAdd, Nat.reduceMul, Nat.reduceSub, Nat.reduceLeDiff, Nat.reduceEqDiff, ↓reduceIte, ne_eq, reduceCtorEq, forall_const, exists_and_left, exists_eq_left', eq_self, Nat.reduceLT, Int.reduceLT, Int.reduceLE, Int.reduceToNat, Int.reduceAdd, Int.reduceSub, Int.reduceNeg, hnm, Tryd.tf3, Tryd.tf4, Tryd.tf5, Tryd.tf9, Tryd.teq45, Tryd.teq94, Tryd.teq104, Tryd.teq113, Tryd.teq114, Tryd.call45, hget]); repeat (refine And.intro (by omega) ?_))
    | ((with_reducible first | apply WL_nil | apply W_label | apply W_skip | apply W_exit | apply W_ret); try simp only [seqK, blockK, scopeK, ↓reduceIte, Nat.reduceEqDiff])
    | (with_reducible apply pguard_intro <;> (intro hc; (try simp only [hcb, reduceCtorEq, forall_const, ne_eq] at hc); first | (exfalso; omega) | (exfalso; exact hc trivial) | refine Ev_in ?_))
    | (with_reducible apply W_cond_k; intro _ _ ea eb; (simp only [condK, cob, opnd, constPV, Nat.reduceEqDiff, Nat.reduceLT, ↓reduceIte, hcb, reduceCtorEq, forall_const, ne_eq]); subst ea eb; first | (refine ⟨fun hc => ?_, fun hc => ?_⟩ <;> first | (exfalso; omega) | (exfalso; exact hc trivial) | skip) | skip)
    | (with_reducible apply hnx; clear hnx nx)
    | (with_reducible refine And.intro (by omega) ?_)
    | (with_reducible refine And.intro ?_ ?_)
    | (with_reducible refine pcall_k (c2) ?_; rintro _ _ ⟨rfl, rfl⟩ -; refine Ev_in ?_)
    | (clear hnx nx; with_reducible apply hnx; clear hnx nx)
    | (clear hnx nx; clear hnx nx; with_reducible apply hnx; clear hnx nx)
    | (clear hnx nx; clear hnx nx; clear hnx nx; with_reducible apply hnx; clear hnx nx))
          all_goals first
            | exact absurd trivial hc
            | exact fun h => False.elim h
            | (exfalso
               omega)
            | (exfalso
               have hc := of_decide_eq_false hc
               omega)
            | skip
          all_goals
            refine hfin _ _ (Fin_ret2 rfl rfl (Sub_nil _) ?_); simp only [List.getD_cons_zero, List.getD_cons_succ, fr_getD_cons, fr_getD_nil, Nat.reduceEqDiff, Nat.reduceLT, ↓reduceIte]
            exact ⟨by simp [numF, hz, hall], by trivial⟩
      · have hi2 : i = s.length := by omega
        subst hi2
        rw [List.drop_length] at hall
        rw [List.take_length]
        repeat' (first
    | (with_reducible apply W_seq_k; intro nx hnx)
    | (with_reducible first | apply W_block | apply W_scope)
    | (with_reducible refine W_prune 6291517 ?_; simp only [prb, Nat.reducePow, Nat.reduceDiv, Nat.reduceMod, Nat.reduceBEq]; with_reducible apply W_region_l)
    | ((first | (with_reducible apply WL_op; intro nx hnx) | with_reducible refine Ev_out ?_ | (with_reducible refine pfresh_k hnm fun nm hnm => ?_; (try simp only [fmb] at hnm)) | (with_reducible refine pborn_mu hnm fun nm hnm => ?_; (try simp only [fmb] at hnm))); try (simp (maxSteps := 2000000) (disch := omega) only [evb, evd, pbuiltin, constPV, pnck, seqK, blockK, scopeK, pbin, pun, ppick, plen, piaddr, pindex, pfield, pslice, pbound, pconv, pelems, pextract, pmm, PV.mem?, PV.one, PV.cells, pageq, peqs, peq1, pmakes, pstore, pbytes, pmark, pusd, pust, psrc, pkey, pnile, pcap, pgrow, List.set, Value.cells, ↓popG_eq, ↓pop.eq_1, ↓List.getElem?_map, ↓List.getElem?_cons_zero, ↓List.getElem?_cons_succ, Value.oneCell', Nat.reduceAdd, Nat.reduceMul, Nat.reduceSub, Nat.reduceLeDiff, Nat.reduceEqDiff, ↓reduceIte, ne_eq, reduceCtorEq, forall_const, exists_and_left, exists_eq_left', eq_self, Nat.reduceLT, Int.reduceLT, Int.reduceLE, Int.reduceToNat, Int.reduceAdd, Int.reduceSub, Int.reduceNeg, hnm, Tryd.tf3, Tryd.tf4, Tryd.tf5, Tryd.tf9, Tryd.teq45, Tryd.teq94, Tryd.teq104, Tryd.teq113, Tryd.teq114, Tryd.call45]); repeat (refine And.intro (by omega) ?_))
    | ((with_reducible first | apply WL_nil | apply W_label | apply W_skip | apply W_exit | apply W_ret); try simp only [seqK, blockK, scopeK, ↓reduceIte, Nat.reduceEqDiff])
    | (with_reducible apply pguard_intro <;> (intro hc; (try simp only [hcb, reduceCtorEq, forall_const, ne_eq] at hc); first | (exfalso; omega) | (exfalso; exact hc trivial) | refine Ev_in ?_))
    | (with_reducible apply W_cond_k; intro _ _ ea eb; (simp only [condK, cob, opnd, constPV, Nat.reduceEqDiff, Nat.reduceLT, ↓reduceIte, hcb, reduceCtorEq, forall_const, ne_eq]); subst ea eb; first | (refine ⟨fun hc => ?_, fun hc => ?_⟩ <;> first | (exfalso; omega) | (exfalso; exact hc trivial) | skip) | skip)
    | (with_reducible apply hnx; clear hnx nx)
    | (with_reducible refine And.intro (by omega) ?_)
    | (with_reducible refine And.intro ?_ ?_)
    | (clear hnx nx; with_reducible apply hnx; clear hnx nx)
    | (clear hnx nx; clear hnx nx; with_reducible apply hnx; clear hnx nx)
    | (clear hnx nx; clear hnx nx; clear hnx nx; with_reducible apply hnx; clear hnx nx))
        all_goals first
          | exact absurd trivial hc
          | exact fun h => False.elim h
          | (exfalso
             omega)
          | (exfalso
             have hc := of_decide_eq_false hc
             omega)
          | skip
        all_goals
          refine hfin _ _ (Fin_ret2 rfl rfl (Sub_nil _) ?_); simp only [List.getD_cons_zero, List.getD_cons_succ, fr_getD_cons, fr_getD_nil, Nat.reduceEqDiff, Nat.reduceLT, ↓reduceIte]
          exact ⟨by simp [numF, hz, hall], by trivial⟩
  · have hn : numB s = false := by
      simp only [numB]
      by_cases h1 : 1 ≤ s.length
      · have h2 : ¬ s.length ≤ 6 := fun h => hl ⟨h1, h⟩
        simp [h2]
      · simp [h1]
    have e1 : (decide (1 ≤ (s.length : Int)) && decide ((s.length : Int) ≤ 6)) = false := by
      by_cases h1 : 1 ≤ (s.length : Int)
      · have h2 : ¬ (s.length : Int) ≤ 6 := by omega
        simp [h2]
      · simp [h1]
    rw [e1] at c1
    (refine PCalls_f Tryd.func39 rfl Tryd.ntmps39 Tryd.results39 (by simp) fun fin hfin => ?_; have hnm : True := trivial; simp (maxSteps := 2000000) (disch := omega) only [evb, evd, pbuiltin, constPV, pnck, seqK, blockK, scopeK, pbin, pun, ppick, plen, piaddr, pindex, pfield, pslice, pbound, pconv, pelems, pextract, pmm, PV.mem?, PV.one, PV.cells, pageq, peqs, peq1, pmakes, pstore, pbytes, pmark, pusd, pust, psrc, pkey, pnile, pcap, pgrow, List.set, Value.cells, ↓popG_eq, ↓pop.eq_1, ↓List.getElem?_map, ↓List.getElem?_cons_zero, ↓List.getElem?_cons_succ, Value.oneCell', Nat.reduceAdd, Nat.reduceMul, Nat.reduceSub, Nat.reduceLeDiff, Nat.reduceEqDiff, ↓reduceIte, ne_eq, reduceCtorEq, forall_const, exists_and_left, exists_eq_left', eq_self, Nat.reduceLT, Int.reduceLT, Int.reduceLE, Int.reduceToNat, Int.reduceAdd, Int.reduceSub, Int.reduceNeg, hnm, Tryd.tf3, Tryd.tf4, Tryd.tf5, Tryd.tf9, Tryd.teq45, Tryd.teq94, Tryd.teq104, Tryd.teq113, Tryd.teq114, Tryd.call45])
    repeat' (first
    | (with_reducible apply W_seq_k; intro nx hnx)
    | (with_reducible first | apply W_block | apply W_scope)
    | (with_reducible refine W_prune 6291517 ?_; simp only [prb, Nat.reducePow, Nat.reduceDiv, Nat.reduceMod, Nat.reduceBEq]; with_reducible apply W_region_l)
    | ((first | (with_reducible apply WL_op; intro nx hnx) | with_reducible refine Ev_out ?_ | (with_reducible refine pfresh_k hnm fun nm hnm => ?_; (try simp only [fmb] at hnm)) | (with_reducible refine pborn_mu hnm fun nm hnm => ?_; (try simp only [fmb] at hnm))); try (simp (maxSteps := 2000000) (disch := omega) only [evb, evd, pbuiltin, constPV, pnck, seqK, blockK, scopeK, pbin, pun, ppick, plen, piaddr, pindex, pfield, pslice, pbound, pconv, pelems, pextract, pmm, PV.mem?, PV.one, PV.cells, pageq, peqs, peq1, pmakes, pstore, pbytes, pmark, pusd, pust, psrc, pkey, pnile, pcap, pgrow, List.set, Value.cells, ↓popG_eq, ↓pop.eq_1, ↓List.getElem?_map, ↓List.getElem?_cons_zero, ↓List.getElem?_cons_succ, Value.oneCell', Nat.reduceAdd, Nat.reduceMul, Nat.reduceSub, Nat.reduceLeDiff, Nat.reduceEqDiff, ↓reduceIte, ne_eq, reduceCtorEq, forall_const, exists_and_left, exists_eq_left', eq_self, Nat.reduceLT, Int.reduceLT, Int.reduceLE, Int.reduceToNat, Int.reduceAdd, Int.reduceSub, Int.reduceNeg, hnm, Tryd.tf3, Tryd.tf4, Tryd.tf5, Tryd.tf9, Tryd.teq45, Tryd.teq94, Tryd.teq104, Tryd.teq113, Tryd.teq114, Tryd.call45]); repeat (refine And.intro (by omega) ?_))
    | ((with_reducible first | apply WL_nil | apply W_label | apply W_skip | apply W_exit | apply W_ret); try simp only [seqK, blockK, scopeK, ↓reduceIte, Nat.reduceEqDiff])
    | (with_reducible apply pguard_intro <;> (intro hc; (try simp only [hcb, reduceCtorEq, forall_const, ne_eq] at hc); first | (exfalso; omega) | (exfalso; exact hc trivial) | refine Ev_in ?_))
    | (with_reducible apply W_cond_k; intro _ _ ea eb; (simp only [condK, cob, opnd, constPV, Nat.reduceEqDiff, Nat.reduceLT, ↓reduceIte, hcb, reduceCtorEq, forall_const, ne_eq]); subst ea eb; first | (refine ⟨fun hc => ?_, fun hc => ?_⟩ <;> first | (exfalso; omega) | (exfalso; exact hc trivial) | skip) | skip)
    | (with_reducible apply hnx; clear hnx nx)
    | (with_reducible refine And.intro (by omega) ?_)
    | (with_reducible refine And.intro ?_ ?_)
    | (with_reducible refine pcall_k (c1) ?_; rintro _ _ ⟨rfl, rfl⟩ -; refine Ev_in ?_)
    | (clear hnx nx; with_reducible apply hnx; clear hnx nx)
    | (clear hnx nx; clear hnx nx; with_reducible apply hnx; clear hnx nx)
    | (clear hnx nx; clear hnx nx; clear hnx nx; with_reducible apply hnx; clear hnx nx))
    all_goals first
      | exact absurd trivial hc
      | exact fun h => False.elim h
      | (exfalso
         omega)
      | (exfalso
         have hc := of_decide_eq_false hc
         omega)
      | skip
    all_goals
      refine hfin _ _ (Fin_ret2 rfl rfl (Sub_nil _) ?_); simp only [List.getD_cons_zero, List.getD_cons_succ, fr_getD_cons, fr_getD_nil, Nat.reduceEqDiff, Nat.reduceLT, ↓reduceIte]
      exact ⟨by simp [numF, hn], by trivial⟩
end Go.PM

namespace Go.PM
open Go.Proofs
attribute [local irreducible] W PCalls pcall pcallI WL
set_option maxRecDepth 100000
set_option maxHeartbeats 8000000
end Go.PM

namespace Go.PM
open Go.Proofs
attribute [local irreducible] W PCalls pcall pcallI WL
set_option maxRecDepth 100000
set_option maxHeartbeats 8000000
end Go.PM

namespace Go.PM
open Go.Proofs
attribute [local irreducible] W PCalls pcall pcallI WL
set_option maxRecDepth 100000
set_option maxHeartbeats 8000000
end Go.PM

namespace Go.PM
open Go.Proofs
attribute [local irreducible] W PCalls pcall pcallI WL
set_option maxRecDepth 100000
set_option maxHeartbeats 8000000
end Go.PM

namespace Go.PM
open Go.Proofs
theorem idx_cases (c : UInt8) : ∀ s : List UInt8, (Lib.indexByte s c = -1 ∧ c ∉ s) ∨ ∃ t r, s = t ++ c :: r ∧ c ∉ t ∧ Lib.indexByte s c = t.length
  | [] => .inl ⟨rfl, by simp⟩
  | x :: r => by
    unfold Lib.indexByte
    by_cases hx : x = c
    · subst hx
      exact .inr ⟨[], r, rfl, by simp, by simp⟩
    · have hb : (x == c) = false := by simpa using hx
      rw [hb]
      simp only [Bool.false_eq_true, if_false]
      rcases idx_cases c r with ⟨h1, h2⟩ | ⟨t, r', h1, h2, h3⟩
      · rw [h1]
        refine .inl ⟨by simp, ?_⟩
        rw [List.mem_cons, not_or]
        exact ⟨fun e => hx e.symm, h2⟩
      · refine .inr ⟨x :: t, r', by rw [h1]; rfl, ?_, ?_⟩
        · rw [List.mem_cons, not_or]
          exact ⟨fun e => hx e.symm, h2⟩
        · rw [h3]
          have : ((t.length : Int) == -1) = false := by
            rw [beq_eq_false_iff_ne]
            omega
          rw [this]
          simp
/-- The parts of a text between the occurrences of a byte. -/
def splitF (c : UInt8) : List UInt8 → List (List UInt8)
  | [] => [[]]
  | x :: r => if x = c then [] :: splitF c r else match splitF c r with
    | [] => [[x]]
    | h :: t => (x :: h) :: t
theorem splitF_cut {c : UInt8} {r : List UInt8} : ∀ {t : List UInt8}, c ∉ t → splitF c (t ++ c :: r) = t :: splitF c r
  | [], _ => by simp [splitF]
  | x :: t, h => by
    rw [List.mem_cons, not_or] at h
    have hx : ¬ x = c := fun e => h.1 e.symm
    rw [List.cons_append, splitF, if_neg hx, splitF_cut h.2]
theorem splitF_none {c : UInt8} : ∀ {t : List UInt8}, c ∉ t → splitF c t = [t]
  | [], _ => rfl
  | x :: t, h => by
    rw [List.mem_cons, not_or] at h
    have hx : ¬ x = c := fun e => h.1 e.symm
    rw [splitF, if_neg hx, splitF_none h.2]
theorem splitF_len (c : UInt8) : ∀ s : List UInt8, (splitF c s).length = s.count c + 1
  | [] => rfl
  | x :: r => by
    have h := splitF_len c r
    rw [splitF]
    split
    · rename_i hx
      subst hx
      rw [List.length_cons, h, List.count_cons_self]
    · rename_i hx
      rw [List.count_cons_of_ne hx]
      split
      · rename_i h2
        rw [h2] at h
        simp at h
      · rename_i h2
        rw [h2] at h
        simpa using h
theorem splitF_ne {c : UInt8} {s : List UInt8} : splitF c s ≠ [] := by
  intro h
  have := splitF_len c s
  rw [h] at this
  simp at this
/-- A text is its parts with the byte between them. -/
def joinF (c : UInt8) : List (List UInt8) → List UInt8
  | [] => []
  | [t] => t
  | t :: u :: r => t ++ c :: joinF c (u :: r)
theorem join_split (c : UInt8) : ∀ s : List UInt8, joinF c (splitF c s) = s
  | [] => rfl
  | x :: r => by
    have h := join_split c r
    have hn := splitF_ne (c := c) (s := r)
    rw [splitF]
    split
    · rename_i hx
      subst hx
      cases h2 : splitF x r with
      | nil => exact absurd h2 hn
      | cons y t =>
        rw [h2] at h
        rw [joinF, h]
        rfl
    · cases h2 : splitF c r with
      | nil => exact absurd h2 hn
      | cons y t =>
        rw [h2] at h
        simp only
        cases t with
        | nil =>
          simp only [joinF] at h ⊢
          rw [h]
        | cons z t =>
          simp only [joinF] at h ⊢
          rw [List.cons_append, h]
theorem splitF_mem (c : UInt8) : ∀ (s : List UInt8), ∀ p ∈ splitF c s, p.length ≤ s.length
  | [] => by simp [splitF]
  | x :: r => by
    have h := splitF_mem c r
    rw [splitF]
    split
    · intro p hp
      rcases List.mem_cons.1 hp with rfl | hp
      · simp
      · have := h p hp
        simp only [List.length_cons]
        omega
    · split
      · intro p hp
        simp only [List.mem_cons, List.not_mem_nil, or_false] at hp
        subst hp
        simp
      · rename_i y t h2
        rw [h2] at h
        intro p hp
        rcases List.mem_cons.1 hp with rfl | hp
        · have := h y List.mem_cons_self
          simp only [List.length_cons]
          omega
        · have := h p (List.mem_cons_of_mem _ hp)
          simp only [List.length_cons]
          omega
/-- A line of a description: the letter, and the text of its base. -/
def lineF (t : List UInt8) : Option (Ltr × List UInt8) :=
  match splitF 32 t with
  | [x, b, m, k, w] => if x = [] ∨ b = [] then none else if (numF m).2 && ((numF k).2 && (numF w).2) then some (⟨x, 0, (numF m).1, (numF k).1, (numF w).1⟩, b) else none
  | _ => none
/-- The lines of a description up to the first bad one; whether all are good. -/
def readL : List (List UInt8) → List (Ltr × List UInt8) × Bool
  | [] => ([], false)
  | [l] => ([], decide (l = []))
  | l :: m :: r => match lineF l with
    | none => ([], false)
    | some x => (x :: (readL (m :: r)).1, (readL (m :: r)).2)
theorem readL_none {l : List UInt8} {r : List (List UInt8)} (hr : r ≠ []) (h : lineF l = none) : readL (l :: r) = ([], false) := by
  cases r with
  | nil => exact absurd rfl hr
  | cons m r => rw [readL, h]
theorem readL_some {l : List UInt8} {r : List (List UInt8)} {x : Ltr × List UInt8} (hr : r ≠ []) (h : lineF l = some x) : readL (l :: r) = (x :: (readL r).1, (readL r).2) := by
  cases r with
  | nil => exact absurd rfl hr
  | cons m r => rw [readL, h]
/-- The number of the letter with a text. -/
def findT (a : List Ltr) (b : List UInt8) : Option Nat := a.findIdx? fun x => decide (x.text = b)
/-- The letters with their bases. -/
def basedF (q : List (Ltr × List UInt8)) : List Ltr := q.map fun x => { x.1 with base := (findT (q.map Prod.fst) x.2).getD 0 }
def parseF (s : List UInt8) : List Ltr × Int × Int :=
  if 65536 < s.length then ([], 0, 4) else
  if (readL (splitF 10 s)).2 = false then ([], (readL (splitF 10 s)).1.length + 1, 2) else
  match (readL (splitF 10 s)).1.findIdx? fun x => (findT ((readL (splitF 10 s)).1.map Prod.fst) x.2).isNone with
  | some i => ([], i + 1, 6)
  | none => if validF (basedF (readL (splitF 10 s)).1) then (basedF (readL (splitF 10 s)).1, 0, 0) else ([], 0, 1)
/-- The decimal digits of a number. -/
def decF (n : Nat) : List UInt8 := if n < 10 then [UInt8.ofNat (48 + n)] else decF (n / 10) ++ [UInt8.ofNat (48 + n % 10)]
decreasing_by omega
def lineT (a : List Ltr) (x : Ltr) : List UInt8 :=
  x.text ++ [32] ++ (a.getD x.base.toNat default).text ++ [32] ++ decF x.mark.toNat ++ [32] ++ decF x.case_.toNat ++ [32] ++ decF x.width.toNat ++ [10]
def printF (a : List Ltr) : List UInt8 := if validF a then a.flatMap (lineT a) else []
end Go.PM

namespace Go.PM
open Go.Proofs
/-- The five cells of a letter. -/
@[reducible] def cellL (x : Ltr) : List PV := [pstr x.text, pint .i64 x.base, pint .i64 x.mark, pint .i64 x.case_, pint .i64 x.width]
/-- The cells of letters, one after the other. -/
def flatL (l : List Ltr) : List PV := l.flatMap cellL
theorem flatL_cons (x : Ltr) (l : List Ltr) : flatL (x :: l) = cellL x ++ flatL l := by simp [flatL]
theorem flatL_len : ∀ l : List Ltr, (flatL l).length = l.length * 5
  | [] => rfl
  | c :: l => by
    have := flatL_len l
    rw [flatL_cons, List.length_append, this]
    simp only [List.length_cons, List.length_nil]
    omega
theorem flatL_app (l m : List Ltr) : flatL (l ++ m) = flatL l ++ flatL m := by simp [flatL]
theorem flatL_snoc (l : List Ltr) (x : Ltr) : flatL (l ++ [x]) = flatL l ++ cellL x := by simp [flatL]
theorem flatL_drop : ∀ (l : List Ltr) (i : Nat), (flatL l).drop (i * 5) = flatL (l.drop i)
  | [], i => by simp [flatL]
  | x :: l, 0 => by simp
  | x :: l, i + 1 => by
    rw [flatL_cons, show (i + 1) * 5 = 5 + i * 5 by omega, List.drop_succ_cons, ← flatL_drop l i, ← List.drop_drop]
    rfl
theorem flatL_at {l : List Ltr} {i : Nat} (h : i < l.length) : ((flatL l).drop (i * 5)).take 5 = cellL l[i] := by
  rw [flatL_drop, List.drop_eq_getElem_cons h, flatL_cons]
  rfl
theorem flatL_get {l : List Ltr} {i : Nat} (h : i < l.length) (j : Nat) (hj : j < 5) : (flatL l)[i * 5 + j]? = (cellL l[i])[j]? := by
  have := congrArg (fun q : List PV => q[j]?) (flatL_at h)
  simp only [List.getElem?_take, List.getElem?_drop, hj, if_true] at this
  exact this
theorem flatL_set {l : List Ltr} {i : Nat} (h : i < l.length) (x : Ltr) : flatL (l.set i x) = (flatL l).take (i * 5) ++ cellL x ++ (flatL l).drop ((i + 1) * 5) := by
  have h1 : (flatL l).take (i * 5) = flatL (l.take i) := by
    have h2 : flatL l = flatL (l.take i) ++ flatL (l.drop i) := by rw [← flatL_app, List.take_append_drop]
    rw [h2, List.take_left' (by rw [flatL_len, List.length_take, Nat.min_eq_left (by omega)])]
  rw [h1, flatL_drop, List.set_eq_take_append_cons_drop, if_pos h, flatL_app, flatL_cons, List.append_assoc]
theorem flatL_base {l : List Ltr} {i : Nat} (h : i < l.length) (k : Int) : List.take (i * 5 + 1) (flatL l) ++ [pint .i64 k] ++ List.drop (i * 5 + 1 + 1) (flatL l) = flatL (l.set i { l[i] with base := k }) := by
  have e1 : List.take (i * 5 + 1) (flatL l) = (flatL l).take (i * 5) ++ [pstr l[i].text] := by
    rw [List.take_add_one, show (flatL l)[i * 5]? = some (pstr l[i].text) from flatL_get h 0 (by omega)]
    rfl
  have e2 : List.drop (i * 5 + 1 + 1) (flatL l) = [pint .i64 l[i].mark, pint .i64 l[i].case_, pint .i64 l[i].width] ++ (flatL l).drop ((i + 1) * 5) := by
    have h3 : (flatL l).drop (i * 5) = cellL l[i] ++ (flatL l).drop ((i + 1) * 5) := by
      rw [flatL_drop, List.drop_eq_getElem_cons h, flatL_cons, ← flatL_drop]
    rw [show i * 5 + 1 + 1 = i * 5 + 2 from rfl, ← List.drop_drop, h3]
    rfl
  rw [e1, e2, flatL_set h]
  simp
theorem elems_flatL : ∀ (l : List Ltr), (List.range l.length).map (fun i => PV.agg (((flatL l).drop (i * 5)).take 5)) = l.map ltP
  | [] => rfl
  | c :: l => by
    rw [List.length_cons, List.range_succ_eq_map, List.map_cons, List.map_cons, List.map_map]
    congr 1
    rw [← elems_flatL l]
    refine List.map_congr_left fun i _ => ?_
    simp only [Function.comp_apply, Nat.succ_eq_add_one]
    rw [show (i + 1) * 5 = i * 5 + 5 by omega]
    show PV.agg (List.take 5 (List.drop (i * 5 + 5) (cellL c ++ flatL l))) = _
    rw [List.drop_append]
    simp
theorem frz_lts (n : Int) (l : List Ltr) : frz n (flatL l) (.row n 5 l.length) = ltsP l := by
  simp only [frz, frz1, if_true, elemsOf]
  rw [if_pos (by rw [flatL_len]; omega), if_neg (by omega), elems_flatL]
/-- Letters in a row, or none. -/
@[reducible] def CRL (l : List Ltr) (res : PV) (H : Heap) : Prop := (l = [] ∧ res = pnil ∧ H = []) ∨ (∃ n : Int, res = .row n 5 l.length ∧ H = [(n, ⟨45, true, 5, flatL l⟩)])
/-- Letters in a row are turned no more. -/
theorem Px_lts {G : Globs} {O : Int} {t1 : TypeId} (l : List Ltr) : Px G (.row O 5 l.length) [(O, ⟨t1, true, 5, flatL l⟩)] (ltsP l) [] := by
  have h := Px.freeze (G := G) (.row O 5 l.length) [(O, ⟨t1, true, 5, flatL l⟩)] O (o := ⟨t1, true, 5, flatL l⟩) (by simp only [look, if_true]) (by simp [frzOk, del])
  simp only [frz_lts] at h
  simpa [frzH, del] using h
theorem CRL.frz {G : Globs} {f : FuncId} {args : List PV} {b : List Ltr} (h : PCalls Tryd.prog G f args [] (CRL b)) : PCalls Tryd.prog G f args [] (fun res H => res = ltsP b ∧ H = []) := by
  refine h.px fun res H hR => ?_
  rcases hR with ⟨rfl, rfl, rfl⟩ | ⟨N, rfl, rfl⟩
  · exact ⟨_, _, Px.nil 5 _, rfl, rfl⟩
  · exact ⟨_, _, Px_lts b, rfl, rfl⟩
end Go.PM

namespace Go.PM
open Go.Proofs
attribute [local irreducible] W PCalls pcall pcallI WL
set_option maxRecDepth 100000
set_option maxHeartbeats 8000000
/-- A number of a machine. -/
@[reducible] def i64 (n : Int) : Prop := -9223372036854775808 ≤ n ∧ n ≤ 9223372036854775807
/-- a number from 0 to below another -/
def arF (n most : Int) : Int := (if n < 0 then -(n + 1) else n) % most
theorem arF_bound (n : Int) {most : Int} (h : 0 < most) : 0 ≤ arF n most ∧ arF n most < most := ⟨Int.emod_nonneg _ (by omega), Int.emod_lt_of_pos _ h⟩
theorem around_c (G : Globs) (n most : Int) (h : 0 < most) (hn : i64 n) (hm : most ≤ 9223372036854775807) : PCalls Tryd.prog G 32 [pint .i64 n, pint .i64 most] [] (fun res H => res = pint .i64 (arF n most) ∧ H = []) := by
  have hb := arF_bound n h
  unfold arF at hb ⊢
  have t1 : (0 - (n + 1)).tmod most = if n < 0 then (-(n + 1)) % most else (0 - (n + 1)).tmod most := by
    split
    · rw [show 0 - (n + 1) = -(n + 1) by omega]
      exact Int.tmod_eq_emod_of_nonneg (by omega)
    · rfl
  have t2 : n.tmod most = if n < 0 then n.tmod most else n % most := by
    split
    · rfl
    · exact Int.tmod_eq_emod_of_nonneg (by omega)
  by_cases h0 : n < 0
  · rw [if_pos h0] at t1 hb ⊢
    generalize (-(n + 1)) % most = r at *
    (refine PCalls_f Tryd.func32 rfl Tryd.ntmps32 Tryd.results32 (by simp) fun fin hfin => ?_; have hnm : True := trivial; simp (maxSteps := 2000000) (disch := omega) only [evb, evd, pbuiltin, constPV, pnck, seqK, blockK, scopeK, pbin, pun, ppick, plen, piaddr, pindex, pfield, pslice, pbound, pconv, pelems, pextract, pmm, PV.mem?, PV.one, PV.cells, pageq, peqs, peq1, pmakes, pstore, pbytes, pmark, pusd, pust, psrc, pkey, pnile, pcap, pgrow, List.set, Value.cells, ↓popG_eq, ↓pop.eq_1, ↓List.getElem?_map, ↓List.getElem?_cons_zero, ↓List.getElem?_cons_succ, Value.oneCell', Nat.reduceAdd, Nat.reduceMul, Nat.reduceSub, Nat.reduceLeDiff, Nat.reduceEqDiff, ↓reduceIte, ne_eq, reduceCtorEq, forall_const, exists_and_left, exists_eq_left', eq_self, Nat.reduceLT, Int.reduceLT, Int.reduceLE, Int.reduceToNat, Int.reduceAdd, Int.reduceSub, Int.reduceNeg, hnm, Tryd.tf3, Tryd.tf4, Tryd.teq45, Tryd.teq94, Tryd.teq104, Tryd.teq113, Tryd.teq114])
    repeat' (first
    | (with_reducible apply W_seq_k; intro nx hnx)
    | (with_reducible first | apply W_block | apply W_scope)
    | (with_reducible refine W_prune 19 ?_; simp only [prb, Nat.reducePow, Nat.reduceDiv, Nat.reduceMod, Nat.reduceBEq]; with_reducible apply W_region_l)
    | ((first | (with_reducible apply WL_op; intro nx hnx) | with_reducible refine Ev_out ?_); try (simp (maxSteps := 2000000) (disch := omega) only [evb, evd, pbuiltin, constPV, pnck, seqK, blockK, scopeK, pbin, pun, ppick, plen, piaddr, pindex, pfield, pslice, pbound, pconv, pelems, pextract, pmm, PV.mem?, PV.one, PV.cells, pageq, peqs, peq1, pmakes, pstore, pbytes, pmark, pusd, pust, psrc, pkey, pnile, pcap, pgrow, List.set, Value.cells, ↓popG_eq, ↓pop.eq_1, ↓List.getElem?_map, ↓List.getElem?_cons_zero, ↓List.getElem?_cons_succ, Value.oneCell', Nat.reduceAdd, Nat.reduceMul, Nat.reduceSub, Nat.reduceLeDiff, Nat.reduceEqDiff, ↓reduceIte, ne_eq, reduceCtorEq, forall_const, exists_and_left, exists_eq_left', eq_self, Nat.reduceLT, Int.reduceLT, Int.reduceLE, Int.reduceToNat, Int.reduceAdd, Int.reduceSub, Int.reduceNeg, hnm, Tryd.tf3, Tryd.tf4, Tryd.teq45, Tryd.teq94, Tryd.teq104, Tryd.teq113, Tryd.teq114, t1]); repeat (refine And.intro (by omega) ?_))
    | ((with_reducible first | apply WL_nil | apply W_label | apply W_skip | apply W_exit | apply W_ret); try simp only [seqK, blockK, scopeK, ↓reduceIte, Nat.reduceEqDiff])
    | (with_reducible apply W_cond_k; intro _ _ ea eb; (simp only [condK, cob, opnd, constPV, Nat.reduceEqDiff, Nat.reduceLT, ↓reduceIte, hcb, reduceCtorEq, forall_const, ne_eq]); subst ea eb; first | (refine ⟨fun hc => ?_, fun hc => ?_⟩ <;> first | (exfalso; omega) | (exfalso; exact hc trivial) | skip) | skip)
    | (with_reducible apply hnx; clear hnx nx)
    | (with_reducible refine And.intro (by omega) ?_)
    | (with_reducible refine And.intro ?_ ?_)
    | (clear hnx nx; with_reducible apply hnx; clear hnx nx)
    | (clear hnx nx; clear hnx nx; with_reducible apply hnx; clear hnx nx)
    | (clear hnx nx; clear hnx nx; clear hnx nx; with_reducible apply hnx; clear hnx nx))
    all_goals first
      | (exfalso
         omega)
      | (refine hfin _ _ (Fin_ret1 rfl (Sub_nil _) ?_); simp only [List.getD_cons_zero, List.getD_cons_succ, fr_getD_cons, fr_getD_nil, Nat.reduceEqDiff, Nat.reduceLT, ↓reduceIte]; first | trivial | exact ⟨rfl, by trivial⟩ | (simp; done) | (simp; omega))
  · rw [if_neg h0] at t2 hb ⊢
    generalize n % most = r at *
    (refine PCalls_f Tryd.func32 rfl Tryd.ntmps32 Tryd.results32 (by simp) fun fin hfin => ?_; have hnm : True := trivial; simp (maxSteps := 2000000) (disch := omega) only [evb, evd, pbuiltin, constPV, pnck, seqK, blockK, scopeK, pbin, pun, ppick, plen, piaddr, pindex, pfield, pslice, pbound, pconv, pelems, pextract, pmm, PV.mem?, PV.one, PV.cells, pageq, peqs, peq1, pmakes, pstore, pbytes, pmark, pusd, pust, psrc, pkey, pnile, pcap, pgrow, List.set, Value.cells, ↓popG_eq, ↓pop.eq_1, ↓List.getElem?_map, ↓List.getElem?_cons_zero, ↓List.getElem?_cons_succ, Value.oneCell', Nat.reduceAdd, Nat.reduceMul, Nat.reduceSub, Nat.reduceLeDiff, Nat.reduceEqDiff, ↓reduceIte, ne_eq, reduceCtorEq, forall_const, exists_and_left, exists_eq_left', eq_self, Nat.reduceLT, Int.reduceLT, Int.reduceLE, Int.reduceToNat, Int.reduceAdd, Int.reduceSub, Int.reduceNeg, hnm, Tryd.tf3, Tryd.tf4, Tryd.teq45, Tryd.teq94, Tryd.teq104, Tryd.teq113, Tryd.teq114])
    repeat' (first
    | (with_reducible apply W_seq_k; intro nx hnx)
    | (with_reducible first | apply W_block | apply W_scope)
    | (with_reducible refine W_prune 19 ?_; simp only [prb, Nat.reducePow, Nat.reduceDiv, Nat.reduceMod, Nat.reduceBEq]; with_reducible apply W_region_l)
    | ((first | (with_reducible apply WL_op; intro nx hnx) | with_reducible refine Ev_out ?_); try (simp (maxSteps := 2000000) (disch := omega) only [evb, evd, pbuiltin, constPV, pnck, seqK, blockK, scopeK, pbin, pun, ppick, plen, piaddr, pindex, pfield, pslice, pbound, pconv, pelems, pextract, pmm, PV.mem?, PV.one, PV.cells, pageq, peqs, peq1, pmakes, pstore, pbytes, pmark, pusd, pust, psrc, pkey, pnile, pcap, pgrow, List.set, Value.cells, ↓popG_eq, ↓pop.eq_1, ↓List.getElem?_map, ↓List.getElem?_cons_zero, ↓List.getElem?_cons_succ, Value.oneCell', Nat.reduceAdd, Nat.reduceMul, Nat.reduceSub, Nat.reduceLeDiff, Nat.reduceEqDiff, ↓reduceIte, ne_eq, reduceCtorEq, forall_const, exists_and_left, exists_eq_left', eq_self, Nat.reduceLT, Int.reduceLT, Int.reduceLE, Int.reduceToNat, Int.reduceAdd, Int.reduceSub, Int.reduceNeg, hnm, Tryd.tf3, Tryd.tf4, Tryd.teq45, Tryd.teq94, Tryd.teq104, Tryd.teq113, Tryd.teq114, t2]); repeat (refine And.intro (by omega) ?_))
    | ((with_reducible first | apply WL_nil | apply W_label | apply W_skip | apply W_exit | apply W_ret); try simp only [seqK, blockK, scopeK, ↓reduceIte, Nat.reduceEqDiff])
    | (with_reducible apply W_cond_k; intro _ _ ea eb; (simp only [condK, cob, opnd, constPV, Nat.reduceEqDiff, Nat.reduceLT, ↓reduceIte, hcb, reduceCtorEq, forall_const, ne_eq]); subst ea eb; first | (refine ⟨fun hc => ?_, fun hc => ?_⟩ <;> first | (exfalso; omega) | (exfalso; exact hc trivial) | skip) | skip)
    | (with_reducible apply hnx; clear hnx nx)
    | (with_reducible refine And.intro (by omega) ?_)
    | (with_reducible refine And.intro ?_ ?_)
    | (clear hnx nx; with_reducible apply hnx; clear hnx nx)
    | (clear hnx nx; clear hnx nx; with_reducible apply hnx; clear hnx nx)
    | (clear hnx nx; clear hnx nx; clear hnx nx; with_reducible apply hnx; clear hnx nx))
    all_goals first
      | (exfalso
         omega)
      | (refine hfin _ _ (Fin_ret1 rfl (Sub_nil _) ?_); simp only [List.getD_cons_zero, List.getD_cons_succ, fr_getD_cons, fr_getD_nil, Nat.reduceEqDiff, Nat.reduceLT, ↓reduceIte]; first | trivial | exact ⟨rfl, by trivial⟩ | (simp; done) | (simp; omega))
/-- a number of a list, from 0 to below another -/
def atF (l : List Int) (i : Nat) (most : Int) : Int := if i < l.length then arF (l.getD i 0) most else 0
theorem atF_bound (l : List Int) (i : Nat) {most : Int} (h : 0 < most) : 0 ≤ atF l i most ∧ atF l i most < most := by
  unfold atF
  split
  · exact arF_bound _ h
  · omega
/-- Numbers of a machine. -/
@[reducible] def okI (l : List Int) : Prop := (l.length : Int) ≤ 9223372036854775807 ∧ ∀ x ∈ l, i64 x
theorem okI_get {l : List Int} (hl : okI l) (i : Nat) : i64 (l.getD i 0) := by
  by_cases hi : i < l.length
  · have : l.getD i 0 = l[i] := by simp [hi]
    rw [this]
    exact hl.2 _ (List.getElem_mem hi)
  · have : l.getD i 0 = 0 := by simp [Nat.le_of_not_lt hi]
    rw [this]
    exact ⟨by omega, by omega⟩
theorem at_c (G : Globs) (l : List Int) (hl : okI l) (i : Nat) (most : Int) (h : 0 < most) (hm : most ≤ 9223372036854775807) :
    PCalls Tryd.prog G 30 [wP l, pn i, pint .i64 most] [] (fun res H => res = pint .i64 (atF l i most) ∧ H = []) := by
  by_cases hi : i < l.length
  · have c1 := around_c G (l.getD i 0) most h (okI_get hl i) hm
    have hg : l[i] = l.getD i 0 := by simp [hi]
    have hl1 := hl.1
    rw [atF, if_pos hi]
    generalize l.getD i 0 = x at *
    (refine PCalls_f Tryd.func30 rfl Tryd.ntmps30 Tryd.results30 (by simp) fun fin hfin => ?_; have hnm : True := trivial; simp (maxSteps := 2000000) (disch := omega) only [evb, evd, pbuiltin, constPV, pnck, seqK, blockK, scopeK, pbin, pun, ppick, plen, piaddr, pindex, pfield, pslice, pbound, pconv, pelems, pextract, pmm, PV.mem?, PV.one, PV.cells, pageq, peqs, peq1, pmakes, pstore, pbytes, pmark, pusd, pust, psrc, pkey, pnile, pcap, pgrow, List.set, Value.cells, ↓popG_eq, ↓pop.eq_1, ↓List.getElem?_map, ↓List.getElem?_cons_zero, ↓List.getElem?_cons_succ, Value.oneCell', Nat.reduceAdd, Nat.reduceMul, Nat.reduceSub, Nat.reduceLeDiff, Nat.reduceEqDiff, ↓reduceIte, ne_eq, reduceCtorEq, forall_const, exists_and_left, exists_eq_left', eq_self, Nat.reduceLT, Int.reduceLT, Int.reduceLE, Int.reduceToNat, Int.reduceAdd, Int.reduceSub, Int.reduceNeg, hnm, Tryd.tf0, Tryd.tf3, Tryd.tf4, Tryd.tf22, Tryd.teq45, Tryd.teq94, Tryd.teq104, Tryd.teq113, Tryd.teq114, Tryd.call32])
    repeat' (first
    | (with_reducible apply W_seq_k; intro nx hnx)
    | (with_reducible first | apply W_block | apply W_scope)
    | (with_reducible refine W_prune 71 ?_; simp only [prb, Nat.reducePow, Nat.reduceDiv, Nat.reduceMod, Nat.reduceBEq]; with_reducible apply W_region_l)
    | ((first | (with_reducible apply WL_op; intro nx hnx) | with_reducible refine Ev_out ?_); try (simp (maxSteps := 2000000) (disch := omega) only [evb, evd, pbuiltin, constPV, pnck, seqK, blockK, scopeK, pbin, pun, ppick, plen, piaddr, pindex, pfield, pslice, pbound, pconv, pelems, pextract, pmm, PV.mem?, PV.one, PV.cells, pageq, peqs, peq1, pmakes, pstore, pbytes, pmark, pusd, pust, psrc, pkey, pnile, pcap, pgrow, List.set, Value.cells, ↓popG_eq, ↓pop.eq_1, ↓List.getElem?_map, ↓List.getElem?_cons_zero, ↓List.getElem?_cons_succ, Value.oneCell', Nat.reduceAdd, Nat.reduceMul, Nat.reduceSub, Nat.reduceLeDiff, Nat.reduceEqDiff, ↓reduceIte, ne_eq, reduceCtorEq, forall_const, exists_and_left, exists_eq_left', eq_self, Nat.reduceLT, Int.reduceLT, Int.reduceLE, Int.reduceToNat, Int.reduceAdd, Int.reduceSub, Int.reduceNeg, hnm, Tryd.tf0, Tryd.tf3, Tryd.tf4, Tryd.tf22, Tryd.teq45, Tryd.teq94, Tryd.teq104, Tryd.teq113, Tryd.teq114, Tryd.call32, hg]); repeat (refine And.intro (by omega) ?_))
    | ((with_reducible first | apply WL_nil | apply W_label | apply W_skip | apply W_exit | apply W_ret); try simp only [seqK, blockK, scopeK, ↓reduceIte, Nat.reduceEqDiff])
    | (with_reducible apply pguard_intro <;> (intro hc; (try simp only [hcb, reduceCtorEq, forall_const, ne_eq] at hc); first | (exfalso; omega) | (exfalso; exact hc trivial) | refine Ev_in ?_))
    | (with_reducible apply W_cond_k; intro _ _ ea eb; (simp only [condK, cob, opnd, constPV, Nat.reduceEqDiff, Nat.reduceLT, ↓reduceIte, hcb, reduceCtorEq, forall_const, ne_eq]); subst ea eb; first | (refine ⟨fun hc => ?_, fun hc => ?_⟩ <;> first | (exfalso; omega) | (exfalso; exact hc trivial) | skip) | skip)
    | (with_reducible apply hnx; clear hnx nx)
    | (with_reducible refine And.intro (by omega) ?_)
    | (with_reducible refine And.intro ?_ ?_)
    | (with_reducible refine pcall_k (c1) ?_; rintro _ _ ⟨rfl, rfl⟩ -; refine Ev_in ?_)
    | (clear hnx nx; with_reducible apply hnx; clear hnx nx)
    | (clear hnx nx; clear hnx nx; with_reducible apply hnx; clear hnx nx)
    | (clear hnx nx; clear hnx nx; clear hnx nx; with_reducible apply hnx; clear hnx nx))
    all_goals first
      | (exfalso
         omega)
      | (refine hfin _ _ (Fin_ret1 rfl (Sub_nil _) ?_); simp only [List.getD_cons_zero, List.getD_cons_succ, fr_getD_cons, fr_getD_nil, Nat.reduceEqDiff, Nat.reduceLT, ↓reduceIte]; first | trivial | exact ⟨rfl, by trivial⟩ | (simp; done) | (simp; omega))
  · rw [atF, if_neg hi]
    (refine PCalls_f Tryd.func30 rfl Tryd.ntmps30 Tryd.results30 (by simp) fun fin hfin => ?_; have hnm : True := trivial; simp (maxSteps := 2000000) (disch := omega) only [evb, evd, pbuiltin, constPV, pnck, seqK, blockK, scopeK, pbin, pun, ppick, plen, piaddr, pindex, pfield, pslice, pbound, pconv, pelems, pextract, pmm, PV.mem?, PV.one, PV.cells, pageq, peqs, peq1, pmakes, pstore, pbytes, pmark, pusd, pust, psrc, pkey, pnile, pcap, pgrow, List.set, Value.cells, ↓popG_eq, ↓pop.eq_1, ↓List.getElem?_map, ↓List.getElem?_cons_zero, ↓List.getElem?_cons_succ, Value.oneCell', Nat.reduceAdd, Nat.reduceMul, Nat.reduceSub, Nat.reduceLeDiff, Nat.reduceEqDiff, ↓reduceIte, ne_eq, reduceCtorEq, forall_const, exists_and_left, exists_eq_left', eq_self, Nat.reduceLT, Int.reduceLT, Int.reduceLE, Int.reduceToNat, Int.reduceAdd, Int.reduceSub, Int.reduceNeg, hnm, Tryd.tf0, Tryd.tf3, Tryd.tf4, Tryd.tf22, Tryd.teq45, Tryd.teq94, Tryd.teq104, Tryd.teq113, Tryd.teq114, Tryd.call32])
    repeat' (first
    | (with_reducible apply W_seq_k; intro nx hnx)
    | (with_reducible first | apply W_block | apply W_scope)
    | (with_reducible refine W_prune 71 ?_; simp only [prb, Nat.reducePow, Nat.reduceDiv, Nat.reduceMod, Nat.reduceBEq]; with_reducible apply W_region_l)
    | ((first | (with_reducible apply WL_op; intro nx hnx) | with_reducible refine Ev_out ?_); try (simp (maxSteps := 2000000) (disch := omega) only [evb, evd, pbuiltin, constPV, pnck, seqK, blockK, scopeK, pbin, pun, ppick, plen, piaddr, pindex, pfield, pslice, pbound, pconv, pelems, pextract, pmm, PV.mem?, PV.one, PV.cells, pageq, peqs, peq1, pmakes, pstore, pbytes, pmark, pusd, pust, psrc, pkey, pnile, pcap, pgrow, List.set, Value.cells, ↓popG_eq, ↓pop.eq_1, ↓List.getElem?_map, ↓List.getElem?_cons_zero, ↓List.getElem?_cons_succ, Value.oneCell', Nat.reduceAdd, Nat.reduceMul, Nat.reduceSub, Nat.reduceLeDiff, Nat.reduceEqDiff, ↓reduceIte, ne_eq, reduceCtorEq, forall_const, exists_and_left, exists_eq_left', eq_self, Nat.reduceLT, Int.reduceLT, Int.reduceLE, Int.reduceToNat, Int.reduceAdd, Int.reduceSub, Int.reduceNeg, hnm, Tryd.tf0, Tryd.tf3, Tryd.tf4, Tryd.tf22, Tryd.teq45, Tryd.teq94, Tryd.teq104, Tryd.teq113, Tryd.teq114, Tryd.call32]); repeat (refine And.intro (by omega) ?_))
    | ((with_reducible first | apply WL_nil | apply W_label | apply W_skip | apply W_exit | apply W_ret); try simp only [seqK, blockK, scopeK, ↓reduceIte, Nat.reduceEqDiff])
    | (with_reducible apply pguard_intro <;> (intro hc; (try simp only [hcb, reduceCtorEq, forall_const, ne_eq] at hc); first | (exfalso; omega) | (exfalso; exact hc trivial) | refine Ev_in ?_))
    | (with_reducible apply W_cond_k; intro _ _ ea eb; (simp only [condK, cob, opnd, constPV, Nat.reduceEqDiff, Nat.reduceLT, ↓reduceIte, hcb, reduceCtorEq, forall_const, ne_eq]); subst ea eb; first | (refine ⟨fun hc => ?_, fun hc => ?_⟩ <;> first | (exfalso; omega) | (exfalso; exact hc trivial) | skip) | skip)
    | (with_reducible apply hnx; clear hnx nx)
    | (with_reducible refine And.intro (by omega) ?_)
    | (with_reducible refine And.intro ?_ ?_)
    | (clear hnx nx; with_reducible apply hnx; clear hnx nx)
    | (clear hnx nx; clear hnx nx; with_reducible apply hnx; clear hnx nx)
    | (clear hnx nx; clear hnx nx; clear hnx nx; with_reducible apply hnx; clear hnx nx))
    all_goals first
      | (exfalso
         omega)
      | (refine hfin _ _ (Fin_ret1 rfl (Sub_nil _) ?_); simp only [List.getD_cons_zero, List.getD_cons_succ, fr_getD_cons, fr_getD_nil, Nat.reduceEqDiff, Nat.reduceLT, ↓reduceIte]; first | trivial | exact ⟨rfl, by trivial⟩ | (simp; done) | (simp; omega))
/-- The texts of letters. -/
def poolL : List (List UInt8) := [[97], [98], [99], [101], [105], [110], [115], [116], [99, 104], [195, 169], [65], [115, 99, 104], [104], [108], [195, 182], [117]]
theorem pool_c (G : Globs) (n : Nat) (hn : n < 16) : PCalls Tryd.prog G 31 [pn n] [] (fun res H => res = pstr (poolL.getD n []) ∧ H = []) := by
  have hget : ([PV.val (.string ⟨#[97]⟩), PV.val (.string ⟨#[98]⟩), PV.val (.string ⟨#[99]⟩), PV.val (.string ⟨#[101]⟩), PV.val (.string ⟨#[105]⟩), PV.val (.string ⟨#[110]⟩), PV.val (.string ⟨#[115]⟩), PV.val (.string ⟨#[116]⟩), PV.val (.string ⟨#[99, 104]⟩), PV.val (.string ⟨#[195, 169]⟩), PV.val (.string ⟨#[65]⟩), PV.val (.string ⟨#[115, 99, 104]⟩), PV.val (.string ⟨#[104]⟩), PV.val (.string ⟨#[108]⟩), PV.val (.string ⟨#[195, 182]⟩), PV.val (.string ⟨#[117]⟩)] : List PV).getD n PV.junk = pstr (poolL.getD n []) := by
    show (poolL.map pstr).getD n PV.junk = pstr (poolL.getD n [])
    have hl : n < poolL.length := hn
    rw [List.getD_eq_getElem?_getD, List.getD_eq_getElem?_getD, List.getElem?_map, List.getElem?_eq_getElem hl]
    rfl
  generalize poolL.getD n [] = q at *
  (refine PCalls_f Tryd.func31 rfl Tryd.ntmps31 Tryd.results31 (by simp) fun fin hfin => ?_; have hnm : True := trivial; simp (maxSteps := 2000000) (disch := omega) only [evb, evd, pbuiltin, constPV, pnck, seqK, blockK, scopeK, pbin, pun, ppick, plen, piaddr, pindex, pfield, pslice, pbound, pconv, pelems, pextract, pmm, PV.mem?, PV.one, PV.cells, pageq, peqs, peq1, pmakes, pstore, pbytes, pmark, pusd, pust, psrc, pkey, pnile, pcap, pgrow, List.set, Value.cells, ↓popG_eq, ↓pop.eq_1, ↓List.getElem?_map, ↓List.getElem?_cons_zero, ↓List.getElem?_cons_succ, Value.oneCell', Nat.reduceAdd, Nat.reduceMul, Nat.reduceSub, Nat.reduceLeDiff, Nat.reduceEqDiff, ↓reduceIte, ne_eq, reduceCtorEq, forall_const, exists_and_left, exists_eq_left', eq_self, Nat.reduceLT, Int.reduceLT, Int.reduceLE, Int.reduceToNat, Int.reduceAdd, Int.reduceSub, Int.reduceNeg, hnm, Tryd.tf0, Tryd.tf3, Tryd.tf9, Tryd.tf16, Tryd.tf26, Tryd.teq45, Tryd.teq94, Tryd.teq104, Tryd.teq113, Tryd.teq114, Tryd.tf119])
  repeat' (first
    | (with_reducible apply W_seq_k; intro nx hnx)
    | (with_reducible first | apply W_block | apply W_scope)
    | (with_reducible refine W_prune 5 ?_; simp only [prb, Nat.reducePow, Nat.reduceDiv, Nat.reduceMod, Nat.reduceBEq]; with_reducible apply W_region_l)
    | (with_reducible refine WL_born (by simp) rfl (by simp) ?_; simp only [elemsOf, nl, List.map_cons, List.map_nil, Nat.reduceEqDiff, ↓reduceIte, List.take_succ_cons, List.take_zero, List.range_succ, List.range_zero, List.nil_append, List.cons_append, List.map_append, List.drop_succ_cons, List.drop_zero, Nat.reduceMul, Nat.zero_mul, Nat.one_mul, Nat.reduceAdd])
    | ((first | (with_reducible apply WL_op; intro nx hnx) | with_reducible refine Ev_out ?_ | (with_reducible refine pfresh_k hnm fun nm hnm => ?_; (try simp only [fmb] at hnm)) | (with_reducible refine pborn_im ?_; simp only [elemsOf, nl, List.map_cons, List.map_nil, Nat.reduceEqDiff, ↓reduceIte, List.take_succ_cons, List.take_zero, List.range_succ, List.range_zero, List.nil_append, List.cons_append, List.map_append, List.drop_succ_cons, List.drop_zero, Nat.reduceMul, Nat.zero_mul, Nat.one_mul, Nat.reduceAdd])); try (simp (maxSteps := 2000000) (disch := omega) only [evb, evd, pbuiltin, constPV, pnck, seqK, blockK, scopeK, pbin, pun, ppick, plen, piaddr, pindex, pfield, pslice, pbound, pconv, pelems, pextract, pmm, PV.mem?, PV.one, PV.cells, pageq, peqs, peq1, pmakes, pstore, pbytes, pmark, pusd, pust, psrc, pkey, pnile, pcap, pgrow, List.set, Value.cells, ↓popG_eq, ↓pop.eq_1, ↓List.getElem?_map, ↓List.getElem?_cons_zero, ↓List.getElem?_cons_succ, Value.oneCell', Nat.reduceAdd, Nat.reduceMul, Nat.reduceSub, Nat.reduceLeDiff, Nat.reduceEqDiff, ↓reduceIte, ne_eq, reduceCtorEq, forall_const, exists_and_left, exists_eq_left', eq_self, Nat.reduceLT, Int.reduceLT, Int.reduceLE, Int.reduceToNat, Int.reduceAdd, Int.reduceSub, Int.reduceNeg, hnm, Tryd.tf0, Tryd.tf3, Tryd.tf9, Tryd.tf16, Tryd.tf26, Tryd.teq45, Tryd.teq94, Tryd.teq104, Tryd.teq113, Tryd.teq114, Tryd.tf119, hget]); repeat (refine And.intro (by omega) ?_))
    | ((with_reducible first | apply WL_nil | apply W_label | apply W_skip | apply W_exit | apply W_ret); try simp only [seqK, blockK, scopeK, ↓reduceIte, Nat.reduceEqDiff])
    | (with_reducible apply W_cond_k; intro _ _ ea eb; (simp only [condK, cob, opnd, constPV, Nat.reduceEqDiff, Nat.reduceLT, ↓reduceIte, hcb, reduceCtorEq, forall_const, ne_eq]); subst ea eb; first | (refine ⟨fun hc => ?_, fun hc => ?_⟩ <;> first | (exfalso; omega) | (exfalso; exact hc trivial) | skip) | skip)
    | (with_reducible apply hnx; clear hnx nx)
    | (with_reducible refine And.intro (by omega) ?_)
    | (with_reducible refine And.intro ?_ ?_)
    | (clear hnx nx; with_reducible apply hnx; clear hnx nx)
    | (clear hnx nx; clear hnx nx; with_reducible apply hnx; clear hnx nx)
    | (clear hnx nx; clear hnx nx; clear hnx nx; with_reducible apply hnx; clear hnx nx))
  all_goals first | exact absurd trivial hc | contradiction | exact fun h => False.elim h | (exfalso; omega) | (exfalso; have hc := of_decide_eq_false hc; omega) | (exfalso; simp only [Bool.not_false, Bool.not_true, decide_eq_true_eq, decide_eq_false_iff_not] at *; omega) | skip
  all_goals (refine hfin _ _ (Fin_ret1 rfl (Sub_nil _) ?_); simp only [List.getD_cons_zero, List.getD_cons_succ, fr_getD_cons, fr_getD_nil, Nat.reduceEqDiff, Nat.reduceLT, ↓reduceIte]; first | trivial | exact ⟨rfl, by trivial⟩ | (simp; done) | (simp; omega))
theorem pool_len (n : Nat) : (poolL.getD n []).length ≤ 3 := by
  have h : ∀ x ∈ poolL, x.length ≤ 3 := by decide
  by_cases hl : n < poolL.length
  · rw [List.getD_eq_getElem?_getD, List.getElem?_eq_getElem hl]
    exact h _ (List.getElem_mem hl)
  · rw [List.getD_eq_getElem?_getD, List.getElem?_eq_none (by omega)]
    simp
end Go.PM
