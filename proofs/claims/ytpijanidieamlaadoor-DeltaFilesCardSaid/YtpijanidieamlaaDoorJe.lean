/- Joined texts (HFh HFi HFj HFk HKa HNb HGa HGb HGc HGd HGe HGf HGg HGh HKb HQa HMb HMc HMd HMa HGi HMe HMf HGj HMg HKc HGl HMh HKd): the machine, the contracts, the laws. Conditions: none but those that each names. -/
import Derived.Test.YtpijanidieamlaaDoorJd
import Derived.Shelf.Strings.Builder1
import Derived.Test.YtpijanidieamlaaDoorChecked
set_option linter.unusedSimpArgs false
set_option linter.unusedVariables false
namespace Go.PM
open Go.Proofs
attribute [local irreducible] W PCalls pcall pcallI WL
theorem mac_lend {G : Globs} {σ : PState} {q : Bool} {d : Option Tmp} {K : PState → Prop} {x : PV} (n : Int) (k : List UInt8) (w : UInt8) (hx : x = pbyte w) (hl : look σ.heap n = some ⟨9, false, 0, [pstr k]⟩) (hk : k.length ≤ 64)
    (h : K (PState.put σ d (pstr (macP k w)))) : @pcallI q Tryd.prog G σ d 84 [x, .ptr n 0] ⟨K⟩ := by
  subst hx
  refine pcall_lend n ⟨9, false, 0, [pstr k]⟩ hl (R := fun res H => res = pstr (macP k w) ∧ H = []) ?_ ?_
  · simp only [List.map_cons, List.map_nil, frz1, ↓reduceIte]
    exact macf_c G k w hk
  · rintro _ _ ⟨rfl, rfl⟩
    exact ⟨rfl, .val _, h⟩
set_option maxRecDepth 100000 in
set_option maxHeartbeats 16000000 in
theorem mac_c (G : Globs) (hG : G 0 = .iptr (KS.map pw) 0) (key text : List UInt8) (h1 : key.length ≤ 4294950000) (h2 : text.length ≤ 4294950000) : PCalls Tryd.prog G 69 [pstr key, pstr text] [] (fun res H => res = pstr (mac key text) ∧ H = []) := by
  have hk := k64_len key
  have hmac : mac key text = sha (macP (k64 key) 92 ++ sha (macP (k64 key) 54 ++ text)) := rfl
  have hkb : bytes key = key.map pbyte := rfl
  have hs := hsum_c G hG key (by omega)
  have hk64 : k64 key = if 64 < key.length then sha key else key := rfl
  obtain ⟨k, hkd⟩ : ∃ k, k = k64 key := ⟨_, rfl⟩
  rw [← hkd] at hk hmac hk64
  have e1 := macP_len k 54 hk
  have e2 := macP_len k 92 hk
  obtain ⟨s, hsd⟩ : ∃ s, s = sha (macP k 54 ++ text) := ⟨_, rfl⟩
  have e3 : s.length = 32 := by rw [hsd, sha_len]
  have a1 := add_c G hG [] (macP k 54) (by simp only [List.length_nil]; omega)
  have a2 := add_c G hG (macP k 54) text (by omega)
  have a3 := ssum_c G hG (macP k 54 ++ text) (by rw [List.length_append]; omega)
  have b1 := add_c G hG [] (macP k 92) (by simp only [List.length_nil]; omega)
  have b2 := add_c G hG (macP k 92) s (by omega)
  have b3 := ssum_c G hG (macP k 92 ++ s) (by rw [List.length_append]; omega)
  rw [List.nil_append] at a1 b1
  rw [← hsd] at a3 hmac
  have o1 := all_one_byte s
  have l1 : (s.map pbyte).length = 32 := by rw [List.length_map, e3]
  have t1 : List.take 32 (s.map pbyte) = s.map pbyte := List.take_of_length_le (by omega)
  have i1 := isByte_pb s
  have u1 := unb_pb s
  obtain ⟨f, hfd⟩ : ∃ f, f = sha (macP k 92 ++ s) := ⟨_, rfl⟩
  have e4 : f.length = 32 := by rw [hfd, sha_len]
  rw [← hfd] at b3 hmac
  have o2 := all_one_byte f
  have l2 : (f.map pbyte).length = 32 := by rw [List.length_map, e4]
  have t2 : List.take 32 (f.map pbyte) = f.map pbyte := List.take_of_length_le (by omega)
  have i2 := isByte_pb f
  have u2 := unb_pb f
  rw [hmac]
  have o3 := all_one_byte (sha key)
  have e5 := sha_len key
  have l3 : ((sha key).map pbyte).length = 32 := by rw [List.length_map, e5]
  have t3 : List.take 32 ((sha key).map pbyte) = (sha key).map pbyte := List.take_of_length_le (by omega)
  have i3 := isByte_pb (sha key)
  have u3 := unb_pb (sha key)
  by_cases hlen : 64 < key.length
  · rw [if_pos hlen] at hk64
    subst hk64
    (refine PCalls_f Tryd.func69 rfl Tryd.ntmps69 Tryd.results69 (by simp) fun fin hfin => ?_; have hnm : True := trivial; simp only [ev, simprocAttr])
    repeat' (first
    | (with_reducible apply W_seq_k; intro nx hnx)
    | (with_reducible first | refine wr 503 ?_ | refine wd (id := 6) 503 3 (.op 1 true (.op 4 true (.op 5 true (.alt 0 true (.alt 2 true (.alt 3 true (.alt 6 false (.alt 7 false (.op 8 true (.op 9 false (.done))) (.alt 8 true (.op 7 false (.op 9 false (.done))) .stop)) (.alt 8 true (.op 6 false (.op 7 false (.op 9 false (.done)))) .stop)) (.alt 8 true (.op 3 true (.op 6 false (.op 7 false (.op 9 false (.done))))) .stop)) (.alt 8 true (.op 2 true (.op 3 true (.op 6 false (.op 7 false (.op 9 false (.done)))))) .stop)) (.alt 8 true (.op 0 true (.op 2 true (.op 3 true (.op 6 false (.op 7 false (.op 9 false (.done))))))) .stop))))) (by kernel_rfl) ?_)
    | ((with_reducible first | (apply WL_op; intro nx hnx) | refine Ev_out ?_ | refine wc ?_ | (apply popsD_op; intro nx hnx) | (refine popsD_alt ?_ ?_; intro nx hnx) | (refine pf hnm fun nm hnm => ?_; try simp only [fmb] at hnm) | (refine pm hnm fun nm hnm => ?_; try simp only [fmb] at hnm)); try (simp (maxSteps := 2000000) (disch := omega) only [ev, ↓evp, PV.cells, PV.one, PV.mem?, Value.cells, simprocAttr, hnm, Tryd.tf0, Tryd.tf3, Tryd.tf4, Tryd.tf5, Tryd.tf9, Tryd.tf27, Tryd.tf34, Tryd.tf79, Tryd.tf82, Tryd.call35, Tryd.call36, Tryd.call37, Tryd.call83, hkb, o3, l3, t3, i3, u3, e5, o1, l1, t1, i1, u1, o2, l2, t2, i2, u2, e3, e4]))
    | ((with_reducible first | apply W_block | apply W_scope | apply WL_nil | apply W_label | apply W_skip | apply W_exit | apply W_ret | apply popsD_done | exact popsD_stop) <;> try simp only [kks, simprocAttr])
    | (with_reducible apply pg <;> (intro hc; (try simp only [hcb, simprocAttr, ne_eq, forall_const] at hc); first | (exfalso; omega) | exact absurd trivial hc | skip))
    | (with_reducible apply hnx; clear hnx nx)
    | (with_reducible refine And.intro (by omega) ?_)
    | (with_reducible refine And.intro ?_ ?_)
    | (with_reducible refine pe (hs) ?_)
    | (with_reducible refine pe (begin_c G) ?_)
    | (with_reducible refine pe (a1) ?_)
    | (with_reducible refine pe (a2) ?_)
    | (with_reducible refine pe (a3) ?_)
    | (with_reducible refine pe (b1) ?_)
    | (with_reducible refine pe (b2) ?_)
    | (with_reducible refine pe (b3) ?_)
    | (refine mac_lend _ (sha key) 54 rfl (by simp [look, hnm]) hk ?_; refine Ev_in ?_)
    | (refine mac_lend _ (sha key) 92 rfl (by simp [look, hnm]) hk ?_; refine Ev_in ?_)
    | (clear hnx nx; with_reducible apply hnx; clear hnx nx)
    | (clear hnx nx; clear hnx nx; with_reducible apply hnx; clear hnx nx))
    all_goals first
      | exact rfl
      | (exfalso
         omega)
      | (refine hfin _ _ (Fin_ret1 rfl (Sub_nil _) ?_); simp only [cob, simprocAttr]; first | trivial | exact ⟨rfl, by trivial⟩ | (simp; done) | (simp; omega))
  · rw [if_neg hlen] at hk64
    subst hk64
    (refine PCalls_f Tryd.func69 rfl Tryd.ntmps69 Tryd.results69 (by simp) fun fin hfin => ?_; have hnm : True := trivial; simp only [ev, simprocAttr])
    repeat' (first
    | (with_reducible apply W_seq_k; intro nx hnx)
    | (with_reducible first | refine wr 503 ?_ | refine wd (id := 6) 503 3 (.op 1 true (.op 4 true (.op 5 true (.alt 0 true (.alt 2 true (.alt 3 true (.alt 6 false (.alt 7 false (.op 8 true (.op 9 false (.done))) (.alt 8 true (.op 7 false (.op 9 false (.done))) .stop)) (.alt 8 true (.op 6 false (.op 7 false (.op 9 false (.done)))) .stop)) (.alt 8 true (.op 3 true (.op 6 false (.op 7 false (.op 9 false (.done))))) .stop)) (.alt 8 true (.op 2 true (.op 3 true (.op 6 false (.op 7 false (.op 9 false (.done)))))) .stop)) (.alt 8 true (.op 0 true (.op 2 true (.op 3 true (.op 6 false (.op 7 false (.op 9 false (.done))))))) .stop))))) (by kernel_rfl) ?_)
    | ((with_reducible first | (apply WL_op; intro nx hnx) | refine Ev_out ?_ | refine wc ?_ | (apply popsD_op; intro nx hnx) | (refine popsD_alt ?_ ?_; intro nx hnx) | (refine pf hnm fun nm hnm => ?_; try simp only [fmb] at hnm) | (refine pm hnm fun nm hnm => ?_; try simp only [fmb] at hnm)); try (simp (maxSteps := 2000000) (disch := omega) only [ev, ↓evp, PV.cells, PV.one, PV.mem?, Value.cells, simprocAttr, hnm, Tryd.tf0, Tryd.tf3, Tryd.tf4, Tryd.tf5, Tryd.tf9, Tryd.tf27, Tryd.tf34, Tryd.tf79, Tryd.tf82, Tryd.call35, Tryd.call36, Tryd.call37, Tryd.call83, hkb, o1, l1, t1, i1, u1, o2, l2, t2, i2, u2, e3, e4]))
    | ((with_reducible first | apply W_block | apply W_scope | apply WL_nil | apply W_label | apply W_skip | apply W_exit | apply W_ret | apply popsD_done | exact popsD_stop) <;> try simp only [kks, simprocAttr])
    | (with_reducible apply pg <;> (intro hc; (try simp only [hcb, simprocAttr, ne_eq, forall_const] at hc); first | (exfalso; omega) | exact absurd trivial hc | skip))
    | (with_reducible apply hnx; clear hnx nx)
    | (with_reducible refine And.intro (by omega) ?_)
    | (with_reducible refine And.intro ?_ ?_)
    | (with_reducible refine pe (begin_c G) ?_)
    | (with_reducible refine pe (a1) ?_)
    | (with_reducible refine pe (a2) ?_)
    | (with_reducible refine pe (a3) ?_)
    | (with_reducible refine pe (b1) ?_)
    | (with_reducible refine pe (b2) ?_)
    | (with_reducible refine pe (b3) ?_)
    | (refine mac_lend _ k 54 rfl (by simp [look, hnm]) hk ?_; refine Ev_in ?_)
    | (refine mac_lend _ k 92 rfl (by simp [look, hnm]) hk ?_; refine Ev_in ?_)
    | (clear hnx nx; with_reducible apply hnx; clear hnx nx)
    | (clear hnx nx; clear hnx nx; with_reducible apply hnx; clear hnx nx))
    all_goals first
      | exact rfl
      | (exfalso
         omega)
      | (refine hfin _ _ (Fin_ret1 rfl (Sub_nil _) ?_); simp only [cob, simprocAttr]; first | trivial | exact ⟨rfl, by trivial⟩ | (simp; done) | (simp; omega))
end Go.PM

namespace Go.PM
open Go.Proofs
attribute [local irreducible] W PCalls pcall pcallI WL
end Go.PM

namespace Go.PM
open Go.Proofs
attribute [local irreducible] W PCalls pcall pcallI WL
def tagB (tag : Int) : UInt8 := UInt8.ofNat (tag % 256).toNat
def ofIn (tag : Int) (parts : List (List UInt8)) : List UInt8 := tagB tag :: parts.flatMap bytesB
def ofH (tag : Int) (parts : List (List UInt8)) : List UInt8 := (sha (ofIn tag parts)).take 16
theorem ofH_len (tag : Int) (parts : List (List UInt8)) : (ofH tag parts).length = 16 := by rw [ofH, List.length_take, sha_len]; rfl
theorem tagB_wrap (tag : Int) : IntKind.u8.wrap tag = (((tagB tag).toNat : Nat) : Int) := by
  have h : (tag % 256).toNat < 256 := by omega
  have h2 : (tagB tag).toNat = (tag % 256).toNat := UInt8.toNat_ofNat_of_lt' (by simpa using h)
  rw [h2]
  simp [IntKind.wrap, IntKind.bits, IntKind.signed]
  omega
theorem bytesB_len (s : List UInt8) (h : s.length ≤ 4000) : (bytesB s).length ≤ s.length + 9 := by
  have := intB_len9 (n := s.length) ⟨by omega, by omega⟩
  rw [bytesB, List.length_append]
  omega
theorem flat_le : ∀ (parts : List (List UInt8)), (∀ p ∈ parts, p.length ≤ 4000) → (parts.flatMap bytesB).length ≤ parts.length * 4009
  | [], _ => by simp
  | p :: ps, h => by
    have h1 := bytesB_len p (h p (.head _))
    have h2 := h p (.head _)
    have h3 := flat_le ps fun q hq => h q (.tail _ hq)
    rw [List.flatMap_cons, List.length_append, List.length_cons]
    omega
def preP (tag : Int) (parts : List (List UInt8)) (i : Nat) : List UInt8 := tagB tag :: (parts.take i).flatMap bytesB
theorem preP_zero (tag : Int) (parts : List (List UInt8)) : preP tag parts 0 = [tagB tag] := by simp [preP]
theorem preP_succ (tag : Int) (parts : List (List UInt8)) (i : Nat) (p : List UInt8) (h : parts[i]? = some p) : preP tag parts (i + 1) = preP tag parts i ++ bytesB p := by
  rw [preP, List.take_add_one, h, Option.toList_some, List.flatMap_append, List.flatMap_singleton, preP]
  rfl
theorem preP_all (tag : Int) (parts : List (List UInt8)) (i : Nat) (h : parts.length ≤ i) : preP tag parts i = ofIn tag parts := by
  rw [preP, List.take_of_length_le h, ofIn]
theorem preP_le (tag : Int) (parts : List (List UInt8)) (i : Nat) (h : ∀ p ∈ parts, p.length ≤ 4000) (hn : parts.length ≤ 100) : (preP tag parts i).length ≤ 400901 := by
  have h1 := flat_le (parts.take i) fun p hp => h p (List.mem_of_mem_take hp)
  rw [preP, List.length_cons]
  rw [List.length_take] at h1
  have : min i parts.length ≤ 100 := by omega
  have := Nat.mul_le_mul_right 4009 this
  omega
theorem ofIn_le (tag : Int) (parts : List (List UInt8)) (h : ∀ p ∈ parts, p.length ≤ 4000) (hn : parts.length ≤ 100) : (ofIn tag parts).length ≤ 400901 := by
  rw [← preP_all tag parts parts.length (Nat.le_refl _)]
  exact preP_le tag parts _ h hn
/-- Bytes that are put in one after the other. -/
def bC (h : List UInt8) (i : Nat) : List PV := tab 16 fun m => if m < i then pbyte (h.getD m 0) else pint .u8 0
attribute [irreducible] bC
end Go.PM

namespace Go.PM
open Go.Proofs
attribute [local irreducible] W PCalls pcall pcallI WL
theorem stC_len (t : List UInt8) : (stC t).length = 73 := by rw [stC_st3, st3_len (stS_len t) (qOf_len t)]
theorem stC_one (t : List UInt8) : (stC t).all PV.one = true := by rw [stC_st3]; exact st3_one
theorem stC_take (t : List UInt8) : List.take 73 (stC t) = stC t := List.take_of_length_le (by rw [stC_len]; exact Nat.le_refl _)
theorem stC_drop (t : List UInt8) : List.drop 73 (stC t) = [] := List.drop_of_length_le (by rw [stC_len]; exact Nat.le_refl _)
theorem isB1 (b : UInt8) : isByte (pint .u8 ((b.toNat : Nat) : Int)) = true := by
  have := b.toNat_lt
  simp [isByte]
  omega
attribute [local irreducible] stC
set_option maxRecDepth 100000 in
set_option maxHeartbeats 8000000 in
theorem hof_c (G : Globs) (hG : G 0 = .iptr (KS.map pw) 0) (tag : Int) (parts : List (List UInt8)) (h : ∀ p ∈ parts, p.length ≤ 4000) (hn : parts.length ≤ 100) : PCalls Tryd.prog G 14 [pint .i64 tag, .list 1 (parts.map pstr)] [] (fun res H => res = .agg ((ofH tag parts).map pbyte) ∧ H = []) := by
  have hw := tagB_wrap tag
  have a0 := add_c G hG [] [tagB tag] (by simp)
  rw [List.nil_append] at a0
  have hub := unb_pbyte (tagB tag)
  have his := isB1 (tagB tag)
  have htot := ofIn_le tag parts h hn
  have hs := ssum_c G hG (ofIn tag parts) (by omega)
  have hd : ofH tag parts = (sha (ofIn tag parts)).take 16 := rfl
  have hol := ofH_len tag parts
  have hsl := sha_len (ofIn tag parts)
  have hone := all_one_byte (ofH tag parts)
  have hone2 := all_one_byte (sha (ofIn tag parts))
  have htk : List.take 16 ((ofH tag parts).map pbyte) = (ofH tag parts).map pbyte := List.take_of_length_le (by rw [List.length_map]; omega)
  have htk2 : List.take 16 ((sha (ofIn tag parts)).map pbyte) = (ofH tag parts).map pbyte := by rw [hd, List.map_take]
  have htk3 : List.take 32 ((sha (ofIn tag parts)).map pbyte) = (sha (ofIn tag parts)).map pbyte := List.take_of_length_le (by rw [List.length_map]; omega)
  (refine PCalls_f Tryd.func14 rfl Tryd.ntmps14 Tryd.results14 (by simp) fun fin hfin => ?_; have hnm : True := trivial; simp only [ev, simprocAttr])
  with_reducible apply W_seq_k
  intro nx hnx
  repeat' (first
    | (with_reducible first | refine wr 229811 ?_ | refine wd (id := 1) 229811 3 (.op 1 true (.op 2 true (.alt 0 true (.alt 3 false (.op 4 true (.alt 5 false (.op 6 true (.op 7 false (.done))) (.alt 6 true (.op 5 false (.op 7 false (.done))) .stop))) (.alt 6 true (.op 3 false (.op 4 true (.op 5 false (.op 7 false (.done))))) .stop)) (.alt 3 false (.op 4 true (.alt 0 true (.alt 5 false (.op 6 true (.op 7 false (.done))) (.alt 6 true (.op 5 false (.op 7 false (.done))) .stop)) (.alt 6 true (.op 0 true (.op 5 false (.op 7 false (.done)))) .stop))) (.alt 6 true (.alt 0 true (.op 3 false (.op 4 true (.op 5 false (.op 7 false (.done))))) (.alt 3 false (.op 4 true (.op 0 true (.op 5 false (.op 7 false (.done))))) .stop)) .stop))))) (by kernel_rfl) ?_ | refine wd (id := 5) 229811 1 (.op 0 true (.op 1 true (.op 2 true (.op 3 true (.op 4 false (.op 5 false (.done))))))) (by kernel_rfl) ?_)
    | ((with_reducible first | (apply WL_op; intro nx hnx) | refine Ev_out ?_ | refine wc ?_ | (apply popsD_op; intro nx hnx) | (refine popsD_alt ?_ ?_; intro nx hnx) | (refine pf hnm fun nm hnm => ?_; try simp only [fmb] at hnm) | (refine pm hnm fun nm hnm => ?_; try simp only [fmb] at hnm)); try (simp (maxSteps := 2000000) (disch := omega) only [ev, ↓evp, PV.cells, PV.one, PV.mem?, Value.cells, simprocAttr, hnm, Tryd.tf0, Tryd.tf1, Tryd.tf3, Tryd.tf5, Tryd.tf9, Tryd.tf24, Tryd.tf27, Tryd.tf37, Tryd.tf79, Tryd.tf82, Tryd.call26, Tryd.call35, Tryd.call36, Tryd.call37]))
    | ((with_reducible first | apply W_block | apply W_scope | apply WL_nil | apply W_label | apply W_skip | apply W_exit | apply W_ret | apply popsD_done | exact popsD_stop) <;> try simp only [kks, simprocAttr])
    | (with_reducible apply pg <;> (intro hc; (try simp only [hcb, simprocAttr, ne_eq, forall_const] at hc); first | (exfalso; omega) | exact absurd trivial hc | skip))
    | (with_reducible apply hnx; clear hnx nx)
    | (with_reducible refine And.intro (by omega) ?_)
    | (with_reducible refine And.intro ?_ ?_)
    | (clear hnx nx; with_reducible apply hnx; clear hnx nx)
    | (clear hnx nx; clear hnx nx; with_reducible apply hnx; clear hnx nx))
  obtain ⟨N4, hN4⟩ : ∃ N, N = nm := ⟨_, rfl⟩
  subst hN4
  with_reducible apply W_seq_k
  intro nx hnx
  obtain ⟨Z, hZ⟩ : ∃ Z, Z = List.replicate 16 (pint .u8 0) := ⟨_, rfl⟩
  have hZl : Z.length = 16 := by rw [hZ]; rfl
  have hnx := W_join hnx (fun τ => ∃ N5 : Int, ¬ N5 = N4 ∧ τ = ⟨fr 32 [(1, .list 1 (parts.map pstr)), (4, .ptr N4 0), (5, .ptr N5 0)], [(N5, ⟨79, false, 0, stC [tagB tag]⟩), (N4, ⟨37, false, 0, Z⟩)]⟩) (by
    clear hnx nx hnm a0 his hub hw
    rintro τ ⟨N5, hN, rfl⟩
    have hnm : ¬ N5 = N4 ∧ ¬ N4 = N5 := ⟨hN, fun e => hN e.symm⟩
    have hnd : [N5, N4].Nodup := by simp [hN]
    repeat' (first
    | (with_reducible apply W_seq_k; intro nx hnx)
    | (with_reducible first | refine wr 229811 ?_ | refine wd (id := 1) 229811 3 (.op 1 true (.op 2 true (.alt 0 true (.alt 3 false (.op 4 true (.alt 5 false (.op 6 true (.op 7 false (.done))) (.alt 6 true (.op 5 false (.op 7 false (.done))) .stop))) (.alt 6 true (.op 3 false (.op 4 true (.op 5 false (.op 7 false (.done))))) .stop)) (.alt 3 false (.op 4 true (.alt 0 true (.alt 5 false (.op 6 true (.op 7 false (.done))) (.alt 6 true (.op 5 false (.op 7 false (.done))) .stop)) (.alt 6 true (.op 0 true (.op 5 false (.op 7 false (.done)))) .stop))) (.alt 6 true (.alt 0 true (.op 3 false (.op 4 true (.op 5 false (.op 7 false (.done))))) (.alt 3 false (.op 4 true (.op 0 true (.op 5 false (.op 7 false (.done))))) .stop)) .stop))))) (by kernel_rfl) ?_ | refine wd (id := 5) 229811 1 (.op 0 true (.op 1 true (.op 2 true (.op 3 true (.op 4 false (.op 5 false (.done))))))) (by kernel_rfl) ?_)
    | ((with_reducible first | (apply WL_op; intro nx hnx) | refine Ev_out ?_ | refine wc ?_ | (apply popsD_op; intro nx hnx) | (refine popsD_alt ?_ ?_; intro nx hnx) | (refine pf hnm fun nm hnm => ?_; try simp only [fmb] at hnm) | (refine pm hnm fun nm hnm => ?_; try simp only [fmb] at hnm)); try (simp (maxSteps := 2000000) (disch := omega) only [ev, ↓evp, PV.cells, PV.one, PV.mem?, Value.cells, simprocAttr, hnm, Tryd.tf0, Tryd.tf1, Tryd.tf3, Tryd.tf5, Tryd.tf9, Tryd.tf24, Tryd.tf27, Tryd.tf37, Tryd.tf79, Tryd.tf82, Tryd.call26, Tryd.call35, Tryd.call36, Tryd.call37]))
    | ((with_reducible first | apply W_block | apply W_scope | apply WL_nil | apply W_label | apply W_skip | apply W_exit | apply W_ret | apply popsD_done | exact popsD_stop) <;> try simp only [kks, simprocAttr])
    | (with_reducible apply pg <;> (intro hc; (try simp only [hcb, simprocAttr, ne_eq, forall_const] at hc); first | (exfalso; omega) | exact absurd trivial hc | skip))
    | (with_reducible apply hnx; clear hnx nx)
    | (with_reducible refine And.intro (by omega) ?_)
    | (with_reducible refine And.intro ?_ ?_)
    | (clear hnx nx; with_reducible apply hnx; clear hnx nx)
    | (clear hnx nx; clear hnx nx; with_reducible apply hnx; clear hnx nx))
    refine W_loop_k (fun z τ => ∃ (i : Nat) (u : List UInt8), i ≤ parts.length ∧ z = parts.length - i ∧ u = preP tag parts i ∧ τ = ⟨fr 32 [(15, .list 1 (parts.map pstr)), (16, pint .i64 parts.length), (17, pint .i64 i), (4, .ptr N4 0), (5, .ptr N5 0)], [(N5, ⟨79, false, 0, stC u⟩), (N4, ⟨37, false, 0, Z⟩)]⟩) parts.length
      ⟨fr 32 [(15, .list 1 (parts.map pstr)), (16, pint .i64 parts.length), (17, pint .i64 (0 : Nat)), (4, .ptr N4 0), (5, .ptr N5 0)], [(N5, ⟨79, false, 0, stC [tagB tag]⟩), (N4, ⟨37, false, 0, Z⟩)]⟩ (by
      refine Wk_fr (by simp only [wkb, simprocAttr]) ?_
      exact Sub_refl hnd) ⟨0, [tagB tag], by omega, by omega, (preP_zero tag parts).symm, rfl⟩ ?_
    rintro z τ ⟨i, u, hi, rfl, hu, rfl⟩ lp hlp
    have hle := preP_le tag parts i h hn
    rw [← hu] at hle
    have l1 := stC_len u
    have l2 := stC_one u
    have l3 := stC_take u
    have l4 := stC_drop u
    by_cases hik : i < parts.length
    · obtain ⟨p, hg⟩ : ∃ p, parts[i]? = some p := ⟨_, List.getElem?_eq_getElem hik⟩
      have hg2 : parts[i]'(by omega) = p := by
        rw [List.getElem?_eq_getElem hik] at hg
        exact Option.some.inj hg
      have hp := h p (List.mem_of_getElem? hg)
      have hbl := bytesB_len p hp
      have hsu := preP_succ tag parts i p hg
      have b1 := isByte_pb (bytesB p)
      have b2 := unb_pb (bytesB p)
      have a1 := add_c G hG u (bytesB p) (by omega)
      rw [← hu] at hsu
      have m1 := stC_len (u ++ bytesB p)
      have m2 := stC_one (u ++ bytesB p)
      have m3 := stC_take (u ++ bytesB p)
      repeat' (first
    | (with_reducible apply W_seq_k; intro nx hnx)
    | (with_reducible first | refine wr 229811 ?_ | refine wd (id := 1) 229811 3 (.op 1 true (.op 2 true (.alt 0 true (.alt 3 false (.op 4 true (.alt 5 false (.op 6 true (.op 7 false (.done))) (.alt 6 true (.op 5 false (.op 7 false (.done))) .stop))) (.alt 6 true (.op 3 false (.op 4 true (.op 5 false (.op 7 false (.done))))) .stop)) (.alt 3 false (.op 4 true (.alt 0 true (.alt 5 false (.op 6 true (.op 7 false (.done))) (.alt 6 true (.op 5 false (.op 7 false (.done))) .stop)) (.alt 6 true (.op 0 true (.op 5 false (.op 7 false (.done)))) .stop))) (.alt 6 true (.alt 0 true (.op 3 false (.op 4 true (.op 5 false (.op 7 false (.done))))) (.alt 3 false (.op 4 true (.op 0 true (.op 5 false (.op 7 false (.done))))) .stop)) .stop))))) (by kernel_rfl) ?_ | refine wd (id := 5) 229811 1 (.op 0 true (.op 1 true (.op 2 true (.op 3 true (.op 4 false (.op 5 false (.done))))))) (by kernel_rfl) ?_)
    | ((with_reducible first | (apply WL_op; intro nx hnx) | refine Ev_out ?_ | refine wc ?_ | (apply popsD_op; intro nx hnx) | (refine popsD_alt ?_ ?_; intro nx hnx) | (refine pf hnm fun nm hnm => ?_; try simp only [fmb] at hnm) | (refine pm hnm fun nm hnm => ?_; try simp only [fmb] at hnm)); try (simp (maxSteps := 2000000) (disch := omega) only [ev, ↓evp, PV.cells, PV.one, PV.mem?, Value.cells, simprocAttr, hnm, Tryd.tf0, Tryd.tf1, Tryd.tf3, Tryd.tf5, Tryd.tf9, Tryd.tf24, Tryd.tf27, Tryd.tf37, Tryd.tf79, Tryd.tf82, Tryd.call26, Tryd.call35, Tryd.call36, Tryd.call37, hg, hg2, b1, b2, l1, l2, l3, l4, m1, m2, m3]))
    | ((with_reducible first | apply W_block | apply W_scope | apply WL_nil | apply W_label | apply W_skip | apply W_exit | apply W_ret | apply popsD_done | exact popsD_stop) <;> try simp only [kks, simprocAttr])
    | (with_reducible apply pg <;> (intro hc; (try simp only [hcb, simprocAttr, ne_eq, forall_const] at hc); first | (exfalso; omega) | exact absurd trivial hc | skip))
    | (with_reducible apply hnx; clear hnx nx)
    | (with_reducible refine And.intro (by omega) ?_)
    | (with_reducible refine And.intro ?_ ?_)
    | (with_reducible refine pe (wbytes_c G p (by omega)) ?_)
    | (with_reducible refine pe (a1) ?_)
    | (clear hnx nx; with_reducible apply hnx; clear hnx nx)
    | (clear hnx nx; clear hnx nx; with_reducible apply hnx; clear hnx nx))
      all_goals first
        | exact rfl
        | (exfalso
           omega)
        | (refine hlp _ (parts.length - (i + 1)) _ (by omega) ?_ ⟨i + 1, u ++ bytesB p, by omega, rfl, hsu.symm, rfl⟩
           refine Wk_fr (by simp only [wkb, simprocAttr]) ?_
           exact Sub_refl hnd)
    · have hui : u = ofIn tag parts := by rw [hu, preP_all _ _ _ (by omega)]
      rw [← hui] at hs hone2 htk2 htk3 hsl
      have hZd : List.drop 16 Z = [] := List.drop_of_length_le (by omega)
      have hsl2 : ((sha u).map pbyte).length = 32 := by rw [List.length_map, hsl]
      have hol2 : ((ofH tag parts).map pbyte).length = 16 := by rw [List.length_map, hol]
      repeat' (first
    | (with_reducible apply W_seq_k; intro nx hnx)
    | (with_reducible first | refine wr 229811 ?_ | refine wd (id := 1) 229811 3 (.op 1 true (.op 2 true (.alt 0 true (.alt 3 false (.op 4 true (.alt 5 false (.op 6 true (.op 7 false (.done))) (.alt 6 true (.op 5 false (.op 7 false (.done))) .stop))) (.alt 6 true (.op 3 false (.op 4 true (.op 5 false (.op 7 false (.done))))) .stop)) (.alt 3 false (.op 4 true (.alt 0 true (.alt 5 false (.op 6 true (.op 7 false (.done))) (.alt 6 true (.op 5 false (.op 7 false (.done))) .stop)) (.alt 6 true (.op 0 true (.op 5 false (.op 7 false (.done)))) .stop))) (.alt 6 true (.alt 0 true (.op 3 false (.op 4 true (.op 5 false (.op 7 false (.done))))) (.alt 3 false (.op 4 true (.op 0 true (.op 5 false (.op 7 false (.done))))) .stop)) .stop))))) (by kernel_rfl) ?_ | refine wd (id := 5) 229811 1 (.op 0 true (.op 1 true (.op 2 true (.op 3 true (.op 4 false (.op 5 false (.done))))))) (by kernel_rfl) ?_)
    | ((with_reducible first | (apply WL_op; intro nx hnx) | refine Ev_out ?_ | refine wc ?_ | (apply popsD_op; intro nx hnx) | (refine popsD_alt ?_ ?_; intro nx hnx) | (refine pf hnm fun nm hnm => ?_; try simp only [fmb] at hnm) | (refine pm hnm fun nm hnm => ?_; try simp only [fmb] at hnm)); try (simp (maxSteps := 2000000) (disch := omega) only [ev, ↓evp, PV.cells, PV.one, PV.mem?, Value.cells, simprocAttr, hnm, Tryd.tf0, Tryd.tf1, Tryd.tf3, Tryd.tf5, Tryd.tf9, Tryd.tf24, Tryd.tf27, Tryd.tf37, Tryd.tf79, Tryd.tf82, Tryd.call26, Tryd.call35, Tryd.call36, Tryd.call37, l1, l2, l3, l4, hone2, htk2, htk3, hsl, hsl2, hZl, hZd, hol, hol2, hone, htk]))
    | ((with_reducible first | apply W_block | apply W_scope | apply WL_nil | apply W_label | apply W_skip | apply W_exit | apply W_ret | apply popsD_done | exact popsD_stop) <;> try simp only [kks, simprocAttr])
    | (with_reducible apply pg <;> (intro hc; (try simp only [hcb, simprocAttr, ne_eq, forall_const] at hc); first | (exfalso; omega) | exact absurd trivial hc | skip))
    | (with_reducible apply hnx; clear hnx nx)
    | (with_reducible refine And.intro (by omega) ?_)
    | (with_reducible refine And.intro ?_ ?_)
    | (with_reducible refine pe (hs) ?_)
    | (clear hnx nx; with_reducible apply hnx; clear hnx nx)
    | (clear hnx nx; clear hnx nx; with_reducible apply hnx; clear hnx nx))
      all_goals first
        | exact rfl
        | (exfalso
           omega)
        | skip
      generalize ofH tag parts = f at *
      refine hfin _ _ (Fin_cell (res := .agg (f.map pbyte)) Tryd.tf37 (n := N4) (off := 0) (o := ⟨37, false, 0, f.map pbyte⟩) (by simp only [fr_getD_cons, Nat.reduceEqDiff, Nat.reduceLT, ↓reduceIte]) (by simp [look, hnm]) ?_ (Sub_nil _) ⟨rfl, rfl⟩)
      simp [pload, hol, htk, hone])
  have mkT : ∀ (l : List (Nat × PV)) (H : Heap) (a : Int), ¬ a = N4 → (∀ x ∈ [(1, PV.list 1 (parts.map pstr)), (4, PV.ptr N4 0), (5, PV.ptr a 0)], (fr 32 l).getD x.1 .junk = x.2) →
      Sub [(a, ⟨79, false, 0, stC [tagB tag]⟩), (N4, ⟨37, false, 0, Z⟩)] H → nx ⟨fr 32 l, H⟩ :=
    fun l H a h1 h2 h3 => hnx _ ⟨_, ⟨a, h1, rfl⟩, Wk_fr h2 h3⟩
  clear hnx
  have l1 := stC_len [tagB tag]
  have l2 := stC_one [tagB tag]
  have l3 := stC_take [tagB tag]
  repeat' (first
    | (with_reducible apply W_seq_k; intro nx hnx)
    | (with_reducible first | refine wr 229811 ?_ | refine wd (id := 1) 229811 3 (.op 1 true (.op 2 true (.alt 0 true (.alt 3 false (.op 4 true (.alt 5 false (.op 6 true (.op 7 false (.done))) (.alt 6 true (.op 5 false (.op 7 false (.done))) .stop))) (.alt 6 true (.op 3 false (.op 4 true (.op 5 false (.op 7 false (.done))))) .stop)) (.alt 3 false (.op 4 true (.alt 0 true (.alt 5 false (.op 6 true (.op 7 false (.done))) (.alt 6 true (.op 5 false (.op 7 false (.done))) .stop)) (.alt 6 true (.op 0 true (.op 5 false (.op 7 false (.done)))) .stop))) (.alt 6 true (.alt 0 true (.op 3 false (.op 4 true (.op 5 false (.op 7 false (.done))))) (.alt 3 false (.op 4 true (.op 0 true (.op 5 false (.op 7 false (.done))))) .stop)) .stop))))) (by kernel_rfl) ?_ | refine wd (id := 5) 229811 1 (.op 0 true (.op 1 true (.op 2 true (.op 3 true (.op 4 false (.op 5 false (.done))))))) (by kernel_rfl) ?_)
    | ((with_reducible first | (apply WL_op; intro nx hnx) | refine Ev_out ?_ | refine wc ?_ | (apply popsD_op; intro nx hnx) | (refine popsD_alt ?_ ?_; intro nx hnx) | (refine pf hnm fun nm hnm => ?_; try simp only [fmb] at hnm) | (refine pm hnm fun nm hnm => ?_; try simp only [fmb] at hnm)); try (simp (maxSteps := 2000000) (disch := omega) only [ev, ↓evp, PV.cells, PV.one, PV.mem?, Value.cells, simprocAttr, hnm, Tryd.tf0, Tryd.tf1, Tryd.tf3, Tryd.tf5, Tryd.tf9, Tryd.tf24, Tryd.tf27, Tryd.tf37, Tryd.tf79, Tryd.tf82, Tryd.call26, Tryd.call35, Tryd.call36, Tryd.call37, hw, hub, his, l1, l2, l3]))
    | ((with_reducible first | apply W_block | apply W_scope | apply WL_nil | apply W_label | apply W_skip | apply W_exit | apply W_ret | apply popsD_done | exact popsD_stop) <;> try simp only [kks, simprocAttr])
    | (with_reducible apply pg <;> (intro hc; (try simp only [hcb, simprocAttr, ne_eq, forall_const] at hc); first | (exfalso; omega) | exact absurd trivial hc | skip))
    | (with_reducible apply hnx; clear hnx nx)
    | (with_reducible refine And.intro (by omega) ?_)
    | (with_reducible refine And.intro ?_ ?_)
    | (with_reducible refine pe (begin_c G) ?_)
    | (with_reducible refine pe (a0) ?_)
    | (clear hnx nx; with_reducible apply hnx; clear hnx nx)
    | (clear hnx nx; clear hnx nx; with_reducible apply hnx; clear hnx nx))
  all_goals first
    | exact rfl
    | skip
  all_goals
    rw [hZ] at mkT
    apply mkT
    rotate_left
    · simp only [List.forall_mem_cons, List.not_mem_nil, false_implies, implies_true, and_true, fr_getD_cons, fr_getD_nil, Nat.reduceEqDiff, Nat.reduceLT, ↓reduceIte]
      exact ⟨trivial, trivial, rfl⟩
    · exact ⟨by simp [List.replicate_succ], by simp [names, hnm]⟩
    · simp [hnm]
end Go.PM

namespace Go.PM
/-- The digest of lines. -/
def dgL (l : List (List UInt8)) : List UInt8 := ofH 5 [encL bytesB l]
theorem dgL_len (l : List (List UInt8)) : (dgL l).length = 16 := ofH_len _ _
/-- A change, encoded. -/
def chB (c : Chg) : List UInt8 := intB c.at_ ++ (intB c.drop ++ encL bytesB c.add)
/-- The message of the changes from u to v: the first i of them. -/
def preM (u v : List (List UInt8)) (i : Nat) : List UInt8 := encL id [dgL u, dgL v] ++ intB (diffL u v).length ++ ((diffL u v).take i).flatMap chB
def msgM (u v : List (List UInt8)) : List UInt8 := preM u v (diffL u v).length
theorem preM_step {u v : List (List UInt8)} {i : Nat} (h : i < (diffL u v).length) : preM u v (i + 1) = preM u v i ++ chB (diffL u v)[i] := by
  unfold preM
  rw [List.take_succ_eq_append_getElem h, List.flatMap_append]
  simp
/-- Few short lines. -/
def Small (l : List (List UInt8)) : Prop := l.length ≤ 14 ∧ ∀ s ∈ l, s.length ≤ 5
theorem flat5 : ∀ l : List (List UInt8), (∀ s ∈ l, s.length ≤ 5) → (l.flatMap bytesB).length ≤ 14 * l.length
  | [], _ => by simp
  | s :: l, h => by
    have h1 := bytesB_len s (by have := h s (List.mem_cons_self); omega)
    have h2 := h s (List.mem_cons_self)
    have h3 := flat5 l (fun x hx => h x (List.mem_cons_of_mem _ hx))
    rw [List.flatMap_cons, List.length_append, List.length_cons]
    omega
theorem enc5 {l : List (List UInt8)} (h : ∀ s ∈ l, s.length ≤ 5) (hl : l.length ≤ 1000) : (encL bytesB l).length ≤ 9 + 14 * l.length := by
  have h1 := flat5 l h
  have h2 := intB_len9 (n := (l.length : Int)) ⟨by omega, by omega⟩
  unfold encL
  rw [List.length_append]
  omega
theorem validL_in {n : Int} : ∀ (l : List Chg) (last : Int), -1 ≤ last → validL n last l = true → ∀ c ∈ l, 0 ≤ c.at_ ∧ c.at_ ≤ n ∧ 0 ≤ c.drop ∧ c.drop ≤ n
  | [], _, _, _, c, hc => by cases hc
  | x :: l, last, hl, hv, c, hc => by
    unfold validL at hv
    split at hv
    · cases hv
    · rcases List.mem_cons.1 hc with rfl | hc
      · omega
      · exact validL_in l _ (by omega) hv c hc
theorem adds_in (u : List (List UInt8)) : ∀ (l : List Chg) (p : Int), addsL l ≤ (applyF u p l).length ∧ ∀ c ∈ l, ∀ s ∈ c.add, s ∈ applyF u p l
  | [], p => by simp [addsL]
  | c :: l, p => by
    obtain ⟨h1, h2⟩ := adds_in u l (c.at_ + c.drop)
    refine ⟨?_, fun x hx s hs => ?_⟩
    · have e : addsL (c :: l) = c.add.length + addsL l := rfl
      rw [applyF, List.length_append, List.length_append, e]
      omega
    · rw [applyF]
      rcases List.mem_cons.1 hx with rfl | hx
      · exact List.mem_append.2 (.inr (List.mem_append.2 (.inl hs)))
      · exact List.mem_append.2 (.inr (List.mem_append.2 (.inr (h2 x hx s hs))))
theorem adds_one : ∀ (l : List Chg), ∀ c ∈ l, c.add.length ≤ addsL l
  | x :: l, c, hc => by
    have e : addsL (x :: l) = x.add.length + addsL l := rfl
    rw [e]
    rcases List.mem_cons.1 hc with rfl | hc
    · omega
    · have := adds_one l c hc
      omega
/-- What is known of the changes between few short lines. -/
theorem diff_small {u v : List (List UInt8)} (hu : Small u) (hv : Small v) : (diffL u v).length ≤ 28 ∧ addsL (diffL u v) ≤ 14 ∧ ∀ c ∈ diffL u v, (0 ≤ c.at_ ∧ c.at_ ≤ 14) ∧ (0 ≤ c.drop ∧ c.drop ≤ 14) ∧ c.add.length ≤ 14 ∧ ∀ s ∈ c.add, s.length ≤ 5 := by
  have h1 := diffL_len u v
  have h2 := validL_in _ _ (by omega) (diffL_valid u v)
  obtain ⟨h3, h4⟩ := adds_in u (diffL u v) 0
  rw [diffL_apply] at h3 h4
  have hul := hu.1
  have hvl := hv.1
  refine ⟨by omega, by omega, fun c hc => ?_⟩
  have h5 := h2 c hc
  have h6 := adds_one _ c hc
  exact ⟨by omega, by omega, by omega, fun s hs => hv.2 s (h4 c hc s hs)⟩
theorem chB_len {c : Chg} (h : (0 ≤ c.at_ ∧ c.at_ ≤ 14) ∧ (0 ≤ c.drop ∧ c.drop ≤ 14) ∧ c.add.length ≤ 14 ∧ ∀ s ∈ c.add, s.length ≤ 5) : (chB c).length ≤ 27 + 14 * c.add.length := by
  obtain ⟨h1, h2, h3, h4⟩ := h
  have e1 := intB_len9 (n := c.at_) ⟨by omega, by omega⟩
  have e2 := intB_len9 (n := c.drop) ⟨by omega, by omega⟩
  have e3 := enc5 h4 (by omega)
  unfold chB
  rw [List.length_append, List.length_append]
  omega
theorem flat_ch : ∀ l : List Chg, (∀ c ∈ l, (0 ≤ c.at_ ∧ c.at_ ≤ 14) ∧ (0 ≤ c.drop ∧ c.drop ≤ 14) ∧ c.add.length ≤ 14 ∧ ∀ s ∈ c.add, s.length ≤ 5) → (l.flatMap chB).length ≤ 27 * l.length + 14 * addsL l
  | [], _ => by simp
  | c :: l, h => by
    have h1 := chB_len (h c (List.mem_cons_self))
    have h2 := flat_ch l (fun x hx => h x (List.mem_cons_of_mem _ hx))
    have e : addsL (c :: l) = c.add.length + addsL l := rfl
    rw [List.flatMap_cons, List.length_append, List.length_cons, e]
    omega
theorem addsL_take : ∀ (l : List Chg) (i : Nat), addsL (l.take i) ≤ addsL l
  | [], i => by simp
  | c :: l, 0 => by simp [addsL]
  | c :: l, i + 1 => by
    have := addsL_take l i
    have e : addsL (c :: l) = c.add.length + addsL l := rfl
    have e2 : addsL ((c :: l).take (i + 1)) = c.add.length + addsL (l.take i) := rfl
    omega
theorem head_len (u v : List (List UInt8)) : (encL id [dgL u, dgL v]).length ≤ 41 := by
  have h2 := intB_len9 (n := 2) ⟨by omega, by omega⟩
  have e : encL id [dgL u, dgL v] = intB 2 ++ (dgL u ++ (dgL v ++ [])) := rfl
  rw [e, List.length_append, List.length_append, List.length_append, dgL_len, dgL_len, List.length_nil]
  omega
theorem preM_len {u v : List (List UInt8)} (hu : Small u) (hv : Small v) (i : Nat) : (preM u v i).length ≤ 1100 := by
  obtain ⟨h1, h2, h3⟩ := diff_small hu hv
  have h4 := flat_ch ((diffL u v).take i) (fun c hc => h3 c (List.mem_of_mem_take hc))
  have h5 := addsL_take (diffL u v) i
  have h6 := intB_len9 (n := ((diffL u v).length : Int)) ⟨by omega, by omega⟩
  have h7 := head_len u v
  have h8 : ((diffL u v).take i).length ≤ (diffL u v).length := by rw [List.length_take]; omega
  unfold preM
  rw [List.length_append, List.length_append]
  omega
theorem line_small (x : Int) : (lineI x).length ≤ 5 := by
  unfold lineI
  rw [List.length_take]
  have : (aroundI x 6).toNat ≤ 5 := by
    have := aroundI_range x 6 (by omega)
    omega
  omega
theorem lines_small (l : List Int) : Small ((l.take 14).map lineI) := by
  refine ⟨by rw [List.length_map, List.length_take]; omega, fun s hs => ?_⟩
  obtain ⟨x, _, rfl⟩ := List.mem_map.1 hs
  exact line_small x
end Go.PM

namespace Go.PM
open Go.Proofs
attribute [local irreducible] W PCalls pcall pcallI WL
/-- A copy: a row, or none. -/
def CR (b : List UInt8) (res : PV) (H : Heap) : Prop := (b = [] ∧ res = pnil ∧ H = []) ∨ RowB b res H
theorem CR.frz {G : Globs} {f : FuncId} {args : List PV} {b : List UInt8} (h : PCalls Tryd.prog G f args [] (CR b)) : PCalls Tryd.prog G f args [] (fun res H => res = .list 1 (b.map pbyte) ∧ H = []) := by
  refine h.px fun res H hR => ?_
  rcases hR with ⟨rfl, rfl, rfl⟩ | ⟨N, rfl, rfl⟩
  · exact ⟨_, _, Px.nil 1 _, rfl, rfl⟩
  · have h2 := Px.freeze (G := G) (.row N 1 b.length) [(N, ⟨5, true, 1, b.map pbyte⟩)] N (o := ⟨5, true, 1, b.map pbyte⟩) (by simp only [look, if_true]) (by simp [frzOk, del])
    refine ⟨_, _, h2, ?_, by simp [frzH, del]⟩
    simp only [PM.frz, frz1, if_true]
    rw [if_pos ⟨by simp, by omega⟩, elemsOf, if_pos rfl, List.take_of_length_le (by simp)]
set_option maxRecDepth 100000 in
set_option maxHeartbeats 8000000 in
/-- An empty row with room, or none. -/
theorem grow_c (G : Globs) (n : Nat) (hn : n ≤ 4294967296) : PCalls Tryd.prog G 39 [pnil, pint .i64 n] [] (CR []) := by
  (refine PCalls_f Tryd.func39 rfl Tryd.ntmps39 Tryd.results39 (by simp) fun fin hfin => ?_; have hnm : True := trivial; simp only [ev, simprocAttr])
  repeat' (first
    | (with_reducible apply W_seq_k; intro nx hnx)
    | (with_reducible first | refine wr 19 ?_)
    | ((with_reducible first | (apply WL_op; intro nx hnx) | refine Ev_out ?_ | refine wc ?_ | (refine pf hnm fun nm hnm => ?_; try simp only [fmb] at hnm) | (refine pm hnm fun nm hnm => ?_; try simp only [fmb] at hnm)); try (simp (maxSteps := 2000000) (disch := omega) only [ev, ↓evp, PV.cells, PV.one, PV.mem?, Value.cells, simprocAttr, hnm, Tryd.tf0, Tryd.tf3, Tryd.tf4, Tryd.tf5, Tryd.tf9, Tryd.tf20, Tryd.tf27]))
    | ((with_reducible first | apply W_block | apply W_scope | apply WL_nil | apply W_label | apply W_skip | apply W_exit | apply W_ret) <;> try simp only [kks, simprocAttr])
    | (with_reducible apply pg <;> (intro hc; (try simp only [hcb, simprocAttr, ne_eq, forall_const] at hc); first | (exfalso; omega) | exact absurd trivial hc | skip))
    | (with_reducible apply hnx; clear hnx nx)
    | (with_reducible refine And.intro (by omega) ?_)
    | (with_reducible refine And.intro ?_ ?_)
    | (clear hnx nx; with_reducible apply hnx; clear hnx nx)
    | (clear hnx nx; clear hnx nx; with_reducible apply hnx; clear hnx nx))
  all_goals first
    | (exfalso
       omega)
    | skip
  · refine hfin _ _ (Fin_ret1 rfl (Sub_refl (by simp [names])) ?_); simp only [cob, simprocAttr]
    exact .inr ⟨nm, rfl, rfl⟩
  · refine hfin _ _ (Fin_ret1 rfl (Sub_nil _) ?_); simp only [cob, simprocAttr]
    exact .inl ⟨rfl, rfl, rfl⟩
/-- Bytes that nobody turns. -/
@[reducible] def pl (x : List UInt8) : PV := .list 1 (x.map pbyte)
def lenS (xs : List (List UInt8)) : Nat := (xs.map List.length).sum
theorem lenS_take (xs : List (List UInt8)) (i : Nat) (h : i < xs.length) : lenS (xs.take (i + 1)) = lenS (xs.take i) + xs[i].length := by
  rw [List.take_add_one, List.getElem?_eq_getElem h]
  unfold lenS
  rw [List.map_append, List.sum_append]
  rfl
theorem lenS_le (xs : List (List UInt8)) (i : Nat) : lenS (xs.take i) ≤ lenS xs := by
  have h : lenS xs = lenS (xs.take i) + lenS (xs.drop i) := by
    conv => lhs; rw [← List.take_append_drop i xs]
    unfold lenS
    rw [List.map_append, List.sum_append]
  omega
theorem lenS_flat (xs : List (List UInt8)) : xs.flatten.length = lenS xs := by simp [lenS, List.length_flatten]
theorem flat_take (xs : List (List UInt8)) (i : Nat) (h : i < xs.length) : (xs.take (i + 1)).flatten = (xs.take i).flatten ++ xs[i] := by
  rw [List.take_add_one, List.getElem?_eq_getElem h, List.flatten_append]
  congr 1
  show [xs[i]].flatten = _
  simp
set_option maxRecDepth 100000 in
set_option maxHeartbeats 8000000 in
theorem concat_r (G : Globs) (xs : List (List UInt8)) (hx : xs.length ≤ 1000) (hb : lenS xs ≤ 4294967296) : PCalls Tryd.prog G 24 [.list 1 (xs.map pl)] [] (CR xs.flatten) := by
  (refine PCalls_f Tryd.func24 rfl Tryd.ntmps24 Tryd.results24 (by simp) fun fin hfin => ?_; have hnm : True := trivial; simp only [ev, simprocAttr])
  repeat' (first
    | (with_reducible apply W_seq_k; intro nx hnx)
    | (with_reducible first | refine wr 234884973 ?_)
    | ((with_reducible first | (apply WL_op; intro nx hnx) | refine Ev_out ?_ | refine wc ?_ | (refine pf hnm fun nm hnm => ?_; try simp only [fmb] at hnm) | (refine pm hnm fun nm hnm => ?_; try simp only [fmb] at hnm)); try (simp (maxSteps := 2000000) (disch := omega) only [ev, ↓evp, PV.cells, PV.one, PV.mem?, Value.cells, simprocAttr, hnm, Tryd.tf0, Tryd.tf3, Tryd.tf4, Tryd.tf5, Tryd.tf9, Tryd.tf20, Tryd.tf27, Tryd.tf87, Tryd.call39]))
    | ((with_reducible first | apply W_block | apply W_scope | apply WL_nil | apply W_label | apply W_skip | apply W_exit | apply W_ret) <;> try simp only [kks, simprocAttr])
    | (with_reducible apply pg <;> (intro hc; (try simp only [hcb, simprocAttr, ne_eq, forall_const] at hc); first | (exfalso; omega) | exact absurd trivial hc | skip))
    | (with_reducible apply hnx; clear hnx nx)
    | (with_reducible refine And.intro (by omega) ?_)
    | (with_reducible refine And.intro ?_ ?_)
    | (clear hnx nx; with_reducible apply hnx; clear hnx nx)
    | (clear hnx nx; clear hnx nx; with_reducible apply hnx; clear hnx nx))
  refine W_loop_k (fun z τ => ∃ (i : Nat), i ≤ xs.length ∧ z = xs.length - i ∧ τ = ⟨fr 36 [(0, .list 1 (xs.map pl)), (9, .list 1 (xs.map pl)), (10, pint .i64 xs.length), (11, pint .i64 i), (3, pint .i64 (lenS (xs.take i)))], []⟩) xs.length
    ⟨fr 36 [(0, .list 1 (xs.map pl)), (9, .list 1 (xs.map pl)), (10, pint .i64 xs.length), (11, pint .i64 (0 : Nat)), (3, pint .i64 (0 : Nat))], []⟩ (by
    refine Wk_fr (by simp only [wkb, simprocAttr]) ?_
    exact ⟨by simp, by simp [names]⟩) ⟨0, by omega, by omega, rfl⟩ ?_
  rintro z τ ⟨i, hi, rfl, rfl⟩ lp hlp
  have hle := lenS_le xs (i + 1)
  by_cases hik : i < xs.length
  · have ht := lenS_take xs i hik
    repeat' (first
    | (with_reducible apply W_seq_k; intro nx hnx)
    | (with_reducible first | refine wr 234884973 ?_)
    | ((with_reducible first | (apply WL_op; intro nx hnx) | refine Ev_out ?_ | refine wc ?_ | (refine pf hnm fun nm hnm => ?_; try simp only [fmb] at hnm) | (refine pm hnm fun nm hnm => ?_; try simp only [fmb] at hnm)); try (simp (maxSteps := 2000000) (disch := omega) only [ev, ↓evp, PV.cells, PV.one, PV.mem?, Value.cells, simprocAttr, hnm, Tryd.tf0, Tryd.tf3, Tryd.tf4, Tryd.tf5, Tryd.tf9, Tryd.tf20, Tryd.tf27, Tryd.tf87, Tryd.call39]))
    | ((with_reducible first | apply W_block | apply W_scope | apply WL_nil | apply W_label | apply W_skip | apply W_exit | apply W_ret) <;> try simp only [kks, simprocAttr])
    | (with_reducible apply pg <;> (intro hc; (try simp only [hcb, simprocAttr, ne_eq, forall_const] at hc); first | (exfalso; omega) | exact absurd trivial hc | skip))
    | (with_reducible apply hnx; clear hnx nx)
    | (with_reducible refine And.intro (by omega) ?_)
    | (with_reducible refine And.intro ?_ ?_)
    | (clear hnx nx; with_reducible apply hnx; clear hnx nx)
    | (clear hnx nx; clear hnx nx; with_reducible apply hnx; clear hnx nx))
    all_goals first
      | (exfalso
         omega)
      | (refine hlp _ (xs.length - (i + 1)) _ (by omega) ?_ ⟨i + 1, by omega, rfl, rfl⟩
         rw [ht]
         refine Wk_fr (by simp only [wkb, simprocAttr]) ?_
         exact ⟨by simp, by simp [names]⟩)
  · rw [List.take_of_length_le (by omega)]
    clear hlp hle
    repeat' (first
    | (with_reducible apply W_seq_k; intro nx hnx)
    | (with_reducible first | refine wr 234884973 ?_)
    | ((with_reducible first | (apply WL_op; intro nx hnx) | refine Ev_out ?_ | refine wc ?_ | (refine pf hnm fun nm hnm => ?_; try simp only [fmb] at hnm) | (refine pm hnm fun nm hnm => ?_; try simp only [fmb] at hnm)); try (simp (maxSteps := 2000000) (disch := omega) only [ev, ↓evp, PV.cells, PV.one, PV.mem?, Value.cells, simprocAttr, hnm, Tryd.tf0, Tryd.tf3, Tryd.tf4, Tryd.tf5, Tryd.tf9, Tryd.tf20, Tryd.tf27, Tryd.tf87, Tryd.call39]))
    | ((with_reducible first | apply W_block | apply W_scope | apply WL_nil | apply W_label | apply W_skip | apply W_exit | apply W_ret) <;> try simp only [kks, simprocAttr])
    | (with_reducible apply pg <;> (intro hc; (try simp only [hcb, simprocAttr, ne_eq, forall_const] at hc); first | (exfalso; omega) | exact absurd trivial hc | skip))
    | (with_reducible apply hnx; clear hnx nx)
    | (with_reducible refine And.intro (by omega) ?_)
    | (with_reducible refine And.intro ?_ ?_)
    | (clear hnx nx; with_reducible apply hnx; clear hnx nx)
    | (clear hnx nx; clear hnx nx; with_reducible apply hnx; clear hnx nx))
    all_goals first
      | (exfalso
         omega)
      | skip
    refine pcall_k (grow_c G (lenS xs) hb) ?_
    intro res Hout hR hnew
    have two : (res = pnil ∧ Hout = []) ∨ ∃ N0, res = .row N0 1 0 ∧ Hout = [(N0, ⟨5, true, 1, []⟩)] := by
      rcases hR with ⟨_, h1, h2⟩ | ⟨N0, h1, h2⟩
      · exact .inl ⟨h1, h2⟩
      · exact .inr ⟨N0, h1, h2⟩
    clear hR hnew
    rcases two with ⟨rfl, rfl⟩ | ⟨N0, rfl, rfl⟩
    · refine Ev_in ?_
      repeat' (first
    | (with_reducible apply W_seq_k; intro nx hnx)
    | (with_reducible first | refine wr 234884973 ?_)
    | ((with_reducible first | (apply WL_op; intro nx hnx) | refine Ev_out ?_ | refine wc ?_ | (refine pf hnm fun nm hnm => ?_; try simp only [fmb] at hnm) | (refine pm hnm fun nm hnm => ?_; try simp only [fmb] at hnm)); try (simp (maxSteps := 2000000) (disch := omega) only [ev, ↓evp, PV.cells, PV.one, PV.mem?, Value.cells, simprocAttr, hnm, Tryd.tf0, Tryd.tf3, Tryd.tf4, Tryd.tf5, Tryd.tf9, Tryd.tf20, Tryd.tf27, Tryd.tf87, Tryd.call39]))
    | ((with_reducible first | apply W_block | apply W_scope | apply WL_nil | apply W_label | apply W_skip | apply W_exit | apply W_ret) <;> try simp only [kks, simprocAttr])
    | (with_reducible apply pg <;> (intro hc; (try simp only [hcb, simprocAttr, ne_eq, forall_const] at hc); first | (exfalso; omega) | exact absurd trivial hc | skip))
    | (with_reducible apply hnx; clear hnx nx)
    | (with_reducible refine And.intro (by omega) ?_)
    | (with_reducible refine And.intro ?_ ?_)
    | (clear hnx nx; with_reducible apply hnx; clear hnx nx)
    | (clear hnx nx; clear hnx nx; with_reducible apply hnx; clear hnx nx))
      refine W_adopt_f 6 5 1 (by simp only [fr_getD_cons, Nat.reduceEqDiff, Nat.reduceLT, ↓reduceIte]) fun N0 hN0 => ?_
      refine W_loop_k (fun z τ => ∃ (i : Nat) (N : Int) (o : List UInt8), i ≤ xs.length ∧ z = xs.length - i ∧ o = (xs.take i).flatten ∧ τ = ⟨fr 36 [(25, .list 1 (xs.map pl)), (26, pint .i64 xs.length), (27, pint .i64 i), (6, .row N 1 o.length)], [(N, ⟨5, true, 1, o.map pbyte⟩)]⟩) xs.length
        ⟨fr 36 [(25, .list 1 (xs.map pl)), (26, pint .i64 xs.length), (27, pint .i64 (0 : Nat)), (6, .row N0 1 0)], [(N0, ⟨5, true, 1, []⟩)]⟩ (by
        refine Wk_fr (by simp only [wkb, simprocAttr]) ?_
        exact ⟨by simp, by simp [names]⟩) ⟨0, N0, [], by omega, by omega, by simp, rfl⟩ ?_
      rintro z τ ⟨k, N, o, hk, rfl, ho, rfl⟩ lp hlp
      have hol : o.length = lenS (xs.take k) := by rw [ho, lenS_flat]
      have hle := lenS_le xs (k + 1)
      by_cases hkk : k < xs.length
      · have ht := lenS_take xs k hkk
        have hf := flat_take xs k hkk
        repeat' (first
    | (with_reducible apply W_seq_k; intro nx hnx)
    | (with_reducible first | refine wr 234884973 ?_)
    | ((with_reducible first | (apply WL_op; intro nx hnx) | refine Ev_out ?_ | refine wc ?_ | (refine pf hnm fun nm hnm => ?_; try simp only [fmb] at hnm) | (refine pm hnm fun nm hnm => ?_; try simp only [fmb] at hnm)); try (simp (maxSteps := 2000000) (disch := omega) only [ev, ↓evp, PV.cells, PV.one, PV.mem?, Value.cells, simprocAttr, hnm, Tryd.tf0, Tryd.tf3, Tryd.tf4, Tryd.tf5, Tryd.tf9, Tryd.tf20, Tryd.tf27, Tryd.tf87, Tryd.call39, flat_pb]))
    | ((with_reducible first | apply W_block | apply W_scope | apply WL_nil | apply W_label | apply W_skip | apply W_exit | apply W_ret) <;> try simp only [kks, simprocAttr])
    | (with_reducible apply pg <;> (intro hc; (try simp only [hcb, simprocAttr, ne_eq, forall_const] at hc); first | (exfalso; omega) | exact absurd trivial hc | skip))
    | (with_reducible apply hnx; clear hnx nx)
    | (with_reducible refine And.intro (by omega) ?_)
    | (with_reducible refine And.intro ?_ ?_)
    | (clear hnx nx; with_reducible apply hnx; clear hnx nx)
    | (clear hnx nx; clear hnx nx; with_reducible apply hnx; clear hnx nx))
        all_goals first
          | (exfalso
             omega)
          | (refine hlp _ (xs.length - (k + 1)) _ (by omega) ?_ ⟨k + 1, nm, o ++ xs[k], by omega, rfl, by rw [hf, ho], rfl⟩
             rw [List.length_append, List.map_append]
             refine Wk_fr (by simp only [wkb, simprocAttr]) ?_
             exact ⟨by simp, by simp [names]⟩)
      · have hox : o = xs.flatten := by rw [ho, List.take_of_length_le (by omega)]
        rw [← hox] at hfin
        repeat' (first
    | (with_reducible apply W_seq_k; intro nx hnx)
    | (with_reducible first | refine wr 234884973 ?_)
    | ((with_reducible first | (apply WL_op; intro nx hnx) | refine Ev_out ?_ | refine wc ?_ | (refine pf hnm fun nm hnm => ?_; try simp only [fmb] at hnm) | (refine pm hnm fun nm hnm => ?_; try simp only [fmb] at hnm)); try (simp (maxSteps := 2000000) (disch := omega) only [ev, ↓evp, PV.cells, PV.one, PV.mem?, Value.cells, simprocAttr, hnm, Tryd.tf0, Tryd.tf3, Tryd.tf4, Tryd.tf5, Tryd.tf9, Tryd.tf20, Tryd.tf27, Tryd.tf87, Tryd.call39]))
    | ((with_reducible first | apply W_block | apply W_scope | apply WL_nil | apply W_label | apply W_skip | apply W_exit | apply W_ret) <;> try simp only [kks, simprocAttr])
    | (with_reducible apply pg <;> (intro hc; (try simp only [hcb, simprocAttr, ne_eq, forall_const] at hc); first | (exfalso; omega) | exact absurd trivial hc | skip))
    | (with_reducible apply hnx; clear hnx nx)
    | (with_reducible refine And.intro (by omega) ?_)
    | (with_reducible refine And.intro ?_ ?_)
    | (clear hnx nx; with_reducible apply hnx; clear hnx nx)
    | (clear hnx nx; clear hnx nx; with_reducible apply hnx; clear hnx nx))
        all_goals first
          | (exfalso
             omega)
          | (refine hfin _ _ (Fin_ret1 rfl (Sub_refl (by simp [names])) ?_); simp only [cob, simprocAttr]
             exact .inr ⟨N, rfl, rfl⟩)
    · refine Ev_in ?_
      repeat' (first
    | (with_reducible apply W_seq_k; intro nx hnx)
    | (with_reducible first | refine wr 234884973 ?_)
    | ((with_reducible first | (apply WL_op; intro nx hnx) | refine Ev_out ?_ | refine wc ?_ | (refine pf hnm fun nm hnm => ?_; try simp only [fmb] at hnm) | (refine pm hnm fun nm hnm => ?_; try simp only [fmb] at hnm)); try (simp (maxSteps := 2000000) (disch := omega) only [ev, ↓evp, PV.cells, PV.one, PV.mem?, Value.cells, simprocAttr, hnm, Tryd.tf0, Tryd.tf3, Tryd.tf4, Tryd.tf5, Tryd.tf9, Tryd.tf20, Tryd.tf27, Tryd.tf87, Tryd.call39]))
    | ((with_reducible first | apply W_block | apply W_scope | apply WL_nil | apply W_label | apply W_skip | apply W_exit | apply W_ret) <;> try simp only [kks, simprocAttr])
    | (with_reducible apply pg <;> (intro hc; (try simp only [hcb, simprocAttr, ne_eq, forall_const] at hc); first | (exfalso; omega) | exact absurd trivial hc | skip))
    | (with_reducible apply hnx; clear hnx nx)
    | (with_reducible refine And.intro (by omega) ?_)
    | (with_reducible refine And.intro ?_ ?_)
    | (clear hnx nx; with_reducible apply hnx; clear hnx nx)
    | (clear hnx nx; clear hnx nx; with_reducible apply hnx; clear hnx nx))
      refine W_loop_k (fun z τ => ∃ (i : Nat) (N : Int) (o : List UInt8), i ≤ xs.length ∧ z = xs.length - i ∧ o = (xs.take i).flatten ∧ τ = ⟨fr 36 [(25, .list 1 (xs.map pl)), (26, pint .i64 xs.length), (27, pint .i64 i), (6, .row N 1 o.length)], [(N, ⟨5, true, 1, o.map pbyte⟩)]⟩) xs.length
        ⟨fr 36 [(25, .list 1 (xs.map pl)), (26, pint .i64 xs.length), (27, pint .i64 (0 : Nat)), (6, .row N0 1 0)], [(N0, ⟨5, true, 1, []⟩)]⟩ (by
        refine Wk_fr (by simp only [wkb, simprocAttr]) ?_
        exact ⟨by simp, by simp [names]⟩) ⟨0, N0, [], by omega, by omega, by simp, rfl⟩ ?_
      rintro z τ ⟨k, N, o, hk, rfl, ho, rfl⟩ lp hlp
      have hol : o.length = lenS (xs.take k) := by rw [ho, lenS_flat]
      have hle := lenS_le xs (k + 1)
      by_cases hkk : k < xs.length
      · have ht := lenS_take xs k hkk
        have hf := flat_take xs k hkk
        repeat' (first
    | (with_reducible apply W_seq_k; intro nx hnx)
    | (with_reducible first | refine wr 234884973 ?_)
    | ((with_reducible first | (apply WL_op; intro nx hnx) | refine Ev_out ?_ | refine wc ?_ | (refine pf hnm fun nm hnm => ?_; try simp only [fmb] at hnm) | (refine pm hnm fun nm hnm => ?_; try simp only [fmb] at hnm)); try (simp (maxSteps := 2000000) (disch := omega) only [ev, ↓evp, PV.cells, PV.one, PV.mem?, Value.cells, simprocAttr, hnm, Tryd.tf0, Tryd.tf3, Tryd.tf4, Tryd.tf5, Tryd.tf9, Tryd.tf20, Tryd.tf27, Tryd.tf87, Tryd.call39, flat_pb]))
    | ((with_reducible first | apply W_block | apply W_scope | apply WL_nil | apply W_label | apply W_skip | apply W_exit | apply W_ret) <;> try simp only [kks, simprocAttr])
    | (with_reducible apply pg <;> (intro hc; (try simp only [hcb, simprocAttr, ne_eq, forall_const] at hc); first | (exfalso; omega) | exact absurd trivial hc | skip))
    | (with_reducible apply hnx; clear hnx nx)
    | (with_reducible refine And.intro (by omega) ?_)
    | (with_reducible refine And.intro ?_ ?_)
    | (clear hnx nx; with_reducible apply hnx; clear hnx nx)
    | (clear hnx nx; clear hnx nx; with_reducible apply hnx; clear hnx nx))
        all_goals first
          | (exfalso
             omega)
          | (refine hlp _ (xs.length - (k + 1)) _ (by omega) ?_ ⟨k + 1, nm, o ++ xs[k], by omega, rfl, by rw [hf, ho], rfl⟩
             rw [List.length_append, List.map_append]
             refine Wk_fr (by simp only [wkb, simprocAttr]) ?_
             exact ⟨by simp, by simp [names]⟩)
      · have hox : o = xs.flatten := by rw [ho, List.take_of_length_le (by omega)]
        rw [← hox] at hfin
        repeat' (first
    | (with_reducible apply W_seq_k; intro nx hnx)
    | (with_reducible first | refine wr 234884973 ?_)
    | ((with_reducible first | (apply WL_op; intro nx hnx) | refine Ev_out ?_ | refine wc ?_ | (refine pf hnm fun nm hnm => ?_; try simp only [fmb] at hnm) | (refine pm hnm fun nm hnm => ?_; try simp only [fmb] at hnm)); try (simp (maxSteps := 2000000) (disch := omega) only [ev, ↓evp, PV.cells, PV.one, PV.mem?, Value.cells, simprocAttr, hnm, Tryd.tf0, Tryd.tf3, Tryd.tf4, Tryd.tf5, Tryd.tf9, Tryd.tf20, Tryd.tf27, Tryd.tf87, Tryd.call39]))
    | ((with_reducible first | apply W_block | apply W_scope | apply WL_nil | apply W_label | apply W_skip | apply W_exit | apply W_ret) <;> try simp only [kks, simprocAttr])
    | (with_reducible apply pg <;> (intro hc; (try simp only [hcb, simprocAttr, ne_eq, forall_const] at hc); first | (exfalso; omega) | exact absurd trivial hc | skip))
    | (with_reducible apply hnx; clear hnx nx)
    | (with_reducible refine And.intro (by omega) ?_)
    | (with_reducible refine And.intro ?_ ?_)
    | (clear hnx nx; with_reducible apply hnx; clear hnx nx)
    | (clear hnx nx; clear hnx nx; with_reducible apply hnx; clear hnx nx))
        all_goals first
          | (exfalso
             omega)
          | (refine hfin _ _ (Fin_ret1 rfl (Sub_refl (by simp [names])) ?_); simp only [cob, simprocAttr]
             exact .inr ⟨N, rfl, rfl⟩)
theorem concat_c (G : Globs) (xs : List (List UInt8)) (hx : xs.length ≤ 1000) (hb : lenS xs ≤ 4294967296) : PCalls Tryd.prog G 24 [.list 1 (xs.map pl)] [] (fun res H => res = pl xs.flatten ∧ H = []) := CR.frz (concat_r G xs hx hb)
end Go.PM

namespace Go.PM
open Go.Proofs
attribute [local irreducible] W PCalls pcall pcallI WL
set_option maxRecDepth 100000 in
set_option maxHeartbeats 8000000 in
theorem valid_c (G : Globs) (n : Int) : PCalls Tryd.prog G 40 [pint .i64 n] [] (fun res H => res = pbool (decide (0 ≤ n ∧ n ≤ 6)) ∧ H = []) := by
  (refine PCalls_f Tryd.func40 rfl Tryd.ntmps40 Tryd.results40 (by simp) fun fin hfin => ?_; have hnm : True := trivial; simp only [ev, simprocAttr])
  by_cases h1 : 0 ≤ n <;> by_cases h2 : n ≤ 6
  all_goals
    repeat' (first
    | (with_reducible apply W_seq_k; intro nx hnx)
    | (with_reducible first | refine wr 5 ?_)
    | ((with_reducible first | (apply WL_op; intro nx hnx) | refine Ev_out ?_ | refine wc ?_); try (simp (maxSteps := 2000000) (disch := omega) only [ev, ↓evp, PV.cells, PV.one, PV.mem?, Value.cells, simprocAttr, hnm, Tryd.tf3, Tryd.tf4, h1, h2]))
    | ((with_reducible first | apply W_block | apply W_scope | apply WL_nil | apply W_label | apply W_skip | apply W_exit | apply W_ret) <;> try simp only [kks, simprocAttr])
    | (with_reducible apply pg <;> (intro hc; (try simp only [hcb, simprocAttr, ne_eq, forall_const] at hc); first | (exfalso; omega) | exact absurd trivial hc | skip))
    | (with_reducible apply hnx; clear hnx nx)
    | (with_reducible refine And.intro (by omega) ?_)
    | (with_reducible refine And.intro ?_ ?_)
    | (clear hnx nx; with_reducible apply hnx; clear hnx nx)
    | (clear hnx nx; clear hnx nx; with_reducible apply hnx; clear hnx nx))
    (refine hfin _ _ (Fin_ret1 rfl (Sub_nil _) ?_); simp only [cob, simprocAttr]; first | trivial | exact ⟨rfl, by trivial⟩ | (simp; done) | (simp; omega))
/-- The encoding of numbers. -/
def encI (l : List Int) : List UInt8 := encL intB l
theorem encI_len {l : List Int} (hv : ∀ n ∈ l, inR n) (h : l.length ≤ 4) : (encI l).length ≤ 45 := by
  have h0 := intB_len9 (n := l.length) ⟨by omega, by omega⟩
  have h1 : (l.flatMap intB).length ≤ l.length * 9 := by
    clear h h0
    induction l with
    | nil => simp
    | cons x l ih =>
      have := intB_len9 (hv x (by simp))
      have := ih fun n hn => hv n (by simp [hn])
      simp only [List.flatMap_cons, List.length_append, List.length_cons]
      omega
  simp only [encI, encL, List.length_append]
  omega
set_option maxRecDepth 100000 in
set_option maxHeartbeats 8000000 in
theorem ints_c (G : Globs) (l : List Int) (hv : ∀ n ∈ l, inR n) (h : l.length ≤ 4) : PCalls Tryd.prog G 68 [.list 1 (l.map (pint .i64))] [] (fun res H => res = pstr (encI l) ∧ H = []) := by
  have he := encI_len hv h
  have c := wints_c G l hv (by rw [← encI]; omega) (by omega)
  rw [← encI] at c
  have b1 := isByte_pb (encI l)
  have b2 := unb_pb (encI l)
  generalize encI l = e at *
  (refine PCalls_f Tryd.func68 rfl Tryd.ntmps68 Tryd.results68 (by simp) fun fin hfin => ?_; have hnm : True := trivial; simp only [ev, simprocAttr])
  repeat' (first
    | (with_reducible apply W_seq_k; intro nx hnx)
    | (with_reducible first | refine wr 5 ?_)
    | ((with_reducible first | (apply WL_op; intro nx hnx) | refine Ev_out ?_ | refine wc ?_ | (refine pf hnm fun nm hnm => ?_; try simp only [fmb] at hnm) | (refine pm hnm fun nm hnm => ?_; try simp only [fmb] at hnm)); try (simp (maxSteps := 2000000) (disch := omega) only [ev, ↓evp, PV.cells, PV.one, PV.mem?, Value.cells, simprocAttr, hnm, Tryd.tf3, Tryd.tf5, Tryd.tf9, Tryd.tf22, Tryd.tf27, Tryd.call82, b1, b2]))
    | ((with_reducible first | apply W_block | apply W_scope | apply WL_nil | apply W_label | apply W_skip | apply W_exit | apply W_ret) <;> try simp only [kks, simprocAttr])
    | (with_reducible apply hnx; clear hnx nx)
    | (with_reducible refine And.intro (by omega) ?_)
    | (with_reducible refine And.intro ?_ ?_)
    | (with_reducible refine pe (c) ?_)
    | (clear hnx nx; with_reducible apply hnx; clear hnx nx)
    | (clear hnx nx; clear hnx nx; with_reducible apply hnx; clear hnx nx))
  all_goals first
    | exact rfl
    | (refine hfin _ _ (Fin_ret1 rfl (Sub_nil _) ?_); simp only [cob, simprocAttr]; first | trivial | exact ⟨rfl, by trivial⟩ | (simp; done) | (simp; omega))
end Go.PM

namespace Go.PM
open Go.Proofs
attribute [local irreducible] W PCalls pcall pcallI WL
theorem all_lt2 {p : List UInt8 → Prop} {a b : List UInt8} (h1 : p a) (h2 : p b) : ∀ x ∈ [a, b], p x := by
  intro x hx
  rcases List.mem_cons.1 hx with rfl | hx
  · exact h1
  · rcases List.mem_cons.1 hx with rfl | hx
    · exact h2
    · cases hx
/-- The end of a function whose result is a digest that lies in a cell. -/
theorem Fin_dig {x : Tmp} {n : Int} {f : List UInt8} {R : PV → Heap → Prop} {σ : PState} (hx : σ.frame.getD x .junk = .ptr n 0) (hl : look σ.heap n = some ⟨37, false, 0, f.map pbyte⟩) (hf : f.length = 16)
    (h3 : R (.agg (f.map pbyte)) []) : Fin Tryd.prog [.cell x 37] R .ret σ := by
  have hone := all_one_byte f
  have htk : List.take 16 (f.map pbyte) = f.map pbyte := List.take_of_length_le (by rw [List.length_map]; omega)
  refine Fin_cell (res := .agg (f.map pbyte)) Tryd.tf37 (n := n) (off := 0) (o := ⟨37, false, 0, f.map pbyte⟩) hx hl ?_ (Sub_nil _) h3
  simp [pload, hf, htk, hone]
/-- The parent of two nodes. -/
def nodeF (a b : List UInt8) : List UInt8 := ofH 2 [a, b]
set_option maxRecDepth 100000 in
set_option maxHeartbeats 8000000 in
theorem node_c (G : Globs) (hG : G 0 = .iptr (KS.map pw) 0) (a b : List UInt8) (ha : a.length = 16) (hb : b.length = 16) : PCalls Tryd.prog G 60 [.agg (a.map pbyte), .agg (b.map pbyte)] [] (fun res H => res = .agg ((nodeF a b).map pbyte) ∧ H = []) := by
  have hl1 : (a.map pbyte).length = 16 := by rw [List.length_map, ha]
  have hl2 : (b.map pbyte).length = 16 := by rw [List.length_map, hb]
  have o1 := all_one_byte a
  have o2 := all_one_byte b
  have a1 := isByte_pb a
  have a2 := unb_pb a
  have b1 := isByte_pb b
  have b2 := unb_pb b
  have c := hof_c G hG 2 [a, b] (all_lt2 (by omega) (by omega)) (by simp)
  simp only [List.map_cons, List.map_nil] at c
  have hn : ofH 2 [a, b] = nodeF a b := rfl
  have hol := ofH_len 2 [a, b]
  rw [hn] at c hol
  have hone := all_one_byte (nodeF a b)
  have t1 : List.take 16 (a.map pbyte) = a.map pbyte := List.take_of_length_le (by omega)
  have t2 : List.take 16 (b.map pbyte) = b.map pbyte := List.take_of_length_le (by omega)
  have hol2 : ((nodeF a b).map pbyte).length = 16 := by rw [List.length_map, hol]
  have t3 : List.take 16 ((nodeF a b).map pbyte) = (nodeF a b).map pbyte := List.take_of_length_le (by omega)
  generalize nodeF a b = f at *
  (refine PCalls_f Tryd.func60 rfl Tryd.ntmps60 Tryd.results60 (by simp) fun fin hfin => ?_; have hnm : True := trivial; simp only [ev, simprocAttr])
  repeat' (first
    | (with_reducible apply W_seq_k; intro nx hnx)
    | (with_reducible first | refine wr 31 ?_ | refine wd (id := 1) 31 3 (.op 0 true (.op 1 true (.op 2 true (.op 3 true (.op 4 false (.op 5 false (.op 6 false (.done)))))))) (by kernel_rfl) ?_)
    | (with_reducible refine WL_born (by simp) rfl (by simp) ?_; simp only [elemsOf, nl, bir, simprocAttr])
    | (with_reducible refine WL_bornH (by simp) (by simp) ?_ ?_ ?_; (· simp [frz, frz1, hnm]); (· simp [frz1, hnm, PV.one, Value.oneCell']); simp only [elemsOf, nl, bir, simprocAttr])
    | ((with_reducible first | (apply WL_op; intro nx hnx) | refine Ev_out ?_ | refine wc ?_ | (apply popsD_op; intro nx hnx) | (refine popsD_alt ?_ ?_; intro nx hnx) | (refine pf hnm fun nm hnm => ?_; try simp only [fmb] at hnm) | (refine pborn_im ?_; simp only [elemsOf, nl, bir, simprocAttr])); try (simp (maxSteps := 2000000) (disch := omega) only [ev, ↓evp, PV.cells, PV.one, PV.mem?, Value.cells, simprocAttr, hnm, Tryd.tf0, Tryd.tf2, Tryd.tf3, Tryd.tf5, Tryd.tf9, Tryd.tf24, Tryd.tf27, Tryd.tf37, Tryd.call14, hl1, hl2, o1, o2, a1, a2, b1, b2, t1, t2, t3, hol2, hone]))
    | ((with_reducible first | apply W_block | apply W_scope | apply WL_nil | apply W_label | apply W_skip | apply W_exit | apply W_ret | apply popsD_done | exact popsD_stop) <;> try simp only [kks, simprocAttr])
    | (with_reducible apply hnx; clear hnx nx)
    | (with_reducible refine And.intro (by omega) ?_)
    | (with_reducible refine And.intro ?_ ?_)
    | (with_reducible refine pe (c) ?_)
    | (clear hnx nx; with_reducible apply hnx; clear hnx nx)
    | (clear hnx nx; clear hnx nx; with_reducible apply hnx; clear hnx nx))
  all_goals first
    | exact rfl
    | (refine hfin _ _ ?_
       exact Fin_dig (n := nm) (by simp only [fr_getD_cons, Nat.reduceEqDiff, Nat.reduceLT, ↓reduceIte]) (by simp [look, hnm]) hol ⟨rfl, rfl⟩)
/-- The value of a chain at height 0. -/
def startF (seed : List UInt8) (i c : Int) : List UInt8 := (mac seed (99 :: 104 :: 97 :: 105 :: 110 :: encI [i, c])).take 16
theorem mac_len (k t : List UInt8) : (mac k t).length = 32 := sha_len _
theorem startF_len (seed : List UInt8) (i c : Int) : (startF seed i c).length = 16 := by
  rw [startF, List.length_take, mac_len]
  rfl
set_option maxRecDepth 100000 in
set_option maxHeartbeats 8000000 in
theorem start_c (G : Globs) (hG : G 0 = .iptr (KS.map pw) 0) (seed : List UInt8) (hs : seed.length ≤ 4000) (i c : Int) (hi : inR i) (hc : inR c) : PCalls Tryd.prog G 46 [pstr seed, pint .i64 i, pint .i64 c] [] (fun res H => res = .agg ((startF seed i c).map pbyte) ∧ H = []) := by
  have hv : ∀ n ∈ [i, c], inR n := by
    intro n hn
    rcases List.mem_cons.1 hn with rfl | hn
    · exact hi
    · rw [List.mem_singleton.1 hn]
      exact hc
  have c1 := ints_c G [i, c] hv (by simp)
  simp only [List.map_cons, List.map_nil] at c1
  have hel := encI_len hv (by simp)
  have hm := mac_len seed (99 :: 104 :: 97 :: 105 :: 110 :: encI [i, c])
  have c2 := mac_c G hG seed (99 :: 104 :: 97 :: 105 :: 110 :: encI [i, c]) (by omega) (by simp; omega)
  have hsl := startF_len seed i c
  have hst : (mac seed (99 :: 104 :: 97 :: 105 :: 110 :: encI [i, c])).take 16 = startF seed i c := rfl
  generalize startF seed i c = f at *
  generalize encI [i, c] = e at *
  generalize mac seed (99 :: 104 :: 97 :: 105 :: 110 :: e) = m at *
  have hone := all_one_byte f
  have hl : (f.map pbyte).length = 16 := by rw [List.length_map, hsl]
  have t3 : List.take 16 (f.map pbyte) = f.map pbyte := List.take_of_length_le (by omega)
  (refine PCalls_f Tryd.func46 rfl Tryd.ntmps46 Tryd.results46 (by simp) fun fin hfin => ?_; have hnm : True := trivial; simp only [ev, simprocAttr])
  have hbf : bytes f = f.map pbyte := rfl
  have hff := flat_pb f
  repeat' (first
    | (with_reducible apply W_seq_k; intro nx hnx)
    | (with_reducible first | refine wr 71 ?_)
    | (with_reducible refine WL_born (by simp) rfl (by simp) ?_; simp only [elemsOf, nl, bir, simprocAttr])
    | (with_reducible refine WL_bornH (by simp) (by simp) ?_ ?_ ?_; (· simp [frz, frz1, hnm]); (· simp [frz1, hnm, PV.one, Value.oneCell']); simp only [elemsOf, nl, bir, simprocAttr])
    | ((with_reducible first | (apply WL_op; intro nx hnx) | refine Ev_out ?_ | refine wc ?_ | (refine pf hnm fun nm hnm => ?_; try simp only [fmb] at hnm) | (refine pborn_im ?_; simp only [elemsOf, nl, bir, simprocAttr])); try (simp (maxSteps := 2000000) (disch := omega) only [ev, ↓evp, PV.cells, PV.one, PV.mem?, Value.cells, simprocAttr, hnm, Tryd.tf0, Tryd.tf2, Tryd.tf3, Tryd.tf5, Tryd.tf9, Tryd.tf22, Tryd.tf27, Tryd.tf37, Tryd.call68, Tryd.call69, hone, hl, t3, hst, hm, hbf, hff]))
    | ((with_reducible first | apply W_block | apply W_scope | apply WL_nil | apply W_label | apply W_skip | apply W_exit | apply W_ret) <;> try simp only [kks, simprocAttr])
    | (with_reducible apply hnx; clear hnx nx)
    | (with_reducible refine And.intro (by omega) ?_)
    | (with_reducible refine And.intro ?_ ?_)
    | (with_reducible refine pe (c1) ?_)
    | (with_reducible refine pe (c2) ?_)
    | (clear hnx nx; with_reducible apply hnx; clear hnx nx)
    | (clear hnx nx; clear hnx nx; with_reducible apply hnx; clear hnx nx))
  all_goals first
    | exact rfl
    | (refine hfin _ _ ?_
       exact Fin_dig (n := nm) (by simp only [fr_getD_cons, Nat.reduceEqDiff, Nat.reduceLT, ↓reduceIte]) (by simp [look, hnm]) hsl ⟨rfl, rfl⟩)
end Go.PM

namespace Go.PM
open Go.Proofs
attribute [local irreducible] W PCalls pcall pcallI WL
/-- One step of a chain. -/
def stepC (i c t : Int) (v : List UInt8) : List UInt8 := ofH 8 [encI [i, c, t], v]
/-- Some steps of a chain. -/
def advF (i c : Int) : Int → Nat → List UInt8 → List UInt8
  | _, 0, v => v
  | t, n + 1, v => advF i c (t + 1) n (stepC i c t v)
theorem stepC_len (i c t : Int) (v : List UInt8) : (stepC i c t v).length = 16 := ofH_len _ _
theorem advF_len (i c : Int) : ∀ (n : Nat) (t : Int) (v : List UInt8), v.length = 16 → (advF i c t n v).length = 16
  | 0, _, _, h => h
  | n + 1, t, v, _ => advF_len i c n (t + 1) _ (stepC_len i c t v)
theorem advF_lt (i c : Int) {t to : Int} (v : List UInt8) (h : t < to) : advF i c t (to - t).toNat v = advF i c (t + 1) (to - (t + 1)).toNat (stepC i c t v) := by
  obtain ⟨n, hn⟩ : ∃ n, (to - t).toNat = n + 1 := ⟨(to - t).toNat - 1, by omega⟩
  rw [hn, advF, show (to - (t + 1)).toNat = n by omega]
theorem advF_ge (i c : Int) {t to : Int} (v : List UInt8) (h : ¬ t < to) : advF i c t (to - t).toNat v = v := by
  rw [show (to - t).toNat = 0 by omega, advF]
theorem inR3 {a b c : Int} (h1 : inR a) (h2 : inR b) (h3 : inR c) : ∀ n ∈ [a, b, c], inR n := by
  intro n hn
  rcases List.mem_cons.1 hn with rfl | hn
  · exact h1
  · rcases List.mem_cons.1 hn with rfl | hn
    · exact h2
    · rw [List.mem_singleton.1 hn]
      exact h3
set_option maxRecDepth 100000 in
set_option maxHeartbeats 8000000 in
theorem adv_c (G : Globs) (hG : G 0 = .iptr (KS.map pw) 0) (i c t0 to : Int) (v0 : List UInt8) (hi : inR i) (hc : inR c) (h1 : 0 ≤ t0) (h2 : t0 ≤ 100) (h3 : 0 ≤ to) (h4 : to ≤ 100) (hv0 : v0.length = 16) :
    PCalls Tryd.prog G 45 [pint .i64 i, pint .i64 c, pint .i64 t0, pint .i64 to, .agg (v0.map pbyte)] [] (fun res H => res = .agg ((advF i c t0 (to - t0).toNat v0).map pbyte) ∧ H = []) := by
  have hFl := advF_len i c (to - t0).toNat t0 v0 hv0
  generalize hF : advF i c t0 (to - t0).toNat v0 = F at *
  have hl0 : (v0.map pbyte).length = 16 := by rw [List.length_map, hv0]
  have ho0 := all_one_byte v0
  obtain ⟨Z, hZ⟩ : ∃ Z, Z = List.replicate 16 (pint .u8 0) := ⟨_, rfl⟩
  have hZ2 : [pint .u8 0, pint .u8 0, pint .u8 0, pint .u8 0, pint .u8 0, pint .u8 0, pint .u8 0, pint .u8 0, pint .u8 0, pint .u8 0, pint .u8 0, pint .u8 0, pint .u8 0, pint .u8 0, pint .u8 0, pint .u8 0] = Z := by rw [hZ]; rfl
  have hZl : Z.length = 16 := by rw [hZ]; rfl
  have hZd : List.drop 16 Z = [] := List.drop_of_length_le (by omega)
  (refine PCalls_f Tryd.func45 rfl Tryd.ntmps45 Tryd.results45 (by simp) fun fin hfin => ?_; have hnm : True := trivial; simp only [ev, simprocAttr])
  repeat' (first
    | (with_reducible apply W_seq_k; intro nx hnx)
    | (with_reducible first | refine wr 3615 ?_ | refine wd (id := 4) 3615 3 (.op 0 true (.op 1 true (.op 2 true (.op 5 true (.op 6 true (.op 3 true (.op 4 true (.op 7 false (.op 8 false (.op 9 false (.done))))))))))) (by kernel_rfl) ?_)
    | ((with_reducible first | (apply WL_op; intro nx hnx) | refine Ev_out ?_ | refine wc ?_ | (apply popsD_op; intro nx hnx) | (refine popsD_alt ?_ ?_; intro nx hnx) | (refine pf hnm fun nm hnm => ?_; try simp only [fmb] at hnm) | (refine pm hnm fun nm hnm => ?_; try simp only [fmb] at hnm)); try (simp (maxSteps := 2000000) (disch := omega) only [ev, ↓evp, PV.cells, PV.one, PV.mem?, Value.cells, simprocAttr, hnm, Tryd.tf0, Tryd.tf2, Tryd.tf3, Tryd.tf4, Tryd.tf5, Tryd.tf9, Tryd.tf22, Tryd.tf24, Tryd.tf27, Tryd.tf37, Tryd.call14, Tryd.call68, hl0, ho0]))
    | ((with_reducible first | apply W_block | apply W_scope | apply WL_nil | apply W_label | apply W_skip | apply W_exit | apply W_ret | apply popsD_done | exact popsD_stop) <;> try simp only [kks, simprocAttr])
    | (with_reducible apply pg <;> (intro hc; (try simp only [hcb, simprocAttr, ne_eq, forall_const] at hc); first | (exfalso; omega) | exact absurd trivial hc | skip))
    | (with_reducible apply hnx; clear hnx nx)
    | (with_reducible refine And.intro (by omega) ?_)
    | (with_reducible refine And.intro ?_ ?_)
    | (clear hnx nx; with_reducible apply hnx; clear hnx nx)
    | (clear hnx nx; clear hnx nx; with_reducible apply hnx; clear hnx nx))
  obtain ⟨NB, hNB⟩ : ∃ N, N = nm := ⟨_, rfl⟩
  subst hNB
  obtain ⟨NA, hNA⟩ : ∃ N, N = nm := ⟨_, rfl⟩
  subst hNA
  refine W_loop_k (fun z τ => ∃ (t : Int) (v : List UInt8), 0 ≤ t ∧ t ≤ 100 ∧ z = (to - t).toNat ∧ v.length = 16 ∧ advF i c t (to - t).toNat v = F ∧
      τ = ⟨fr 28 [(11, pint .i64 t), (0, pint .i64 i), (1, pint .i64 c), (3, pint .i64 to), (9, .ptr NA 0), (10, .ptr NB 0)], [(NB, ⟨37, false, 0, Z⟩), (NA, ⟨37, false, 0, v.map pbyte⟩)]⟩) (to - t0).toNat
    ⟨fr 28 [(11, pint .i64 t0), (0, pint .i64 i), (1, pint .i64 c), (3, pint .i64 to), (9, .ptr NA 0), (10, .ptr NB 0)], [(NB, ⟨37, false, 0, Z⟩), (NA, ⟨37, false, 0, v0.map pbyte⟩)]⟩ (by
    rw [← hZ2]
    refine Wk_fr (by simp only [wkb, simprocAttr]) ?_
    exact Sub_refl (by simp [names, hnm])) ⟨t0, v0, h1, h2, rfl, hv0, hF, rfl⟩ ?_
  clear hF hl0 ho0 hv0
  rintro z τ ⟨t, v, t1, t2, rfl, hv, hF, rfl⟩ lp hlp
  have hl := hv
  rw [← List.length_map (f := pbyte)] at hl
  have ho := all_one_byte v
  have htk : List.take 16 (v.map pbyte) = v.map pbyte := List.take_of_length_le (by omega)
  have hdr : List.drop 16 (v.map pbyte) = [] := List.drop_of_length_le (by omega)
  by_cases hlt : t < to
  · rw [advF_lt i c v hlt] at hF
    have c1 := ints_c G [i, c, t] (inR3 hi hc ⟨by omega, by omega⟩) (by simp)
    have hel := encI_len (inR3 hi hc (show inR t from ⟨by omega, by omega⟩)) (by simp)
    have c2 := hof_c G hG 8 [encI [i, c, t], v] (all_lt2 (by omega) (by omega)) (by simp)
    have hsl := stepC_len i c t v
    rw [show ofH 8 [encI [i, c, t], v] = stepC i c t v from rfl] at c2
    simp only [List.map_cons, List.map_nil] at c1 c2
    generalize stepC i c t v = s at *
    generalize encI [i, c, t] = e at *
    have b1 := isByte_pb v
    have b2 := unb_pb v
    have hsl2 : (s.map pbyte).length = 16 := by rw [List.length_map, hsl]
    have hso := all_one_byte s
    have hst : List.take 16 (s.map pbyte) = s.map pbyte := List.take_of_length_le (by omega)
    repeat' (first
    | (with_reducible apply W_seq_k; intro nx hnx)
    | (with_reducible first | refine wr 3615 ?_ | refine wd (id := 4) 3615 3 (.op 0 true (.op 1 true (.op 2 true (.op 5 true (.op 6 true (.op 3 true (.op 4 true (.op 7 false (.op 8 false (.op 9 false (.done))))))))))) (by kernel_rfl) ?_)
    | (with_reducible refine WL_born (by simp) rfl (by simp) ?_; simp only [elemsOf, nl, bir, simprocAttr])
    | (with_reducible refine WL_bornH (by simp) (by simp) ?_ ?_ ?_; (· simp [frz, frz1, hnm]); (· simp [frz1, hnm, PV.one, Value.oneCell']); simp only [elemsOf, nl, bir, simprocAttr])
    | ((with_reducible first | (apply WL_op; intro nx hnx) | refine Ev_out ?_ | refine wc ?_ | (apply popsD_op; intro nx hnx) | (refine popsD_alt ?_ ?_; intro nx hnx) | (refine pf hnm fun nm hnm => ?_; try simp only [fmb] at hnm) | (refine pborn_im ?_; simp only [elemsOf, nl, bir, simprocAttr])); try (simp (maxSteps := 2000000) (disch := omega) only [ev, ↓evp, PV.cells, PV.one, PV.mem?, Value.cells, simprocAttr, hnm, Tryd.tf0, Tryd.tf2, Tryd.tf3, Tryd.tf4, Tryd.tf5, Tryd.tf9, Tryd.tf22, Tryd.tf24, Tryd.tf27, Tryd.tf37, Tryd.call14, Tryd.call68, hlt, hl, ho, htk, hdr, b1, b2, hsl2, hso, hst]))
    | ((with_reducible first | apply W_block | apply W_scope | apply WL_nil | apply W_label | apply W_skip | apply W_exit | apply W_ret | apply popsD_done | exact popsD_stop) <;> try simp only [kks, simprocAttr])
    | (with_reducible apply pg <;> (intro hc; (try simp only [hcb, simprocAttr, ne_eq, forall_const] at hc); first | (exfalso; omega) | exact absurd trivial hc | skip))
    | (with_reducible apply hnx; clear hnx nx)
    | (with_reducible refine And.intro (by omega) ?_)
    | (with_reducible refine And.intro ?_ ?_)
    | (with_reducible refine pe (c1) ?_)
    | (with_reducible refine pe (c2) ?_)
    | (clear hnx nx; with_reducible apply hnx; clear hnx nx)
    | (clear hnx nx; clear hnx nx; with_reducible apply hnx; clear hnx nx))
    all_goals first
      | exact rfl
      | (exfalso
         omega)
      | (refine hlp _ (to - (t + 1)).toNat _ (by omega) ?_ ⟨t + 1, s, by omega, by omega, rfl, hsl, hF, rfl⟩
         refine Wk_fr (by simp only [wkb, simprocAttr]) ?_
         exact Sub_refl (by simp [names, hnm]))
  · rw [advF_ge i c v hlt] at hF
    subst hF
    repeat' (first
    | (with_reducible apply W_seq_k; intro nx hnx)
    | (with_reducible first | refine wr 3615 ?_ | refine wd (id := 4) 3615 3 (.op 0 true (.op 1 true (.op 2 true (.op 5 true (.op 6 true (.op 3 true (.op 4 true (.op 7 false (.op 8 false (.op 9 false (.done))))))))))) (by kernel_rfl) ?_)
    | ((with_reducible first | (apply WL_op; intro nx hnx) | refine Ev_out ?_ | refine wc ?_ | (apply popsD_op; intro nx hnx) | (refine popsD_alt ?_ ?_; intro nx hnx) | (refine pf hnm fun nm hnm => ?_; try simp only [fmb] at hnm) | (refine pm hnm fun nm hnm => ?_; try simp only [fmb] at hnm)); try (simp (maxSteps := 2000000) (disch := omega) only [ev, ↓evp, PV.cells, PV.one, PV.mem?, Value.cells, simprocAttr, hnm, Tryd.tf0, Tryd.tf2, Tryd.tf3, Tryd.tf4, Tryd.tf5, Tryd.tf9, Tryd.tf22, Tryd.tf24, Tryd.tf27, Tryd.tf37, Tryd.call14, Tryd.call68, hlt, hl, ho, htk, hdr, hZl, hZd]))
    | ((with_reducible first | apply W_block | apply W_scope | apply WL_nil | apply W_label | apply W_skip | apply W_exit | apply W_ret | apply popsD_done | exact popsD_stop) <;> try simp only [kks, simprocAttr])
    | (with_reducible apply pg <;> (intro hc; (try simp only [hcb, simprocAttr, ne_eq, forall_const] at hc); first | (exfalso; omega) | exact absurd trivial hc | skip))
    | (with_reducible apply hnx; clear hnx nx)
    | (with_reducible refine And.intro (by omega) ?_)
    | (with_reducible refine And.intro ?_ ?_)
    | (clear hnx nx; with_reducible apply hnx; clear hnx nx)
    | (clear hnx nx; clear hnx nx; with_reducible apply hnx; clear hnx nx))
    all_goals first
      | exact rfl
      | (exfalso
         omega)
      | (refine hfin _ _ ?_
         exact Fin_dig (n := NB) (by simp only [fr_getD_cons, Nat.reduceEqDiff, Nat.reduceLT, ↓reduceIte]) (by simp [look, hnm]) hFl ⟨rfl, rfl⟩)
end Go.PM

namespace Go.PM
open Go.Proofs
attribute [local irreducible] W PCalls pcall pcallI WL
/-- The cells of a digest that is filled. -/
def dgC (s : List UInt8) (i : Nat) : List PV := (s.take i).map pbyte ++ List.replicate (16 - i) (pint .u8 0)
attribute [local irreducible] dgC
end Go.PM

namespace Go.PM
open Go.Proofs
attribute [local irreducible] W PCalls pcall pcallI WL
/-- A digit of a digest. -/
def dig (d : List UInt8) (i : Nat) : Nat := (d.getD (i / 4) 0).toNat / 4 ^ (3 - i % 4) % 4
theorem dig_lt (d : List UInt8) (i : Nat) : dig d i < 4 := Nat.mod_lt _ (by omega)
/-- The checksum of the first digits. -/
def sumD (d : List UInt8) : Nat → Nat
  | 0 => 0
  | i + 1 => sumD d i + (3 - dig d i)
theorem sumD_le (d : List UInt8) : ∀ i, sumD d i ≤ 3 * i
  | 0 => Nat.le_refl _
  | i + 1 => by
    have := sumD_le d i
    simp only [sumD]
    omega
/-- The cells of the digits, in part filled. -/
def gC (d : List UInt8) (i : Nat) : List PV := (List.range i).map (fun j => pint .i64 (dig d j : Nat)) ++ List.replicate (68 - i) (pint .i64 0)
theorem gC_len {d : List UInt8} {i : Nat} (h : i ≤ 68) : (gC d i).length = 68 := by
  simp only [gC, List.length_append, List.length_map, List.length_range, List.length_replicate]
  omega
theorem gC_zero (d : List UInt8) : gC d 0 = List.replicate 68 (pint .i64 0) := rfl
theorem gC_put {d : List UInt8} {i : Nat} (h : i < 68) : List.take i (gC d i) ++ [pint .i64 (dig d i : Nat)] ++ List.drop (i + 1) (gC d i) = gC d (i + 1) := by
  obtain ⟨m, hm⟩ : ∃ m, 68 - i = m + 1 := ⟨68 - i - 1, by omega⟩
  have hl : ((List.range i).map (fun j => pint .i64 (dig d j : Nat))).length = i := by simp
  rw [gC, gC, hm, show 68 - (i + 1) = m by omega, List.take_append_of_le_length (by omega), List.take_of_length_le (by omega), List.drop_append, hl, List.drop_of_length_le (by omega), show i + 1 - i = 1 by omega, List.replicate_succ]
  simp [List.range_succ]
theorem gC_get {d : List UInt8} {i : Nat} (h : i < 68) : (gC d (i + 1))[i]? = some (pint .i64 (dig d i : Nat)) := by
  rw [gC, List.getElem?_append_left (by simp)]
  simp
theorem dig_op : ∀ (r : _root_.Fin 4) (x : _root_.Fin 256), (IntKind.i64.wrap (((x.val : Nat) : Int).fdiv (2 ^ min (6 - 2 * r.val) IntKind.u8.bits))).tmod 4 = ((x.val / 4 ^ (3 - r.val) % 4 : Nat) : Int) := by decide +kernel
/-- The digits of the checksum. -/
def chk (s : Nat) : List Nat := [s / 64 % 4, s / 16 % 4, s / 4 % 4, s % 4]
/-- The digits of a digest and of its checksum. -/
def digF (d : List UInt8) : List Nat := (List.range 64).map (dig d) ++ chk (sumD d 64)
def pn' (n : Nat) : PV := pint .i64 n
/-- The cells of the checksum's digits, in part filled. -/
def tlC (s k : Nat) : List PV := [pn' (if k ≤ 0 then s / 64 % 4 else 0), pn' (if k ≤ 1 then s / 16 % 4 else 0), pn' (if k ≤ 2 then s / 4 % 4 else 0), pn' (if k ≤ 3 then s % 4 else 0)]
def hC (d : List UInt8) (s k : Nat) : List PV := (List.range 64).map (fun j => pint .i64 (dig d j : Nat)) ++ tlC s k
theorem hC_len (d : List UInt8) (s k : Nat) : (hC d s k).length = 68 := by simp [hC, tlC]
theorem hC_four (d : List UInt8) (s : Nat) : gC d 64 = hC d s 4 := by
  simp [gC, hC, tlC, pn', List.replicate_succ]
theorem hC_zero (d : List UInt8) : hC d (sumD d 64) 0 = (digF d).map pn' := by
  simp [hC, digF, tlC, chk, pn']
theorem hC_put {d : List UInt8} {s k : Nat} (h : k < 4) : List.take (64 + k) (hC d s (k + 1)) ++ [pint .i64 (s / 4 ^ (3 - k) % 4 : Nat)] ++ List.drop (64 + k + 1) (hC d s (k + 1)) = hC d s k := by
  have hl : ((List.range 64).map (fun j => pint .i64 (dig d j : Nat))).length = 64 := by simp
  unfold hC
  generalize (List.range 64).map (fun j => pint .i64 (dig d j : Nat)) = D at *
  rw [List.take_append, List.drop_append, hl, List.take_of_length_le (by omega), List.drop_of_length_le (by omega)]
  have : k = 0 ∨ k = 1 ∨ k = 2 ∨ k = 3 := by omega
  rcases this with rfl | rfl | rfl | rfl <;> simp [tlC, pn']
attribute [local irreducible] gC hC
set_option maxRecDepth 100000 in
set_option maxHeartbeats 8000000 in
theorem dig_r (G : Globs) (d : List UInt8) (hd : d.length = 16) : PCalls Tryd.prog G 43 [.agg (d.map pbyte)] [] (fun res H => ∃ N, res = .sub N 1 0 68 ∧ H = [(N, ⟨121, false, 0, (digF d).map pn'⟩)]) := by
  have hl0 : (d.map pbyte).length = 16 := by rw [List.length_map, hd]
  have ho0 := all_one_byte d
  (refine PCalls_f Tryd.func43 rfl Tryd.ntmps43 Tryd.results43 (by simp) fun fin hfin => ?_; have hnm : True := trivial; simp only [ev, simprocAttr])
  repeat' (first
    | (with_reducible apply W_seq_k; intro nx hnx)
    | (with_reducible first | refine wr 255 ?_)
    | ((with_reducible first | (apply WL_op; intro nx hnx) | refine Ev_out ?_ | refine wc ?_ | (refine pf hnm fun nm hnm => ?_; try simp only [fmb] at hnm) | (refine pm hnm fun nm hnm => ?_; try simp only [fmb] at hnm)); try (simp (maxSteps := 2000000) (disch := omega) only [ev, ↓evp, PV.cells, PV.one, PV.mem?, Value.cells, simprocAttr, hnm, Tryd.tf0, Tryd.tf3, Tryd.tf4, Tryd.tf5, Tryd.tf22, Tryd.tf37, Tryd.tf121, hl0, ho0]))
    | ((with_reducible first | apply W_block | apply W_scope | apply WL_nil | apply W_label | apply W_skip | apply W_exit | apply W_ret) <;> try simp only [kks, simprocAttr])
    | (with_reducible apply pg <;> (intro hc; (try simp only [hcb, simprocAttr, ne_eq, forall_const] at hc); first | (exfalso; omega) | exact absurd trivial hc | skip))
    | (with_reducible apply hnx; clear hnx nx)
    | (with_reducible refine And.intro (by omega) ?_)
    | (with_reducible refine And.intro ?_ ?_)
    | (clear hnx nx; with_reducible apply hnx; clear hnx nx)
    | (clear hnx nx; clear hnx nx; with_reducible apply hnx; clear hnx nx))
  obtain ⟨NB, hNB⟩ : ∃ N, N = nm := ⟨_, rfl⟩
  subst hNB
  obtain ⟨NA, hNA⟩ : ∃ N, N = nm := ⟨_, rfl⟩
  subst hNA
  refine W_loop_k (fun z τ => ∃ i : Nat, i ≤ 64 ∧ z = 64 - i ∧
      τ = ⟨fr 41 [(7, pint .i64 i), (4, pint .i64 (sumD d i : Nat)), (3, .ptr NB 0), (1, .ptr NA 0)], [(NB, ⟨121, false, 0, gC d i⟩), (NA, ⟨37, false, 0, d.map pbyte⟩)]⟩) 64
    ⟨fr 41 [(7, pint .i64 (0 : Nat)), (4, pint .i64 (0 : Nat)), (3, .ptr NB 0), (1, .ptr NA 0)], [(NB, ⟨121, false, 0, gC d 0⟩), (NA, ⟨37, false, 0, d.map pbyte⟩)]⟩ (by
    rw [gC_zero]
    refine Wk_fr (by simp only [wkb, simprocAttr]) ?_
    exact Sub_refl (by simp [names, hnm])) ⟨0, by omega, by omega, rfl⟩ ?_
  rintro z τ ⟨i, hi, rfl, rfl⟩ lp hlp
  have hl := gC_len (d := d) (show i ≤ 68 by omega)
  by_cases hlt : i < 64
  · have e1 : Int.tdiv (i : Int) 4 = ((i / 4 : Nat) : Int) := by
      rw [Int.tdiv_eq_ediv_of_nonneg (by omega)]
      omega
    have e2 : Int.tmod (i : Int) 4 = ((i % 4 : Nat) : Int) := by
      rw [Int.tmod_eq_emod_of_nonneg (by omega)]
      omega
    have hs := sumD_le d i
    obtain ⟨x, hg⟩ : ∃ x, d[i / 4]? = some x := ⟨_, List.getElem?_eq_getElem (show i / 4 < d.length by omega)⟩
    have hx := x.toNat_lt
    have e3 : 6 - 2 * ((i % 4 : Nat) : Int) = ((6 - 2 * (i % 4) : Nat) : Int) := by omega
    have hdi : dig d i = x.toNat / 4 ^ (3 - i % 4) % 4 := by rw [dig, List.getD_eq_getElem?_getD, hg]; rfl
    have e4 : (IntKind.i64.wrap (((x.toNat : Nat) : Int).fdiv (2 ^ min (6 - 2 * (i % 4)) IntKind.u8.bits))).tmod 4 = ((dig d i : Nat) : Int) := by
      rw [hdi]
      exact dig_op ⟨i % 4, Nat.mod_lt _ (by omega)⟩ ⟨x.toNat, by omega⟩
    have e5 := gC_put (d := d) (show i < 68 by omega)
    have e6 := gC_get (d := d) (show i < 68 by omega)
    have hl2 := gC_len (d := d) (show i + 1 ≤ 68 by omega)
    have hdl := dig_lt d i
    have e7 : sumD d (i + 1) = sumD d i + (3 - dig d i) := rfl
    have e8 : ((sumD d i : Nat) : Int) + (3 - ((dig d i : Nat) : Int)) = ((sumD d (i + 1) : Nat) : Int) := by omega
    repeat' (first
    | (with_reducible apply W_seq_k; intro nx hnx)
    | (with_reducible first | refine wr 255 ?_)
    | ((with_reducible first | (apply WL_op; intro nx hnx) | refine Ev_out ?_ | refine wc ?_ | (refine pf hnm fun nm hnm => ?_; try simp only [fmb] at hnm) | (refine pm hnm fun nm hnm => ?_; try simp only [fmb] at hnm)); try (simp (maxSteps := 2000000) (disch := omega) only [ev, ↓evp, PV.cells, PV.one, PV.mem?, Value.cells, simprocAttr, hnm, Tryd.tf0, Tryd.tf3, Tryd.tf4, Tryd.tf5, Tryd.tf22, Tryd.tf37, Tryd.tf121, hl, hl2, e1, e2, e3, e4, e5, e6, e8, hg, Option.map_some]))
    | ((with_reducible first | apply W_block | apply W_scope | apply WL_nil | apply W_label | apply W_skip | apply W_exit | apply W_ret) <;> try simp only [kks, simprocAttr])
    | (with_reducible apply pg <;> (intro hc; (try simp only [hcb, simprocAttr, ne_eq, forall_const] at hc); first | (exfalso; omega) | exact absurd trivial hc | skip))
    | (with_reducible apply hnx; clear hnx nx)
    | (with_reducible refine And.intro (by omega) ?_)
    | (with_reducible refine And.intro ?_ ?_)
    | (clear hnx nx; with_reducible apply hnx; clear hnx nx)
    | (clear hnx nx; clear hnx nx; with_reducible apply hnx; clear hnx nx))
    all_goals first
      | exact rfl
      | (exfalso
         omega)
      | (refine hlp _ (64 - (i + 1)) _ (by omega) ?_ ⟨i + 1, by omega, rfl, rfl⟩
         refine Wk_fr (by simp only [wkb, simprocAttr]) ?_
         exact Sub_refl (by simp [names, hnm]))
  · obtain rfl : i = 64 := by omega
    have hs := sumD_le d 64
    have hz := hC_zero d
    generalize digF d = F at *
    rw [hC_four d (sumD d 64)] at hl ⊢
    generalize sumD d 64 = S at *
    repeat' (first
    | (with_reducible apply W_seq_k; intro nx hnx)
    | (with_reducible first | refine wr 255 ?_)
    | ((with_reducible first | (apply WL_op; intro nx hnx) | refine Ev_out ?_ | refine wc ?_ | (refine pf hnm fun nm hnm => ?_; try simp only [fmb] at hnm) | (refine pm hnm fun nm hnm => ?_; try simp only [fmb] at hnm)); try (simp (maxSteps := 2000000) (disch := omega) only [ev, ↓evp, PV.cells, PV.one, PV.mem?, Value.cells, simprocAttr, hnm, Tryd.tf0, Tryd.tf3, Tryd.tf4, Tryd.tf5, Tryd.tf22, Tryd.tf37, Tryd.tf121, hl]))
    | ((with_reducible first | apply W_block | apply W_scope | apply WL_nil | apply W_label | apply W_skip | apply W_exit | apply W_ret) <;> try simp only [kks, simprocAttr])
    | (with_reducible apply pg <;> (intro hc; (try simp only [hcb, simprocAttr, ne_eq, forall_const] at hc); first | (exfalso; omega) | exact absurd trivial hc | skip))
    | (with_reducible apply hnx; clear hnx nx)
    | (with_reducible refine And.intro (by omega) ?_)
    | (with_reducible refine And.intro ?_ ?_)
    | (clear hnx nx; with_reducible apply hnx; clear hnx nx)
    | (clear hnx nx; clear hnx nx; with_reducible apply hnx; clear hnx nx))
    refine W_loop_k (fun z τ => ∃ k : Nat, k ≤ 4 ∧ z = k ∧
        τ = ⟨fr 41 [(6, pint .i64 (63 + k : Nat)), (4, pint .i64 (S / 4 ^ (4 - k) : Nat)), (3, .ptr NB 0)], [(NB, ⟨121, false, 0, hC d S k⟩)]⟩) 4
      ⟨fr 41 [(6, pint .i64 67), (4, pint .i64 (S : Nat)), (3, .ptr NB 0)], [(NB, ⟨121, false, 0, hC d S 4⟩)]⟩ (by
      refine Wk_fr (by simp only [wkb, simprocAttr]) ?_
      exact ⟨by simp, by simp [names, hnm]⟩) ⟨4, by omega, by omega, by
        rw [show S / 4 ^ (4 - 4) = S by simp]
        rfl⟩ ?_
    rintro z τ ⟨k, hk, rfl, rfl⟩ lp2 hlp2
    have hl3 := hC_len d S z
    by_cases hk0 : 0 < z
    · obtain ⟨k, rfl⟩ : ∃ k, z = k + 1 := ⟨z - 1, by omega⟩
      obtain ⟨q, hq⟩ : ∃ q, q = S / 4 ^ (4 - (k + 1)) := ⟨_, rfl⟩
      have hsm : q ≤ S := by rw [hq]; exact Nat.div_le_self _ _
      have hq1 : S / 4 ^ (4 - k) = q / 4 := by rw [hq, Nat.div_div_eq_div_mul, ← Nat.pow_succ, show (4 - (k + 1)).succ = 4 - k by omega]
      have hq2 : S / 4 ^ (3 - k) = q := by rw [hq, show 4 - (k + 1) = 3 - k by omega]
      have e1 : Int.tdiv (q : Int) 4 = ((S / 4 ^ (4 - k) : Nat) : Int) := by
        rw [Int.tdiv_eq_ediv_of_nonneg (Int.natCast_nonneg _), hq1]
        omega
      have e2 : Int.tmod (q : Int) 4 = ((S / 4 ^ (3 - k) % 4 : Nat) : Int) := by
        rw [Int.tmod_eq_emod_of_nonneg (Int.natCast_nonneg _), hq2]
        omega
      rw [← hq]
      have e5 := hC_put (d := d) (s := S) (show k < 4 by omega)
      rw [show 64 + k = 63 + (k + 1) by omega] at e5
      have e9 : (63 : Int) + ((k : Int) + 1) - 1 = 63 + (k : Int) := by omega
      repeat' (first
    | (with_reducible apply W_seq_k; intro nx hnx)
    | (with_reducible first | refine wr 255 ?_)
    | ((with_reducible first | (apply WL_op; intro nx hnx) | refine Ev_out ?_ | refine wc ?_ | (refine pf hnm fun nm hnm => ?_; try simp only [fmb] at hnm) | (refine pm hnm fun nm hnm => ?_; try simp only [fmb] at hnm)); try (simp (maxSteps := 2000000) (disch := omega) only [ev, ↓evp, PV.cells, PV.one, PV.mem?, Value.cells, simprocAttr, hnm, Tryd.tf0, Tryd.tf3, Tryd.tf4, Tryd.tf5, Tryd.tf22, Tryd.tf37, Tryd.tf121, hl3, e1, e2, e5]))
    | ((with_reducible first | apply W_block | apply W_scope | apply WL_nil | apply W_label | apply W_skip | apply W_exit | apply W_ret) <;> try simp only [kks, simprocAttr])
    | (with_reducible apply pg <;> (intro hc; (try simp only [hcb, simprocAttr, ne_eq, forall_const] at hc); first | (exfalso; omega) | exact absurd trivial hc | skip))
    | (with_reducible apply hnx; clear hnx nx)
    | (with_reducible refine And.intro (by omega) ?_)
    | (with_reducible refine And.intro ?_ ?_)
    | (clear hnx nx; with_reducible apply hnx; clear hnx nx)
    | (clear hnx nx; clear hnx nx; with_reducible apply hnx; clear hnx nx))
      all_goals first
        | exact rfl
        | (exfalso
           omega)
        | (refine hlp2 _ k _ (by omega) ?_ ⟨k, by omega, rfl, rfl⟩
           refine Wk_fr (by simp only [wkb, simprocAttr, e9]) ?_
           exact ⟨by simp, by simp [names]⟩)
    · obtain rfl : z = 0 := by omega
      rw [hz] at hl3 ⊢
      repeat' (first
    | (with_reducible apply W_seq_k; intro nx hnx)
    | (with_reducible first | refine wr 255 ?_)
    | ((with_reducible first | (apply WL_op; intro nx hnx) | refine Ev_out ?_ | refine wc ?_ | (refine pf hnm fun nm hnm => ?_; try simp only [fmb] at hnm) | (refine pm hnm fun nm hnm => ?_; try simp only [fmb] at hnm)); try (simp (maxSteps := 2000000) (disch := omega) only [ev, ↓evp, PV.cells, PV.one, PV.mem?, Value.cells, simprocAttr, hnm, Tryd.tf0, Tryd.tf3, Tryd.tf4, Tryd.tf5, Tryd.tf22, Tryd.tf37, Tryd.tf121, hl3]))
    | ((with_reducible first | apply W_block | apply W_scope | apply WL_nil | apply W_label | apply W_skip | apply W_exit | apply W_ret) <;> try simp only [kks, simprocAttr])
    | (with_reducible apply pg <;> (intro hc; (try simp only [hcb, simprocAttr, ne_eq, forall_const] at hc); first | (exfalso; omega) | exact absurd trivial hc | skip))
    | (with_reducible apply hnx; clear hnx nx)
    | (with_reducible refine And.intro (by omega) ?_)
    | (with_reducible refine And.intro ?_ ?_)
    | (clear hnx nx; with_reducible apply hnx; clear hnx nx)
    | (clear hnx nx; clear hnx nx; with_reducible apply hnx; clear hnx nx))
      all_goals first
        | exact rfl
        | (exfalso
           omega)
        | (refine hfin _ _ (Fin_ret1 rfl (Sub_refl (by simp [names])) ?_); simp only [cob, simprocAttr]
           exact ⟨_, rfl, rfl⟩)
end Go.PM

namespace Go.PM
open Go.Proofs
attribute [local irreducible] W PCalls pcall pcallI WL
theorem digF_len (d : List UInt8) : (digF d).length = 68 := by simp [digF, chk]
theorem dig_c (G : Globs) (d : List UInt8) (hd : d.length = 16) : PCalls Tryd.prog G 43 [.agg (d.map pbyte)] [] (fun res H => res = .list 1 ((digF d).map pn') ∧ H = []) := by
  have hl := digF_len d
  refine (dig_r G d hd).px fun res H h => ?_
  obtain ⟨N, rfl, rfl⟩ := h
  refine ⟨_, _, Px.freeze (.sub N 1 0 68) _ N (o := ⟨121, false, 0, (digF d).map pn'⟩) (by simp [look]) (by simp [frzOk, del]), ?_, ?_⟩
  · have : List.take 68 ((digF d).map pn') = (digF d).map pn' := List.take_of_length_le (by rw [List.length_map]; omega)
    simp [PM.frz, frz1, elemsOf, hl, this]
  · simp [frzH, del]
/-- The first digits, as cells. -/
def preG (d : List UInt8) (n : Nat) : List PV := (List.range n).map fun j => pint .i64 (dig d j : Nat)
attribute [local irreducible] preG
end Go.PM

namespace Go.PM
open Go.Proofs
attribute [local irreducible] W PCalls pcall pcallI WL
/-- What is signed. -/
def digestF (p : List UInt8) (i : Int) (m : List UInt8) : List UInt8 := ofH 3 [p, intB i, m]
theorem digestF_len (p : List UInt8) (i : Int) (m : List UInt8) : (digestF p i m).length = 16 := ofH_len _ _
theorem all_lt3 {p : List UInt8 → Prop} {a b c : List UInt8} (h1 : p a) (h2 : p b) (h3 : p c) : ∀ x ∈ [a, b, c], p x := by
  intro x hx
  rcases List.mem_cons.1 hx with rfl | hx
  · exact h1
  · exact all_lt2 h2 h3 x hx
set_option maxRecDepth 100000 in
set_option maxHeartbeats 8000000 in
theorem hdig_c (G : Globs) (hG : G 0 = .iptr (KS.map pw) 0) (p : List UInt8) (i : Int) (m : List UInt8) (hp : p.length = 16) (hi : inR i) (hm : m.length ≤ 4000) :
    PCalls Tryd.prog G 44 [.agg (p.map pbyte), pint .i64 i, pstr m] [] (fun res H => res = .agg ((digestF p i m).map pbyte) ∧ H = []) := by
  have h9 := intB_len9 hi
  have hl1 : (p.map pbyte).length = 16 := by rw [List.length_map, hp]
  have o1 := all_one_byte p
  have t1 : List.take 16 (p.map pbyte) = p.map pbyte := List.take_of_length_le (by omega)
  have a1 := isByte_pb p
  have a2 := unb_pb p
  have b1 := isByte_pb (intB i)
  have b2 := unb_pb (intB i)
  have c1 := wint_c G i hi.1 hi.2
  have c := hof_c G hG 3 [p, intB i, m] (all_lt3 (by omega) (by omega) hm) (by simp)
  simp only [List.map_cons, List.map_nil] at c
  have hn : ofH 3 [p, intB i, m] = digestF p i m := rfl
  have hol := digestF_len p i m
  rw [hn] at c
  generalize digestF p i m = f at *
  generalize intB i = e at *
  have hone := all_one_byte f
  have hol2 : (f.map pbyte).length = 16 := by rw [List.length_map, hol]
  have t3 : List.take 16 (f.map pbyte) = f.map pbyte := List.take_of_length_le (by omega)
  (refine PCalls_f Tryd.func44 rfl Tryd.ntmps44 Tryd.results44 (by simp) fun fin hfin => ?_; have hnm : True := trivial; simp only [ev, simprocAttr])
  repeat' (first
    | (with_reducible apply W_seq_k; intro nx hnx)
    | (with_reducible first | refine wr 79 ?_ | refine wd (id := 1) 79 3 (.op 0 true (.op 1 true (.op 2 true (.op 5 true (.op 3 true (.op 4 true (.op 6 false (.op 7 false (.op 8 false (.done)))))))))) (by kernel_rfl) ?_)
    | (with_reducible refine WL_born (by simp) rfl (by simp) ?_; simp only [elemsOf, nl, bir, simprocAttr])
    | (with_reducible refine WL_bornH (by simp) (by simp) ?_ ?_ ?_; (· simp [frz, frz1, hnm]); (· simp [frz1, hnm, PV.one, Value.oneCell']); simp only [elemsOf, nl, bir, simprocAttr])
    | ((with_reducible first | (apply WL_op; intro nx hnx) | refine Ev_out ?_ | refine wc ?_ | (apply popsD_op; intro nx hnx) | (refine popsD_alt ?_ ?_; intro nx hnx) | (refine pf hnm fun nm hnm => ?_; try simp only [fmb] at hnm) | (refine pborn_im ?_; simp only [elemsOf, nl, bir, simprocAttr])); try (simp (maxSteps := 2000000) (disch := omega) only [ev, ↓evp, PV.cells, PV.one, PV.mem?, Value.cells, simprocAttr, hnm, Tryd.tf0, Tryd.tf3, Tryd.tf5, Tryd.tf9, Tryd.tf24, Tryd.tf27, Tryd.tf37, Tryd.call14, Tryd.call23, hl1, o1, t1, a1, a2, b1, b2, hol2, hone, t3]))
    | ((with_reducible first | apply W_block | apply W_scope | apply WL_nil | apply W_label | apply W_skip | apply W_exit | apply W_ret | apply popsD_done | exact popsD_stop) <;> try simp only [kks, simprocAttr])
    | (with_reducible apply hnx; clear hnx nx)
    | (with_reducible refine And.intro (by omega) ?_)
    | (with_reducible refine And.intro ?_ ?_)
    | (with_reducible refine pe (c1) ?_)
    | (with_reducible refine pe (c) ?_)
    | (clear hnx nx; with_reducible apply hnx; clear hnx nx)
    | (clear hnx nx; clear hnx nx; with_reducible apply hnx; clear hnx nx))
  all_goals first
    | exact rfl
    | (refine hfin _ _ ?_
       exact Fin_dig (n := nm) (by simp only [fr_getD_cons, Nat.reduceEqDiff, Nat.reduceLT, ↓reduceIte]) (by simp [look, hnm]) hol ⟨rfl, rfl⟩)
end Go.PM

namespace Go.PM
open Go.Proofs
attribute [local irreducible] W PCalls pcall pcallI WL
/-- The values of some chains, one behind the other. -/
def catF (vals : Nat → List UInt8) (n : Nat) : List UInt8 := (List.range n).flatMap vals
theorem catF_zero (vals : Nat → List UInt8) : catF vals 0 = [] := rfl
theorem catF_succ (vals : Nat → List UInt8) (n : Nat) : catF vals (n + 1) = catF vals n ++ vals n := by
  simp [catF, List.range_succ]
theorem catF_len {vals : Nat → List UInt8} (h : ∀ c, (vals c).length = 16) : ∀ n, (catF vals n).length = 16 * n
  | 0 => rfl
  | n + 1 => by rw [catF_succ, List.length_append, catF_len h n, h]; omega
/-- The lowest node for the values of all chains. -/
def leafF (vals : Nat → List UInt8) : List UInt8 := ofH 1 [ofH 9 [catF vals 68]]
theorem leafF_len (vals : Nat → List UInt8) : (leafF vals).length = 16 := ofH_len _ _
/-- The value of a chain at its top. -/
def topF (seed : List UInt8) (i : Int) (c : Nat) : List UInt8 := advF i c 0 (3 - 0 : Int).toNat (startF seed i c)
theorem topF_len (seed : List UInt8) (i : Int) (c : Nat) : (topF seed i c).length = 16 := advF_len _ _ _ _ _ (startF_len _ _ _)
theorem all_lt1 {p : List UInt8 → Prop} {a : List UInt8} (h1 : p a) : ∀ x ∈ [a], p x := by
  intro x hx
  rw [List.mem_singleton.1 hx]
  exact h1
end Go.PM

namespace Go.PM
open Go.Proofs
attribute [local irreducible] W PCalls pcall pcallI WL
set_option maxRecDepth 100000
set_option maxHeartbeats 8000000
theorem digest_l (G : Globs) (hG : G 0 = .iptr (KS.map pw) 0) (l : List (List UInt8)) (hl : Small l) : PCalls Tryd.prog G 22 [.list 1 (l.map pstr)] [] (fun res H => res = .agg ((dgL l).map pbyte) ∧ H = []) := by
  have he := enc5 hl.2 (by have := hl.1; omega)
  have hl1 := hl.1
  have c1 := wstrs_c G l (fun s hs => by have := hl.2 s hs; omega) (by omega) (by omega)
  have c2 := hof_c G hG 5 [encL bytesB l] (all_lt1 (by omega)) (by simp)
  have hd : ofH 5 [encL bytesB l] = dgL l := rfl
  have hol := dgL_len l
  rw [hd] at c2
  have hone := all_one_byte (dgL l)
  have hol2 : ((dgL l).map pbyte).length = 16 := by rw [List.length_map, hol]
  have t3 : List.take 16 ((dgL l).map pbyte) = (dgL l).map pbyte := List.take_of_length_le (by omega)
  have a1 := isByte_pb (encL bytesB l)
  have a2 := unb_pb (encL bytesB l)
  simp only [List.map_cons, List.map_nil] at c2
  generalize dgL l = f at *
  generalize encL bytesB l = E at *
  (refine PCalls_f Tryd.func22 rfl Tryd.ntmps22 Tryd.results22 (by simp) fun fin hfin => ?_; have hnm : True := trivial; simp only [ev, simprocAttr])
  repeat' (first
    | (with_reducible apply W_seq_k; intro nx hnx)
    | (with_reducible first | refine wr 5 ?_)
    | (with_reducible refine WL_born (by simp) rfl (by simp) ?_; simp only [elemsOf, nl, bir, simprocAttr])
    | (with_reducible refine WL_bornH (by simp) (by simp) ?_ ?_ ?_; (· simp [frz, frz1, hnm]); (· simp [frz1, hnm, PV.one, Value.oneCell']); simp only [elemsOf, nl, bir, simprocAttr])
    | ((with_reducible first | (apply WL_op; intro nx hnx) | refine Ev_out ?_ | refine wc ?_ | (refine pf hnm fun nm hnm => ?_; try simp only [fmb] at hnm) | (refine pborn_im ?_; simp only [elemsOf, nl, bir, simprocAttr])); try (simp (maxSteps := 2000000) (disch := omega) only [ev, ↓evp, PV.cells, PV.one, PV.mem?, Value.cells, simprocAttr, hnm, Tryd.tf0, Tryd.tf1, Tryd.tf3, Tryd.tf5, Tryd.tf9, Tryd.tf24, Tryd.tf27, Tryd.tf37, Tryd.call14, Tryd.call15, a1, a2, t3, hol2, hone]))
    | ((with_reducible first | apply W_block | apply W_scope | apply WL_nil | apply W_label | apply W_skip | apply W_exit | apply W_ret) <;> try simp only [kks, simprocAttr])
    | (with_reducible apply hnx; clear hnx nx)
    | (with_reducible refine And.intro (by omega) ?_)
    | (with_reducible refine And.intro ?_ ?_)
    | (with_reducible refine pe (c1) ?_)
    | (with_reducible refine pe (c2) ?_)
    | (clear hnx nx; with_reducible apply hnx; clear hnx nx)
    | (clear hnx nx; clear hnx nx; with_reducible apply hnx; clear hnx nx))
  all_goals first
    | exact rfl
    | exact (by kernel_rfl : Tryd.prog.underlying 5 = some (.int .u8))
    | (refine hfin _ _ ?_
       exact Fin_dig (n := nm) (by simp only [fr_getD_cons, Nat.reduceEqDiff, Nat.reduceLT, ↓reduceIte]) (by simp [look, hnm]) hol ⟨rfl, rfl⟩)
end Go.PM

namespace Go.PM
open Go.Proofs
theorem gcT_enc (size : Nat) (n : Nat) (r : List UInt8) (hs : 1 ≤ size) (hn : n ≤ 9223372036854775807) (h : n * size ≤ r.length) : gcT size (intB n ++ r) = ((n : Int), (intB n).length, 0) := by
  have hg := gI_intB (n := n) ⟨by omega, by omega⟩ r
  unfold gcT
  rw [hg]
  rw [if_neg (by simp), if_neg (by simp only; omega), if_neg]
  simp only [List.length_append]
  rw [show (intB n).length + r.length - (intB n).length = r.length by omega]
  have : (n : Int) ≤ (r.length : Int) / size := by
    rw [Int.le_ediv_iff_mul_le (by omega)]
    exact_mod_cast h
  omega
theorem gS_enc (s t : List UInt8) (h : s.length ≤ 4294967296) : gS (bytesB s ++ t) = (s, (bytesB s).length, 0) := by
  have hg := gcT_enc 1 s.length (s ++ t) (by omega) (by omega) (by simp)
  unfold gS bytesB
  rw [List.append_assoc, hg, if_neg (by simp)]
  simp
section
variable {α : Type} {g : List UInt8 → α × Nat × Int} {enc : α → List UInt8}
theorem gL_enc : ∀ (l : List α) (t : List UInt8), (∀ x ∈ l, ∀ t, g (enc x ++ t) = (x, (enc x).length, 0)) → gL g l.length (l.flatMap enc ++ t) = (l, (l.flatMap enc).length, 0)
  | [], t, _ => rfl
  | x :: l, t, h => by
    have ih := gL_enc l t fun y hy => h y (.tail _ hy)
    have hx := h x (.head _) (l.flatMap enc ++ t)
    rw [List.flatMap_cons, List.append_assoc, List.length_cons, gL, hx]
    rw [if_neg (by simp)]
    simp only [List.drop_left, ih]
    rw [if_neg (by simp), List.length_append]
theorem gLs_enc (size : Nat) (l : List α) (t : List UInt8) (hs : 1 ≤ size) (hl : l.length ≤ 4294967296) (h : ∀ x ∈ l, ∀ t, g (enc x ++ t) = (x, (enc x).length, 0)) (hsz : ∀ x ∈ l, size ≤ (enc x).length) :
    gLs g size (encL enc l ++ t) = (l, (encL enc l).length, 0) := by
  have hb : l.length * size ≤ (l.flatMap enc).length := by
    clear hl h
    induction l with
    | nil => simp
    | cons x l ih =>
      have h1 := ih fun y hy => hsz y (.tail _ hy)
      have h2 := hsz x (.head _)
      rw [List.flatMap_cons, List.length_append, List.length_cons, Nat.succ_mul]
      omega
  have hc := gcT_enc size l.length (l.flatMap enc ++ t) hs (by omega) (by rw [List.length_append]; omega)
  unfold gLs encL
  rw [List.append_assoc, hc, if_neg (by simp)]
  simp only [List.drop_left, Int.toNat_natCast]
  rw [gL_enc l t h]
  unfold comb
  rw [if_neg (by simp)]
  simp
end
theorem gD_enc (d t : List UInt8) (h : d.length = 16) : gD (id d ++ t) = (d, (id d).length, 0) := by
  unfold gD
  simp only [id]
  rw [List.take_append_of_le_length (by omega), List.take_of_length_le (by omega), h]
theorem bytesB_pos (s : List UInt8) (h : s.length ≤ 4294967296) : 1 ≤ (bytesB s).length := by
  have h9 := intB_len9 (n := s.length) ⟨by omega, by omega⟩
  unfold bytesB
  rw [List.length_append]
  omega
/-- The two digests at the head of a message. -/
theorem gDs_two (d e t : List UInt8) (h1 : d.length = 16) (h2 : e.length = 16) : gLs gD 16 (encL id [d, e] ++ t) = ([d, e], (encL id [d, e]).length, 0) := by
  have h3 : ∀ x ∈ [d, e], x.length = 16 := by
    intro x hx
    simp only [List.mem_cons, List.not_mem_nil, or_false] at hx
    rcases hx with rfl | rfl <;> assumption
  exact gLs_enc 16 [d, e] t (by omega) (by simp) (fun x hx t => gD_enc x t (h3 x hx)) (fun x hx => by rw [id, h3 x hx]; exact Nat.le_refl _)
/-- The lines of a change. -/
theorem gSs_lines (l : List (List UInt8)) (t : List UInt8) (hl : l.length ≤ 1000) (h : ∀ s ∈ l, s.length ≤ 1000) : gLs gS 1 (encL bytesB l ++ t) = (l, (encL bytesB l).length, 0) :=
  gLs_enc 1 l t (by omega) (by omega) (fun x hx t => gS_enc x t (by have := h x hx; omega)) (fun x hx => bytesB_pos x (by have := h x hx; omega))
end Go.PM

namespace Go.Proofs
open Go.Shelf
def Tryd.lays240_ren : Go.Shelf.Ren := ⟨fun | 240 => 67 | 276 => 81 | n => n, fun | 72 => 94 | 70 => 92 | 164 => 137 | 37 => 27 | n => n, fun | n => n⟩
theorem Tryd.lays240 : Go.Proofs.Lays.n240 Tryd.prog Tryd.lays240_ren := {
  mixed := by kernel_rfl
  f240 := Tryd.func67.trans (congrArg some (by kernel_rfl))
  f276 := Tryd.func81.trans (congrArg some (by kernel_rfl))
  t0 := Tryd.underlying0
  a0 := Tryd.isAgg0
  z0 := Tryd.sizeOf0
  v0 := Tryd.zeroValue0
  t4 := Tryd.underlying4
  a4 := Tryd.isAgg4
  z4 := Tryd.sizeOf4
  v4 := Tryd.zeroValue4
  t9 := Tryd.underlying9
  a9 := Tryd.isAgg9
  z9 := Tryd.sizeOf9
  v9 := Tryd.zeroValue9
  t20 := Tryd.underlying20
  a20 := Tryd.isAgg20
  z20 := Tryd.sizeOf20
  v20 := Tryd.zeroValue20
  t70 := Tryd.underlying92
  a70 := Tryd.isAgg92
  z70 := Tryd.sizeOf92
  v70 := Tryd.zeroValue92
  t72 := Tryd.underlying94
  a72 := Tryd.isAgg94
  z72 := Tryd.sizeOf94
  v72 := Tryd.zeroValue94
  t164 := Tryd.underlying137
  a164 := Tryd.isAgg137
  z164 := Tryd.sizeOf137
  v164 := Tryd.zeroValue137 }
theorem Tryd.Builder_X72_240 : Builder.X72 Tryd.prog Tryd.lays240_ren := {
  sizeBuilder := by kernel_rfl
  liesBuilder := by kernel_rfl }
end Go.Proofs
namespace Go.PM
open Go.Proofs
theorem copyCheck_c (G : Globs) (b : Int) (p q : PV) (hp : p = .val (.pointer none) ∨ p = .ptr b 0) :
    PCalls Tryd.prog G 67 [.ptr b 0] [(b, ⟨94, false, 0, [p, q]⟩)] (fun res H => res = .val (.tuple #[]) ∧ H = [(b, ⟨94, false, 0, [.ptr b 0, q]⟩)]) := by
  unfold PCalls
  intro w A F vals hA hG hnd hobj hown hsz hvals
  obtain ⟨v, hv, hr⟩ := hvals 0 (.ptr b 0) rfl
  have hs : Sim G ⟨w, A, [b], F⟩ A ⟨[], [(b, ⟨94, false, 0, [p, q]⟩)]⟩ ⟨#[], []⟩ w :=
    ⟨Ext.refl _ _, hA, fun _ h => h, fun _ h => .inl h, hG, hnd, hobj, fun n o h x hx => by
      obtain ⟨h1, h2⟩ := hown n o h x hx
      refine ⟨h1, h2, .inr ?_⟩
      simp only [List.mem_cons, List.not_mem_nil, or_false] at h
      cases h
      simp [Amb.M, hx], fun n o h hn => .inr (by
      simp only [List.mem_cons, List.not_mem_nil, or_false] at h
      cases h
      simp), rfl, rfl, by simp⟩
  obtain ⟨b', x', rfl, rfl, hsh⟩ : ∃ (b' : Nat) (x' : TypeId × Nat), b = b' ∧ v = .pointer (some (at_ b' 0)) ∧ w.shape? b' = some x' := by
    cases hr with
    | ptr b' off x' hs' => exact ⟨b', x', rfl, rfl, hs'⟩
  have hvs : vals = #[.pointer (some (at_ b' 0))] := by
    apply Array.ext
    · simpa using hsz
    · intro i h1 h2
      have h3 : i = 0 := by simp at h2; omega
      subst h3
      rw [Array.getElem?_eq_getElem h1] at hv
      simpa using Option.some.inj hv
  subst hvs
  obtain ⟨cur, fz, f, hh, hu, hg, hc⟩ := (hobj _ _ List.mem_cons_self).block rfl hsh
  have hsize : cur.size = 2 := hg.2 rfl rfl
  obtain ⟨g1, g2, g3⟩ := hc 0 p rfl
  have hcell : w.cell? ⟨b', 0, none⟩ = some (f 0) := by
    have := cell_of_block (off := 0) hh
    simpa [g1] using this
  rcases hp with rfl | rfl
  · have e0 := g3.val_eq
    rw [e0] at hcell
    have hfz : w.frozen? ⟨b', 0, none⟩ = false := by
      have := hu 0 (by omega)
      simp only [World.frozen?, hh]
      simpa using this
    refine (Any.Builder_copyCheck_fresh Tryd.lays240 Tryd.Builder_X72_240 b' w hcell (by simp [World.shape?, hh, hsize]; rfl) hfz).mono ?_
    rintro e w' ⟨rfl, rfl⟩
    have hst := hs.store (n := (b' : Int)) (o := ⟨94, false, 0, [.val (.pointer none), q]⟩) (b := b') (off := 0) (by simp [look]) rfl hsh (xs := [.ptr b' 0]) (vs := [.pointer (some (at_ b' 0))]) rfl (by simp) (.inl (by simp)) (by
      intro j u hj
      match j, hj with
      | 0, hj => cases hj; exact ⟨rfl, _, rfl, hr⟩
      | j + 1, hj => simp at hj)
    refine ⟨_, A, .val (.tuple #[]), _, rfl, ⟨rfl, rfl⟩, .val _, ?_⟩
    have e1 : ∀ o o' : PObj, upd [((b' : Int), o)] (b' : Int) o' = [((b' : Int), o')] := fun o o' => by simp only [upd, if_true]
    rw [e1] at hst
    exact hst
  · have e0 : f 0 = .pointer (some (at_ b' 0)) := by
      generalize f 0 = v at g3
      cases g3 with
      | ptr b2 off x2 hs2 => rfl
    rw [e0] at hcell
    refine (Any.Builder_copyCheck_used Tryd.lays240 Tryd.Builder_X72_240 b' w hcell).mono ?_
    rintro e w' ⟨rfl, rfl⟩
    exact ⟨_, A, .val (.tuple #[]), _, rfl, ⟨rfl, rfl⟩, .val _, hs⟩
end Go.PM

namespace Go.PM
open Go.Proofs
section
variable {P : Program} {G : Globs} {E : Amb} {A : Nat → Prop} {σ : PState} {a : Act} {w : World} {I : List Int}
theorem PCalls.nd {f : FuncId} {args : List PV} {Hin : Heap} {R : PV → Heap → Prop} (h : (names Hin).Nodup → PCalls P G f args Hin R) : PCalls P G f args Hin R :=
  fun w A F vals h1 h2 h3 => h h3 w A F vals h1 h2 h3
/-- A call to which the objects Hin are handed, wherever they stand. -/
theorem pcall_midn {fn : FuncId} {args : List PV} {R : PV → Heap → Prop} {d : Option Tmp} {K : PState → Prop} (front Hin back : Heap) (he : σ.heap = front ++ (Hin ++ back)) (hc : PCalls P G fn args Hin R)
    (hk : ∀ res Hout, R res Hout → (names (front ++ (Hout ++ back))).Nodup → K (PState.put ⟨σ.frame, front ++ (Hout ++ back)⟩ d res)) : @pcallI false P G σ d fn args ⟨K⟩ := by
  intro E A a w vals hs hsz hvals
  have nd : (names σ.heap).Nodup := hs.nodup
  rw [he] at nd
  simp only [names, List.map_append] at nd
  obtain ⟨n1, n2, n3⟩ := List.nodup_append.1 nd
  obtain ⟨n4, n5, n6⟩ := List.nodup_append.1 n2
  have hin : ∀ x ∈ Hin, x ∈ σ.heap := fun x hx => by rw [he]; exact List.mem_append_right _ (List.mem_append_left _ hx)
  have hrest : ∀ x ∈ front ++ back, x ∈ σ.heap ∧ x.1 ∉ names Hin := fun x hx => by
    rw [he]
    rcases List.mem_append.1 hx with h | h
    · exact ⟨List.mem_append_left _ h, fun hn => n3 _ (List.mem_map.2 ⟨_, h, rfl⟩) _ (List.mem_append_left _ hn) rfl⟩
    · exact ⟨List.mem_append_right _ (List.mem_append_right _ h), fun hn => n6 _ hn _ (List.mem_map.2 ⟨_, h, rfl⟩) rfl⟩
  have hrn : (names (front ++ back)).Nodup := by
    simp only [names, List.map_append]
    exact List.nodup_append.2 ⟨n1, n5, fun x hx y hy => n3 x hx y (List.mem_append_right _ hy)⟩
  refine (hc w A (names σ.heap ++ E.F) vals hs.lt hs.globs n4 (fun n o h => hs.objs n o (hin _ h)) (fun n o h b hb => ⟨(hs.own n o (hin _ h) b hb).1, (hs.own n o (hin _ h) b hb).2.1⟩) hsz hvals).mono ?_
  rintro e w' ⟨v, A', res, Hout, rfl, hR, hr, hs'⟩
  obtain ⟨hdis, hsim⟩ := hs.calledI (fun n h => List.mem_append.2 h) hin hrest hrn hs'
  have hperm : (front ++ (Hout ++ back)).Perm (Hout ++ (front ++ back)) := by
    rw [← List.append_assoc, ← List.append_assoc]
    exact List.Perm.append_right _ List.perm_append_comm
  have hsim2 : Sim G E A' ⟨σ.frame, front ++ (Hout ++ back)⟩ a w' := hsim.sub ⟨fun x hx => hperm.mem_iff.1 hx, (List.Perm.nodup_iff (List.Perm.map _ hperm)).2 hsim.nodup⟩
  exact ⟨v, _, A', rfl, hk res Hout hR hsim2.nodup, hsim2.put d hr, fun h => Bool.noConfusion h⟩
theorem pcall_mid {fn : FuncId} {args : List PV} {R : PV → Heap → Prop} {d : Option Tmp} {K : PState → Prop} (front Hin back : Heap) (he : σ.heap = front ++ (Hin ++ back)) (hc : PCalls P G fn args Hin R)
    (hk : ∀ res Hout, R res Hout → K (PState.put ⟨σ.frame, front ++ (Hout ++ back)⟩ d res)) : @pcallI false P G σ d fn args ⟨K⟩ :=
  pcall_midn front Hin back he hc fun res Hout h _ => hk res Hout h
end
/-- A builder that holds bytes. -/
@[reducible] def BS (b : Int) (bs : List UInt8) (H : Heap) : Prop :=
  (bs = [] ∧ H = [(b, ⟨94, false, 0, [.val (.pointer none), pnil]⟩)]) ∨ (bs ≠ [] ∧ ∃ r : Int, H = [(b, ⟨94, false, 0, [.ptr b 0, .row r 1 bs.length]⟩), (r, ⟨5, true, 1, bs.map pbyte⟩)])
attribute [local irreducible] W PCalls pcall pcallI WL
set_option maxRecDepth 100000 in
set_option maxHeartbeats 8000000 in
theorem writeL_c (G : Globs) (b : Int) (bs s : List UInt8) (hs0 : s ≠ []) (hsl : s.length ≤ 1000000) (hbl : bs.length ≤ 1000000000) (Hin : Heap) (hH : BS b bs Hin) :
    PCalls Tryd.prog G 42 [.ptr b 0, .list 1 (s.map pbyte)] Hin (fun res H => res = .tuple [pint .i64 s.length, .val .nilIface] ∧ BS b (bs ++ s) H) := by
  have hpos : 0 < s.length := List.length_pos_iff.2 hs0
  have hfl : flat (s.map pbyte) = s.map pbyte := flat_pb s
  rcases hH with ⟨rfl, rfl⟩ | ⟨hb0, r, rfl⟩
  · have c1 := copyCheck_c G b (.val (.pointer none)) pnil (.inl rfl)
    (refine PCalls_f Tryd.func42 rfl Tryd.ntmps42 Tryd.results42 (by simp) fun fin hfin => ?_; have hnm : True := trivial; simp only [ev, simprocAttr])
    repeat' (first
    | (with_reducible apply W_seq_k; intro nx hnx)
    | (with_reducible first | refine wr 51 ?_)
    | ((with_reducible first | (apply WL_op; intro nx hnx) | refine Ev_out ?_ | refine wc ?_ | (refine pf hnm fun nm hnm => ?_; try simp only [fmb] at hnm) | (refine pm hnm fun nm hnm => ?_; try simp only [fmb] at hnm)); try (simp (maxSteps := 2000000) (disch := omega) only [ev, ↓evp, PV.cells, PV.one, PV.mem?, Value.cells, simprocAttr, hnm, Tryd.tf0, Tryd.tf1, Tryd.tf3, Tryd.tf5, Tryd.tf27, Tryd.tf92, Tryd.tf94, Tryd.tf96, Tryd.call67, hfl]))
    | ((with_reducible first | apply W_block | apply W_scope | apply WL_nil | apply W_label | apply W_skip | apply W_exit | apply W_ret) <;> try simp only [kks, simprocAttr])
    | (with_reducible apply hnx; clear hnx nx)
    | (with_reducible refine And.intro (by omega) ?_)
    | (with_reducible refine And.intro ?_ ?_)
    | ((refine pcall_mid [] _ [] rfl c1 ?_; rintro _ _ ⟨rfl, rfl⟩; refine Ev_in ?_))
    | (clear hnx nx; with_reducible apply hnx; clear hnx nx)
    | (clear hnx nx; clear hnx nx; with_reducible apply hnx; clear hnx nx))
    refine hfin _ _ (Fin_ret2 rfl rfl (H := [(b, ⟨94, false, 0, [.ptr b 0, .row nm 1 s.length]⟩), (nm, ⟨5, true, 1, s.map pbyte⟩)]) ⟨?_, ?_⟩ ⟨?_, .inr ⟨by simpa using hs0, nm, rfl⟩⟩)
    · intro x hx
      simp only [List.mem_cons, List.not_mem_nil, or_false] at hx ⊢
      rcases hx with rfl | rfl
      · exact .inr rfl
      · exact .inl rfl
    · simp [names, hnm]
    · simp only [fr_getD_cons, Nat.reduceEqDiff, Nat.reduceLT, ↓reduceIte]
  · refine PCalls.nd fun nd => ?_
    have hne : (b = r) = False ∧ (r = b) = False := by
      simp only [names, List.map_cons, List.map_nil, List.nodup_cons, List.mem_cons, List.not_mem_nil, or_false] at nd
      exact ⟨eq_false nd.1, eq_false fun e => nd.1 e.symm⟩
    have c1 := copyCheck_c G b (.ptr b 0) (.row r 1 bs.length) (.inr rfl)
    (refine PCalls_f Tryd.func42 rfl Tryd.ntmps42 Tryd.results42 (by simp) fun fin hfin => ?_; have hnm : True := trivial; simp only [ev, simprocAttr])
    repeat' (first
    | (with_reducible apply W_seq_k; intro nx hnx)
    | (with_reducible first | refine wr 51 ?_)
    | ((with_reducible first | (apply WL_op; intro nx hnx) | refine Ev_out ?_ | refine wc ?_ | (refine pf hnm fun nm hnm => ?_; try simp only [fmb] at hnm) | (refine pm hnm fun nm hnm => ?_; try simp only [fmb] at hnm)); try (simp (maxSteps := 2000000) (disch := omega) only [ev, ↓evp, PV.cells, PV.one, PV.mem?, Value.cells, simprocAttr, hnm, Tryd.tf0, Tryd.tf1, Tryd.tf3, Tryd.tf5, Tryd.tf27, Tryd.tf92, Tryd.tf94, Tryd.tf96, Tryd.call67, hne, hfl]))
    | ((with_reducible first | apply W_block | apply W_scope | apply WL_nil | apply W_label | apply W_skip | apply W_exit | apply W_ret) <;> try simp only [kks, simprocAttr])
    | (with_reducible apply hnx; clear hnx nx)
    | (with_reducible refine And.intro (by omega) ?_)
    | (with_reducible refine And.intro ?_ ?_)
    | ((refine pcall_mid [] [_] [_] rfl c1 ?_; rintro _ _ ⟨rfl, rfl⟩; refine Ev_in ?_))
    | (clear hnx nx; with_reducible apply hnx; clear hnx nx)
    | (clear hnx nx; clear hnx nx; with_reducible apply hnx; clear hnx nx))
    have e1 : (bs ++ s).map pbyte = bs.map pbyte ++ s.map pbyte := List.map_append
    have e2 : (bs ++ s).length = bs.length + s.length := List.length_append
    refine hfin _ _ (Fin_ret2 rfl rfl (H := [(b, ⟨94, false, 0, [.ptr b 0, .row nm 1 (bs ++ s).length]⟩), (nm, ⟨5, true, 1, (bs ++ s).map pbyte⟩)]) ⟨?_, ?_⟩ ⟨?_, .inr ⟨by simp [hb0], nm, rfl⟩⟩)
    · intro x hx
      rw [e1, e2] at hx
      simp only [List.mem_cons, List.not_mem_nil, or_false] at hx ⊢
      rcases hx with rfl | rfl
      · exact .inr rfl
      · exact .inl rfl
    · simp [names, hnm]
    · simp only [fr_getD_cons, Nat.reduceEqDiff, Nat.reduceLT, ↓reduceIte]
set_option maxRecDepth 100000 in
set_option maxHeartbeats 8000000 in
theorem writeA_c (G : Globs) (b v : Int) (bs s : List UInt8) (hs0 : s.length = 16) (hbl : bs.length ≤ 1000000000) (HB : Heap) (hH : BS b bs HB) :
    PCalls Tryd.prog G 42 [.ptr b 0, .sub v 1 0 16] ((v, ⟨37, false, 0, s.map pbyte⟩) :: HB) (fun res H => res = .tuple [pint .i64 16, .val .nilIface] ∧ BS b (bs ++ s) H) := by
  have hsn : s ≠ [] := by
    rintro rfl
    cases hs0
  have hml : (s.map pbyte).length = 16 := by rw [List.length_map, hs0]
  have tk : List.take 16 (s.map pbyte) = s.map pbyte := List.take_of_length_le (by omega)
  have hon := all_one_byte s
  refine PCalls.nd fun nd => ?_
  rcases hH with ⟨rfl, rfl⟩ | ⟨hb0, r, rfl⟩
  · have hne : (b = v) = False ∧ (v = b) = False := by
      simp only [names, List.map_cons, List.map_nil, List.nodup_cons, List.mem_cons, List.not_mem_nil, or_false] at nd
      exact ⟨eq_false fun e => nd.1 e.symm, eq_false nd.1⟩
    have c1 := copyCheck_c G b (.val (.pointer none)) pnil (.inl rfl)
    (refine PCalls_f Tryd.func42 rfl Tryd.ntmps42 Tryd.results42 (by simp) fun fin hfin => ?_; have hnm : True := trivial; simp only [ev, simprocAttr])
    repeat' (first
    | (with_reducible apply W_seq_k; intro nx hnx)
    | (with_reducible first | refine wr 51 ?_)
    | ((with_reducible first | (apply WL_op; intro nx hnx) | refine Ev_out ?_ | refine wc ?_ | (refine pf hnm fun nm hnm => ?_; try simp only [fmb] at hnm) | (refine pm hnm fun nm hnm => ?_; try simp only [fmb] at hnm)); try (simp (maxSteps := 2000000) (disch := omega) only [ev, ↓evp, PV.cells, PV.one, PV.mem?, Value.cells, simprocAttr, hnm, Tryd.tf0, Tryd.tf1, Tryd.tf3, Tryd.tf5, Tryd.tf27, Tryd.tf92, Tryd.tf94, Tryd.tf96, Tryd.call67, hne, hml, tk, hon]))
    | ((with_reducible first | apply W_block | apply W_scope | apply WL_nil | apply W_label | apply W_skip | apply W_exit | apply W_ret) <;> try simp only [kks, simprocAttr])
    | (with_reducible apply hnx; clear hnx nx)
    | (with_reducible refine And.intro (by omega) ?_)
    | (with_reducible refine And.intro ?_ ?_)
    | ((refine pcall_mid [_] [_] [] rfl c1 ?_; rintro _ _ ⟨rfl, rfl⟩; refine Ev_in ?_))
    | (clear hnx nx; with_reducible apply hnx; clear hnx nx)
    | (clear hnx nx; clear hnx nx; with_reducible apply hnx; clear hnx nx))
    refine hfin _ _ (Fin_ret2 rfl rfl (H := [(b, ⟨94, false, 0, [.ptr b 0, .row nm 1 16]⟩), (nm, ⟨5, true, 1, s.map pbyte⟩)]) ⟨?_, ?_⟩ ⟨?_, .inr ⟨by simpa using hsn, nm, by simp [hs0]⟩⟩)
    · intro x hx
      simp only [List.mem_cons, List.not_mem_nil, or_false] at hx ⊢
      rcases hx with rfl | rfl
      · exact .inr (.inr rfl)
      · exact .inl rfl
    · simp [names, hnm]
    · simp only [fr_getD_cons, Nat.reduceEqDiff, Nat.reduceLT, ↓reduceIte]
  · have hne : (b = r) = False ∧ (r = b) = False ∧ (b = v) = False ∧ (v = b) = False ∧ (r = v) = False ∧ (v = r) = False := by
      simp only [names, List.map_cons, List.map_nil, List.nodup_cons, List.mem_cons, List.not_mem_nil, or_false, not_or] at nd
      obtain ⟨⟨n1, n2⟩, n3, -⟩ := nd
      exact ⟨eq_false n3, eq_false fun e => n3 e.symm, eq_false fun e => n1 e.symm, eq_false n1, eq_false fun e => n2 e.symm, eq_false n2⟩
    have c1 := copyCheck_c G b (.ptr b 0) (.row r 1 bs.length) (.inr rfl)
    (refine PCalls_f Tryd.func42 rfl Tryd.ntmps42 Tryd.results42 (by simp) fun fin hfin => ?_; have hnm : True := trivial; simp only [ev, simprocAttr])
    repeat' (first
    | (with_reducible apply W_seq_k; intro nx hnx)
    | (with_reducible first | refine wr 51 ?_)
    | ((with_reducible first | (apply WL_op; intro nx hnx) | refine Ev_out ?_ | refine wc ?_ | (refine pf hnm fun nm hnm => ?_; try simp only [fmb] at hnm) | (refine pm hnm fun nm hnm => ?_; try simp only [fmb] at hnm)); try (simp (maxSteps := 2000000) (disch := omega) only [ev, ↓evp, PV.cells, PV.one, PV.mem?, Value.cells, simprocAttr, hnm, Tryd.tf0, Tryd.tf1, Tryd.tf3, Tryd.tf5, Tryd.tf27, Tryd.tf92, Tryd.tf94, Tryd.tf96, Tryd.call67, hne, hml, tk, hon]))
    | ((with_reducible first | apply W_block | apply W_scope | apply WL_nil | apply W_label | apply W_skip | apply W_exit | apply W_ret) <;> try simp only [kks, simprocAttr])
    | (with_reducible apply hnx; clear hnx nx)
    | (with_reducible refine And.intro (by omega) ?_)
    | (with_reducible refine And.intro ?_ ?_)
    | ((refine pcall_mid [_] [_] [_] rfl c1 ?_; rintro _ _ ⟨rfl, rfl⟩; refine Ev_in ?_))
    | (clear hnx nx; with_reducible apply hnx; clear hnx nx)
    | (clear hnx nx; clear hnx nx; with_reducible apply hnx; clear hnx nx))
    have e1 : (bs ++ s).map pbyte = bs.map pbyte ++ s.map pbyte := List.map_append
    have e2 : (bs ++ s).length = bs.length + 16 := by rw [List.length_append, hs0]
    refine hfin _ _ (Fin_ret2 rfl rfl (H := [(b, ⟨94, false, 0, [.ptr b 0, .row nm 1 (bs ++ s).length]⟩), (nm, ⟨5, true, 1, (bs ++ s).map pbyte⟩)]) ⟨?_, ?_⟩ ⟨?_, .inr ⟨by simp [hb0], nm, rfl⟩⟩)
    · intro x hx
      rw [e1, e2] at hx
      simp only [List.mem_cons, List.not_mem_nil, or_false] at hx ⊢
      rcases hx with rfl | rfl
      · exact .inr (.inr rfl)
      · exact .inl rfl
    · simp [names, hnm]
    · simp only [fr_getD_cons, Nat.reduceEqDiff, Nat.reduceLT, ↓reduceIte]
set_option maxRecDepth 100000 in
set_option maxHeartbeats 8000000 in
theorem string_c (G : Globs) (b : Int) (bs : List UInt8) (hbl : bs.length ≤ 1000000000) (Hin : Heap) (hH : BS b bs Hin) : PCalls Tryd.prog G 47 [.ptr b 0] Hin (fun res H => res = pstr bs ∧ H = []) := by
  rcases hH with ⟨rfl, rfl⟩ | ⟨hb0, r, rfl⟩
  · (refine PCalls_f Tryd.func47 rfl Tryd.ntmps47 Tryd.results47 (by simp) fun fin hfin => ?_; have hnm : True := trivial; simp only [ev, simprocAttr])
    repeat' (first
    | (with_reducible apply W_seq_k; intro nx hnx)
    | (with_reducible first | refine wr 5 ?_ | refine wd (id := 1) 5 4 (.op 0 true (.op 1 true (.op 2 true (.op 3 true (.op 5 true (.op 6 true (.op 7 true (.op 8 true (.op 9 true (.op 4 true (.op 10 false (.op 11 true (.done))))))))))))) (by kernel_rfl) ?_)
    | ((with_reducible first | (apply WL_op; intro nx hnx) | refine Ev_out ?_ | refine wc ?_ | (apply popsD_op; intro nx hnx) | (refine popsD_alt ?_ ?_; intro nx hnx)); try (simp (maxSteps := 2000000) (disch := omega) only [ev, ↓evp, PV.cells, PV.one, PV.mem?, Value.cells, simprocAttr, hnm, Tryd.tf0, Tryd.tf1, Tryd.tf3, Tryd.tf5, Tryd.tf9, Tryd.tf27, Tryd.tf92, Tryd.tf94, Tryd.tf124]))
    | ((with_reducible first | apply W_block | apply W_scope | apply WL_nil | apply W_label | apply W_skip | apply W_exit | apply W_ret | apply popsD_done | exact popsD_stop) <;> try simp only [kks, simprocAttr])
    | (with_reducible apply hnx; clear hnx nx)
    | (with_reducible refine And.intro (by omega) ?_)
    | (with_reducible refine And.intro ?_ ?_)
    | (clear hnx nx; with_reducible apply hnx; clear hnx nx)
    | (clear hnx nx; clear hnx nx; with_reducible apply hnx; clear hnx nx))
    (refine hfin _ _ (Fin_ret1 rfl (Sub_nil _) ?_); simp only [cob, simprocAttr]; first | trivial | exact ⟨rfl, by trivial⟩ | (simp; done) | (simp; omega))
  · refine PCalls.nd fun nd => ?_
    have hne : (b = r) = False ∧ (r = b) = False := by
      simp only [names, List.map_cons, List.map_nil, List.nodup_cons, List.mem_cons, List.not_mem_nil, or_false] at nd
      exact ⟨eq_false nd.1, eq_false fun e => nd.1 e.symm⟩
    have hpos : 0 < bs.length := List.length_pos_iff.2 hb0
    have u1 := unb_pb bs
    have u2 := isByte_pb bs
    (refine PCalls_f Tryd.func47 rfl Tryd.ntmps47 Tryd.results47 (by simp) fun fin hfin => ?_; have hnm : True := trivial; simp only [ev, simprocAttr])
    repeat' (first
    | (with_reducible apply W_seq_k; intro nx hnx)
    | (with_reducible first | refine wr 5 ?_ | refine wd (id := 1) 5 4 (.op 0 true (.op 1 true (.op 2 true (.op 3 true (.op 5 true (.op 6 true (.op 7 true (.op 8 true (.op 9 true (.op 4 true (.op 10 false (.op 11 true (.done))))))))))))) (by kernel_rfl) ?_)
    | ((with_reducible first | (apply WL_op; intro nx hnx) | refine Ev_out ?_ | refine wc ?_ | (apply popsD_op; intro nx hnx) | (refine popsD_alt ?_ ?_; intro nx hnx)); try (simp (maxSteps := 2000000) (disch := omega) only [ev, ↓evp, PV.cells, PV.one, PV.mem?, Value.cells, simprocAttr, hnm, Tryd.tf0, Tryd.tf1, Tryd.tf3, Tryd.tf5, Tryd.tf9, Tryd.tf27, Tryd.tf92, Tryd.tf94, Tryd.tf124, hne, u1, u2, List.length_map]))
    | ((with_reducible first | apply W_block | apply W_scope | apply WL_nil | apply W_label | apply W_skip | apply W_exit | apply W_ret | apply popsD_done | exact popsD_stop) <;> try simp only [kks, simprocAttr])
    | (with_reducible apply hnx; clear hnx nx)
    | (with_reducible refine And.intro (by omega) ?_)
    | (with_reducible refine And.intro ?_ ?_)
    | (clear hnx nx; with_reducible apply hnx; clear hnx nx)
    | (clear hnx nx; clear hnx nx; with_reducible apply hnx; clear hnx nx))
    all_goals first
      | (refine hfin _ _ (Fin_ret1 rfl (Sub_nil _) ?_); simp only [cob, simprocAttr]; first | trivial | exact ⟨rfl, by trivial⟩ | (simp; done) | (simp; omega))
      | exact (by kernel_rfl : Tryd.prog.cellsOf 5 = 1)
end Go.PM

namespace Go.PM
open Go.Proofs
attribute [local irreducible] W PCalls pcall pcallI WL
set_option maxRecDepth 100000 in
set_option maxHeartbeats 8000000 in
theorem leaf_c (G : Globs) (hG : G 0 = .iptr (KS.map pw) 0) (f : FuncId) (caps : List PV) (vals : Nat → List UInt8) (hv : ∀ c, c < 68 → (vals c).length = 16) (hcall : callable Tryd.prog f = true)
    (hc : ∀ c : Nat, c < 68 → PCalls Tryd.prog G f (pint .i64 c :: caps) [] (fun res H => res = .agg ((vals c).map pbyte) ∧ H = [])) :
    PCalls Tryd.prog G 58 [.func f caps] [] (fun res H => res = .agg ((leafF vals).map pbyte) ∧ H = []) := by
  obtain ⟨Z, hZ⟩ : ∃ Z, Z = List.replicate 16 (pint .u8 0) := ⟨_, rfl⟩
  have hZ2 : [pint .u8 0, pint .u8 0, pint .u8 0, pint .u8 0, pint .u8 0, pint .u8 0, pint .u8 0, pint .u8 0, pint .u8 0, pint .u8 0, pint .u8 0, pint .u8 0, pint .u8 0, pint .u8 0, pint .u8 0, pint .u8 0] = Z := by rw [hZ]; rfl
  have hZl : Z.length = 16 := by rw [hZ]; rfl
  have hZd : List.drop 16 Z = [] := List.drop_of_length_le (by omega)
  have hZo : Z.all PV.one = true := by rw [hZ]; rfl
  (refine PCalls_f Tryd.func58 rfl Tryd.ntmps58 Tryd.results58 (by simp) fun fin hfin => ?_; have hnm : True := trivial; simp only [ev, simprocAttr])
  repeat' (first
    | (with_reducible apply W_seq_k; intro nx hnx)
    | (with_reducible first | refine wr 253 ?_)
    | ((with_reducible first | (apply WL_op; intro nx hnx) | refine Ev_out ?_ | refine wc ?_ | (refine pf hnm fun nm hnm => ?_; try simp only [fmb] at hnm) | (refine pm hnm fun nm hnm => ?_; try simp only [fmb] at hnm)); try (simp (maxSteps := 2000000) (disch := omega) only [ev, ↓evp, PV.cells, PV.one, PV.mem?, Value.cells, simprocAttr, hnm, Tryd.tf0, Tryd.tf1, Tryd.tf3, Tryd.tf4, Tryd.tf5, Tryd.tf9, Tryd.tf24, Tryd.tf27, Tryd.tf37, Tryd.tf94, Tryd.tf97, Tryd.tf109, Tryd.call14, Tryd.call42, Tryd.call47]))
    | ((with_reducible first | apply W_block | apply W_scope | apply WL_nil | apply W_label | apply W_skip | apply W_exit | apply W_ret) <;> try simp only [kks, simprocAttr])
    | (with_reducible apply pg <;> (intro hc; (try simp only [hcb, simprocAttr, ne_eq, forall_const] at hc); first | (exfalso; omega) | exact absurd trivial hc | skip))
    | (with_reducible apply hnx; clear hnx nx)
    | (with_reducible refine And.intro (by omega) ?_)
    | (with_reducible refine And.intro ?_ ?_)
    | (clear hnx nx; with_reducible apply hnx; clear hnx nx)
    | (clear hnx nx; clear hnx nx; with_reducible apply hnx; clear hnx nx))
  obtain ⟨NB, hNB⟩ : ∃ N, N = nm := ⟨_, rfl⟩
  subst hNB
  obtain ⟨NA, hNA⟩ : ∃ N, N = nm := ⟨_, rfl⟩
  subst hNA
  refine W_loop_k (fun z τ => ∃ (c : Nat) (s : List UInt8) (HB : Heap), c ≤ 68 ∧ z = 68 - c ∧ s = catF vals c ∧ s.length = 16 * c ∧ BS NB s HB ∧ (names (HB ++ [(NA, ⟨37, false, 0, Z⟩)])).Nodup ∧
      τ = ⟨fr 23 [(7, pint .i64 c), (3, .ptr NB 0), (2, .ptr NA 0), (0, .func f caps)], HB ++ [(NA, ⟨37, false, 0, Z⟩)]⟩) 68
    ⟨fr 23 [(7, pint .i64 (0 : Nat)), (3, .ptr NB 0), (2, .ptr NA 0), (0, .func f caps)], [(NB, ⟨94, false, 0, [.val (.pointer none), pnil]⟩)] ++ [(NA, ⟨37, false, 0, Z⟩)]⟩ (by
    rw [← hZ2]
    refine Wk_fr (by simp only [wkb, simprocAttr]) ?_
    exact Sub_refl (by simp [names, hnm])) ⟨0, [], _, by omega, by omega, rfl, rfl, .inl ⟨rfl, rfl⟩, by simp [names, hnm], rfl⟩ ?_
  rintro z τ ⟨c, s, HB, hcl, rfl, hs, hsl, hB, hnd, rfl⟩ lp hlp
  by_cases hlt : c < 68
  · have c1 := hc c hlt
    have hvl := hv c hlt
    have hsu := catF_succ vals c
    obtain ⟨u, hu⟩ : ∃ u, u = s ++ vals c := ⟨_, rfl⟩
    have hul : u = catF vals (c + 1) := by rw [hu, hs, hsu]
    have hull : u.length = 16 * (c + 1) := by rw [hu, List.length_append, hsl, hvl]; omega
    generalize vals c = x at *
    have cw := fun v => writeA_c G NB v s x hvl (by omega) HB hB
    rw [← hu] at cw
    have hxl : (x.map pbyte).length = 16 := by rw [List.length_map, hvl]
    have tx : List.take 16 (x.map pbyte) = x.map pbyte := List.take_of_length_le (by omega)
    have hxo := all_one_byte x
    repeat' (first
    | (with_reducible apply W_seq_k; intro nx hnx)
    | (with_reducible first | refine wr 253 ?_)
    | ((with_reducible first | (apply WL_op; intro nx hnx) | refine Ev_out ?_ | refine wc ?_ | (refine pf hnm fun nm hnm => ?_; try simp only [fmb] at hnm) | (refine pm hnm fun nm hnm => ?_; try simp only [fmb] at hnm)); try (simp (maxSteps := 2000000) (disch := omega) only [ev, ↓evp, PV.cells, PV.one, PV.mem?, Value.cells, simprocAttr, hnm, Tryd.tf0, Tryd.tf1, Tryd.tf3, Tryd.tf4, Tryd.tf5, Tryd.tf9, Tryd.tf24, Tryd.tf27, Tryd.tf37, Tryd.tf94, Tryd.tf97, Tryd.tf109, Tryd.call14, Tryd.call42, Tryd.call47, hcall, hxl, tx, hxo, hZ2, hZl, hZd, hZo]))
    | ((with_reducible first | apply W_block | apply W_scope | apply WL_nil | apply W_label | apply W_skip | apply W_exit | apply W_ret) <;> try simp only [kks, simprocAttr])
    | (with_reducible apply pg <;> (intro hc; (try simp only [hcb, simprocAttr, ne_eq, forall_const] at hc); first | (exfalso; omega) | exact absurd trivial hc | skip))
    | (with_reducible apply hnx; clear hnx nx)
    | (with_reducible refine And.intro (by omega) ?_)
    | (with_reducible refine And.intro ?_ ?_)
    | (with_reducible refine pe (c1) ?_)
    | ((refine pcall_midn [] (_ :: HB) [(NA, ⟨37, false, 0, Z⟩)] (by simp) (cw _) ?_; rintro _ H2 ⟨rfl, hB2⟩ nd2; refine Ev_in ?_))
    | (clear hnx nx; with_reducible apply hnx; clear hnx nx)
    | (clear hnx nx; clear hnx nx; with_reducible apply hnx; clear hnx nx))
    all_goals first
      | exact rfl
      | (exfalso
         omega)
      | (refine hlp _ (68 - (c + 1)) _ (by omega) ?_ ⟨c + 1, u, H2, by omega, rfl, hul, hull, hB2, nd2, rfl⟩
         refine Wk_fr (by simp only [wkb, simprocAttr]) ?_
         exact Sub_refl nd2)
  · obtain rfl : c = 68 := by omega
    have k0 := string_c G NB s (by omega) HB hB
    have k1 := hof_c G hG 9 [s] (all_lt1 (by omega)) (by simp)
    have k3 := hof_c G hG 1 [ofH 9 [s]] (all_lt1 (by rw [ofH_len]; omega)) (by simp)
    have hol := leafF_len vals
    rw [show ofH 1 [ofH 9 [s]] = leafF vals by rw [hs]; rfl] at k3
    simp only [List.map_cons, List.map_nil] at k1 k3
    have hql := ofH_len 9 [s]
    generalize leafF vals = f1 at *
    generalize ofH 9 [s] = q at *
    have hone := all_one_byte f1
    have hol2 : (f1.map pbyte).length = 16 := by rw [List.length_map, hol]
    have t3 : List.take 16 (f1.map pbyte) = f1.map pbyte := List.take_of_length_le (by omega)
    have hqo := all_one_byte q
    have hqb := isByte_pb q
    have hqu := unb_pb q
    have hq2 : (q.map pbyte).length = 16 := by rw [List.length_map, hql]
    have tq : List.take 16 (q.map pbyte) = q.map pbyte := List.take_of_length_le (by omega)
    repeat' (first
    | (with_reducible apply W_seq_k; intro nx hnx)
    | (with_reducible first | refine wr 253 ?_)
    | (with_reducible refine WL_born (by simp) rfl (by simp) ?_; simp only [elemsOf, nl, bir, simprocAttr])
    | (with_reducible refine WL_bornH (by simp) (by simp) ?_ ?_ ?_; (· simp [frz, frz1, hnm]); (· simp [frz1, hnm, PV.one, Value.oneCell']); simp only [elemsOf, nl, bir, simprocAttr])
    | ((with_reducible first | (apply WL_op; intro nx hnx) | refine Ev_out ?_ | refine wc ?_ | (refine pf hnm fun nm hnm => ?_; try simp only [fmb] at hnm) | (refine pborn_im ?_; simp only [elemsOf, nl, bir, simprocAttr])); try (simp (maxSteps := 2000000) (disch := omega) only [ev, ↓evp, PV.cells, PV.one, PV.mem?, Value.cells, simprocAttr, hnm, Tryd.tf0, Tryd.tf1, Tryd.tf3, Tryd.tf4, Tryd.tf5, Tryd.tf9, Tryd.tf24, Tryd.tf27, Tryd.tf37, Tryd.tf94, Tryd.tf97, Tryd.tf109, Tryd.call14, Tryd.call42, Tryd.call47, hone, hol2, t3, hqo, hqb, hqu, hq2, tq, hZl, hZd, hZo, hZ2]))
    | ((with_reducible first | apply W_block | apply W_scope | apply WL_nil | apply W_label | apply W_skip | apply W_exit | apply W_ret) <;> try simp only [kks, simprocAttr])
    | (with_reducible apply pg <;> (intro hc; (try simp only [hcb, simprocAttr, ne_eq, forall_const] at hc); first | (exfalso; omega) | exact absurd trivial hc | skip))
    | (with_reducible apply hnx; clear hnx nx)
    | (with_reducible refine And.intro (by omega) ?_)
    | (with_reducible refine And.intro ?_ ?_)
    | (with_reducible refine pe (k1) ?_)
    | (with_reducible refine pe (k3) ?_)
    | ((refine pcall_midn [] HB [(NA, ⟨37, false, 0, Z⟩)] (by simp) k0 ?_; rintro _ _ ⟨rfl, rfl⟩ nd2; refine Ev_in ?_))
    | (clear hnx nx; with_reducible apply hnx; clear hnx nx)
    | (clear hnx nx; clear hnx nx; with_reducible apply hnx; clear hnx nx))
    all_goals first
      | exact rfl
      | (exfalso
         omega)
      | (refine hfin _ _ ?_
         exact Fin_dig (n := NA) (by simp only [fr_getD_cons, Nat.reduceEqDiff, Nat.reduceLT, ↓reduceIte]) (by simp [look, hnm]) hol ⟨rfl, rfl⟩)
end Go.PM

namespace Go.PM
open Go.RowKit
section
variable {P : Program} {G : Globs} {E : Amb} {A : Nat → Prop} {σ : PState} {a : Act} {w : World} {q : Bool}
/-- what comes back from a call to which the objects S were lent -/
theorem Sim.lentS {w' : World} {A' : Nat → Prop} {S : Nat → Prop} {F : List Int} (hs : Sim G E A σ a w) (hS : ∀ b : Nat, S b → ∃ o, ((b : Int), o) ∈ σ.heap)
    (hs' : Sim G ⟨w, fun b => A b ∨ S b, [], F⟩ A' ⟨[], []⟩ ⟨#[], []⟩ w') : Sim G E (fun b => A' b ∧ ¬ S b) σ a w' := by
  have he : Ext (fun _ => False) w w' := hs'.ext.mono (fun x hx => (List.not_mem_nil hx).elim)
  have hm : ∀ b, A b → ¬ False := fun _ _ h => h
  have hA : ∀ b, A b → A' b ∧ ¬ S b := fun b hb => ⟨hs'.a0 b (.inl hb), fun e => by
    obtain ⟨o, ho⟩ := hS b e
    exact (hs.own _ o ho b rfl).2.1 hb⟩
  have hA1 : ∀ b, A' b ∧ ¬ S b → A b ∨ w.heap.size ≤ b := by
    intro b ⟨hb, hn⟩
    rcases hs'.a1 b hb with (h | h) | h
    · exact .inl h
    · exact absurd h hn
    · exact .inr h
  refine ⟨hs.ext.trans he (fun _ _ h => h.elim), fun b hb => hs'.lt b hb.1, fun b hb => hA b (hs.a0 b hb), fun b hb => ?_, fun g => (hs.globs g).ext he hA hm, hs.nodup, fun m o' h => (hs.objs m o' h).ext he hA hm (fun _ _ h => h), fun m o' h b hb => ?_, hs.neg, hs.defers, hs.size, fun i p hp => ?_⟩
  · rcases hA1 b hb with h | h
    · exact hs.a1 b h
    · exact .inr (Nat.le_trans hs.ext.size h)
  · obtain ⟨q1, q2, q3⟩ := hs.own m o' h b hb
    refine ⟨Nat.lt_of_lt_of_le q1 he.size, fun hb' => ?_, q3⟩
    rcases hA1 b hb' with h | h
    · exact q2 h
    · omega
  · obtain ⟨v, hv, hr⟩ := hs.frame i p hp
    exact ⟨v, hv, hr.ext he hA hm⟩
/-- A call by contract to which the objects n and m are lent, to be read: what comes back names no memory. -/
theorem pcall_lend2 {fn : FuncId} {args : List PV} {R : PV → Heap → Prop} {d : Option Tmp} {K : PState → Prop} (n m : Int) (o u : PObj) (hl : look σ.heap n = some o) (hm : look σ.heap m = some u)
    (hc : PCalls P G fn (args.map fun p => frz m u.cells (frz n o.cells p)) [] R)
    (hk : ∀ res Hout, R res Hout → Hout = [] ∧ Flat res ∧ K (PState.put σ d res)) : @pcallI q P G σ d fn args ⟨K⟩ := by
  intro E A a w vals hs hsz hvals
  have hob := hs.objs n o (look_mem hl)
  have hob2 := hs.objs m u (look_mem hm)
  have hA1 : ∀ b, A b → (A b ∨ (b : Int) = n) := fun b h => .inl h
  have hn1 : ∀ b : Nat, n = b → (A b ∨ (b : Int) = n) := fun b h => .inr h.symm
  have hA2 : ∀ b, (A b ∨ (b : Int) = n) → (A b ∨ ((b : Int) = n ∨ (b : Int) = m)) := fun b h => by
    rcases h with h | h
    · exact .inl h
    · exact .inr (.inl h)
  have hn2 : ∀ b : Nat, m = b → (A b ∨ ((b : Int) = n ∨ (b : Int) = m)) := fun b h => .inr (.inr h.symm)
  have hob3 : ObjRep w (fun b => A b ∨ (b : Int) = n) m u := hob2.ext (M := fun _ => False) (Ext.refl _ _) hA1 (fun _ _ h => h) (fun _ _ h => h)
  refine (hc w (fun b => A b ∨ ((b : Int) = n ∨ (b : Int) = m)) (names σ.heap ++ E.F) vals ?_ (fun g => (hs.globs g).mono (fun b h => .inl h) (fun _ _ _ _ h => h) (fun _ _ h => h)) (by simp) (by simp) (by simp) (by rw [List.length_map]; exact hsz) ?_).mono ?_
  · intro b hb
    rcases hb with h | h | h
    · exact hs.lt b h
    · exact (hs.own n o (look_mem hl) b h.symm).1
    · exact (hs.own m u (look_mem hm) b h.symm).1
  · intro i p hp
    rw [List.getElem?_map] at hp
    cases hj : args[i]? with
    | none => rw [hj] at hp; cases hp
    | some p0 =>
      rw [hj] at hp
      cases hp
      obtain ⟨v, hv, hr⟩ := hvals i p0 hj
      exact ⟨v, hv, frz_rep hA2 hn2 hob3 (frz_rep hA1 hn1 hob hr)⟩
  · rintro e w' ⟨v, A', res, Hout, rfl, hR, hr, hs'⟩
    obtain ⟨rfl, hflat, hK⟩ := hk res Hout hR
    have hS : ∀ b : Nat, ((b : Int) = n ∨ (b : Int) = m) → ∃ o, ((b : Int), o) ∈ σ.heap := by
      rintro b (h | h)
      · exact ⟨o, h ▸ look_mem hl⟩
      · exact ⟨u, h ▸ look_mem hm⟩
    exact ⟨v, _, _, rfl, hK, (hs.lentS hS hs').put d (hflat.rep hr), fun _ => keeps_of_sim hs'⟩
end
end Go.PM

namespace Go.PM
open Go.Proofs
attribute [local irreducible] W PCalls pcall pcallI WL
/-- The node with a number at a level. -/
def nodeV (seed : List UInt8) : Nat → Nat → List UInt8
  | 0, k => leafF (topF seed k)
  | l + 1, k => nodeF (nodeV seed l (2 * k)) (nodeV seed l (2 * k + 1))
theorem nodeF_len (a b : List UInt8) : (nodeF a b).length = 16 := ofH_len _ _
theorem nodeV_len (seed : List UInt8) : ∀ l k, (nodeV seed l k).length = 16
  | 0, k => leafF_len _
  | l + 1, k => nodeF_len _ _
/-- A digest. -/
@[reducible] def pdg (x : List UInt8) : PV := .agg (x.map pbyte)
def catD (l : List (List UInt8)) : List PV := l.flatten.map pbyte
/-- The first nodes of a level. -/
def lvD (seed : List UInt8) (l n : Nat) : List (List UInt8) := (List.range n).map (nodeV seed l)
/-- The cells of a level. -/
def lvC (seed : List UInt8) (l n : Nat) : List PV := catD (lvD seed l n)
/-- The levels of a tree, in part. -/
def tbC (seed : List UInt8) (h n : Nat) : List PV := (List.range n).map fun j => .list 16 ((lvD seed j (2 ^ (h - j))).map pdg)
attribute [local irreducible] lvC lvD tbC
theorem shl_op : ∀ h : _root_.Fin 7, IntKind.i64.wrap (1 * 2 ^ min h.val IntKind.i64.bits) = ((2 ^ h.val : Nat) : Int) := by decide +kernel
theorem pow_le64 (h : Nat) (hh : h ≤ 6) : 2 ^ h ≤ 64 := by
  have := Nat.pow_le_pow_right (n := 2) (by omega) hh
  exact this
end Go.PM

namespace Go.PM
open Go.Proofs
attribute [local irreducible] W PCalls pcall pcallI WL
set_option maxRecDepth 100000 in
set_option maxHeartbeats 8000000 in
theorem top_c (G : Globs) (hG : G 0 = .iptr (KS.map pw) 0) (seed : List UInt8) (hs : seed.length ≤ 4000) (k : Int) (hk : inR k) (c : Nat) (hc : c < 68) :
    PCalls Tryd.prog G 66 [pint .i64 c, .iptr [pint .i64 k] 0, .iptr [pstr seed] 0] [] (fun res H => res = .agg ((topF seed k c).map pbyte) ∧ H = []) := by
  have hcR : inR (c : Int) := ⟨by omega, by omega⟩
  have c1 := start_c G hG seed hs k c hk hcR
  have c2 := adv_c G hG k c 0 3 (startF seed k c) hk hcR (by omega) (by omega) (by omega) (by omega) (startF_len _ _ _)
  rw [show advF k c 0 (3 - 0 : Int).toNat (startF seed k c) = topF seed k c from rfl] at c2
  have htl := topF_len seed k c
  generalize topF seed k c = t at *
  generalize startF seed k c = v at *
  have hone := all_one_byte t
  have hl2 : (t.map pbyte).length = 16 := by rw [List.length_map, htl]
  have tk : List.take 16 (t.map pbyte) = t.map pbyte := List.take_of_length_le (by omega)
  (refine PCalls_f Tryd.func66 rfl Tryd.ntmps66 Tryd.results66 (by simp) fun fin hfin => ?_; have hnm : True := trivial; simp only [ev, simprocAttr])
  repeat' (first
    | (with_reducible apply W_seq_k; intro nx hnx)
    | (with_reducible first | refine wr 23 ?_ | refine wd (id := 1) 23 2 (.op 0 true (.op 1 true (.op 2 true (.op 3 true (.op 4 true (.op 5 true (.op 6 false (.op 7 false (.done))))))))) (by kernel_rfl) ?_)
    | ((with_reducible first | (apply WL_op; intro nx hnx) | refine Ev_out ?_ | refine wc ?_ | (apply popsD_op; intro nx hnx) | (refine popsD_alt ?_ ?_; intro nx hnx) | (refine pf hnm fun nm hnm => ?_; try simp only [fmb] at hnm) | (refine pm hnm fun nm hnm => ?_; try simp only [fmb] at hnm)); try (simp (maxSteps := 2000000) (disch := omega) only [ev, ↓evp, PV.cells, PV.one, PV.mem?, Value.cells, simprocAttr, hnm, Tryd.tf0, Tryd.tf3, Tryd.tf5, Tryd.tf9, Tryd.tf37, Tryd.call45, Tryd.call46, hone, hl2, tk]))
    | ((with_reducible first | apply W_block | apply W_scope | apply WL_nil | apply W_label | apply W_skip | apply W_exit | apply W_ret | apply popsD_done | exact popsD_stop) <;> try simp only [kks, simprocAttr])
    | (with_reducible apply hnx; clear hnx nx)
    | (with_reducible refine And.intro (by omega) ?_)
    | (with_reducible refine And.intro ?_ ?_)
    | (with_reducible refine pe (c1) ?_)
    | (with_reducible refine pe (c2) ?_)
    | (clear hnx nx; with_reducible apply hnx; clear hnx nx)
    | (clear hnx nx; clear hnx nx; with_reducible apply hnx; clear hnx nx))
  all_goals first
    | exact rfl
    | (exfalso
       omega)
    | (refine hfin _ _ ?_
       exact Fin_dig (n := nm) (by simp only [fr_getD_cons, Nat.reduceEqDiff, Nat.reduceLT, ↓reduceIte]) (by simp [look, hnm]) htl ⟨rfl, rfl⟩)
theorem Fin_digH {x : Tmp} {n : Int} {f : List UInt8} {R : PV → Heap → Prop} {σ : PState} {H : Heap} (hx : σ.frame.getD x .junk = .ptr n 0) (hl : look σ.heap n = some ⟨37, false, 0, f.map pbyte⟩) (hf : f.length = 16)
    (h2 : Sub H σ.heap) (h3 : R (.agg (f.map pbyte)) H) : Fin Tryd.prog [.cell x 37] R .ret σ := by
  have hone := all_one_byte f
  have htk : List.take 16 (f.map pbyte) = f.map pbyte := List.take_of_length_le (by rw [List.length_map]; omega)
  refine Fin_cell (res := .agg (f.map pbyte)) Tryd.tf37 (n := n) (off := 0) (o := ⟨37, false, 0, f.map pbyte⟩) hx hl ?_ h2 h3
  simp [pload, hf, htk, hone]
/-- The key of a node. -/
@[reducible] def keyV (l k : Nat) : Value := .agg #[.int .i64 l, .int .i64 k]
/-- The cells of the memory of nodes. -/
def memC (seed : List UInt8) (T : List (Nat × Nat)) : List PV := T.map fun x => .ent (.val (keyV x.1 x.2)) (.agg ((nodeV seed x.1 x.2).map pbyte))
theorem vsame_key (l k l' k' : Nat) : vsame (keyV l k) (keyV l' k') = some (decide ((l, k) = (l', k'))) := by
  simp only [vsame, keyV, List.toList_toArray, vsames, if_true, Option.some.injEq, Bool.and_true]
  rw [Bool.eq_iff_iff]
  simp only [Bool.and_eq_true, beq_iff_eq, decide_eq_true_eq, Prod.mk.injEq]
  omega
theorem mfind_mem (seed : List UInt8) (l k : Nat) : ∀ (T : List (Nat × Nat)) (i : Nat), (l, k) ∈ T → ∃ j, mfind (keyV l k) (memC seed T) i = some (some (i + j, .agg ((nodeV seed l k).map pbyte))) ∧ T[j]? = some (l, k)
  | [], _, h => absurd h (by simp)
  | x :: T, i, h => by
    obtain ⟨l', k'⟩ := x
    by_cases hx : (l, k) = (l', k')
    · cases hx
      refine ⟨0, ?_, rfl⟩
      simp only [memC, List.map_cons, mfind, vsame_key, decide_true, Nat.add_zero]
    · obtain ⟨j, h1, h2⟩ := mfind_mem seed l k T (i + 1) (by
        rcases List.mem_cons.1 h with h | h
        · exact absurd h hx
        · exact h)
      refine ⟨j + 1, ?_, by simpa using h2⟩
      simp only [memC, List.map_cons, mfind, vsame_key, decide_eq_false hx]
      rw [show i + (j + 1) = i + 1 + j by omega]
      exact h1
theorem mfind_not (seed : List UInt8) (l k : Nat) : ∀ (T : List (Nat × Nat)) (i : Nat), (l, k) ∉ T → mfind (keyV l k) (memC seed T) i = some none
  | [], _, _ => rfl
  | x :: T, i, h => by
    obtain ⟨l', k'⟩ := x
    have hx : ¬ (l, k) = (l', k') := fun e => h (e ▸ .head _)
    have ih := mfind_not seed l k T (i + 1) fun e => h (.tail _ e)
    simp only [memC, List.map_cons, mfind, vsame_key, decide_eq_false hx]
    exact ih
theorem memC_set (seed : List UInt8) (l k j : Nat) (T : List (Nat × Nat)) (h : T[j]? = some (l, k)) : (memC seed T).set j (.ent (.val (keyV l k)) (.agg ((nodeV seed l k).map pbyte))) = memC seed T := by
  refine List.ext_getElem? fun i => ?_
  rw [List.getElem?_set]
  split
  · rename_i e
    subst e
    have hj : (memC seed T)[j]? = some (.ent (.val (keyV l k)) (.agg ((nodeV seed l k).map pbyte))) := by simp [memC, h]
    have : j < (memC seed T).length := by
      rcases Nat.lt_or_ge j (memC seed T).length with h1 | h1
      · exact h1
      · rw [List.getElem?_eq_none h1] at hj
        cases hj
    rw [if_pos this, hj]
  · rfl
theorem memC_app (seed : List UInt8) (l k : Nat) (T : List (Nat × Nat)) : memC seed T ++ [.ent (.val (keyV l k)) (.agg ((nodeV seed l k).map pbyte))] = memC seed (T ++ [(l, k)]) := by
  simp [memC]
/-- What the function that nodes returns works on: itself, the memory, the seed. -/
@[reducible] def HM (a m M s : Int) (seed : List UInt8) (T : List (Nat × Nat)) : Heap :=
  [(a, ⟨90, false, 0, [.func 65 [.ptr m 0, .ptr s 0, .ptr a 0]]⟩), (m, ⟨118, false, 0, [.mp M]⟩), (M, ⟨118, false, 0, memC seed T⟩), (s, ⟨9, false, 0, [pstr seed]⟩)]
section
variable {G : Globs} {I : List Int}
end
end Go.PM

namespace Go.PM
open Go.Proofs
attribute [local irreducible] W PCalls pcall pcallI WL
theorem HM_ne {a m M s : Int} {seed : List UInt8} {T : List (Nat × Nat)} (nd : (names (HM a m M s seed T)).Nodup) :
    (a = m) = False ∧ (m = a) = False ∧ (a = M) = False ∧ (M = a) = False ∧ (a = s) = False ∧ (s = a) = False ∧ (m = M) = False ∧ (M = m) = False ∧ (m = s) = False ∧ (s = m) = False ∧ (M = s) = False ∧ (s = M) = False := by
  simp only [names, List.map_cons, List.map_nil, List.nodup_cons, List.mem_cons, List.not_mem_nil, or_false, not_or] at nd
  obtain ⟨⟨n1, n2, n3⟩, ⟨n4, n5⟩, n6, -⟩ := nd
  exact ⟨eq_false n1, eq_false fun e => n1 e.symm, eq_false n2, eq_false fun e => n2 e.symm, eq_false n3, eq_false fun e => n3 e.symm, eq_false n4, eq_false fun e => n4 e.symm, eq_false n5, eq_false fun e => n5 e.symm, eq_false n6, eq_false fun e => n6 e.symm⟩
/-- What a call of the function must answer. -/
@[reducible] def NRes (a m M s : Int) (seed : List UInt8) (l k : Nat) (res : PV) (H : Heap) : Prop := res = .agg ((nodeV seed l k).map pbyte) ∧ ∃ T', H = HM a m M s seed T'
set_option maxRecDepth 100000 in
set_option maxHeartbeats 8000000 in
theorem node_hit (G : Globs) (seed : List UInt8) (a m M s : Int) (l k : Nat) (T : List (Nat × Nat)) (hm : (l, k) ∈ T) :
    PCalls Tryd.prog G 65 [pint .i64 l, pint .i64 k, .ptr m 0, .ptr s 0, .ptr a 0] (HM a m M s seed T) (NRes a m M s seed l k) := by
  refine PCalls.nd fun nd => ?_
  have hne := HM_ne nd
  have hvl := nodeV_len seed l k
  have hone := all_one_byte (nodeV seed l k)
  have hl2 : ((nodeV seed l k).map pbyte).length = 16 := by rw [List.length_map, hvl]
  have tk : List.take 16 ((nodeV seed l k).map pbyte) = (nodeV seed l k).map pbyte := List.take_of_length_le (by omega)
  obtain ⟨Z, hZ⟩ : ∃ Z, Z = List.replicate 16 (pint .u8 0) := ⟨_, rfl⟩
  have hZ2 : [pint .u8 0, pint .u8 0, pint .u8 0, pint .u8 0, pint .u8 0, pint .u8 0, pint .u8 0, pint .u8 0, pint .u8 0, pint .u8 0, pint .u8 0, pint .u8 0, pint .u8 0, pint .u8 0, pint .u8 0, pint .u8 0] = Z := by rw [hZ]; rfl
  have hZl : Z.length = 16 := by rw [hZ]; rfl
  have hZd : List.drop 16 Z = [] := List.drop_of_length_le (by omega)
  have hZo : Z.all PV.one = true := by rw [hZ]; rfl
  obtain ⟨j, hm1, hm2⟩ := mfind_mem seed l k T 0 hm
  rw [Nat.zero_add] at hm1
  have hfin2 : NRes a m M s seed l k (.agg ((nodeV seed l k).map pbyte)) (HM a m M s seed T) := ⟨rfl, T, rfl⟩
  have hR : ∀ res H, NRes a m M s seed l k res H → NRes a m M s seed l k res H := fun _ _ h => h
  generalize NRes a m M s seed l k = R at *
  generalize nodeV seed l k = x at *
  (refine PCalls_f Tryd.func65 rfl Tryd.ntmps65 Tryd.results65 (by simp) fun fin hfin => ?_; have hnm : True := trivial; simp only [ev, simprocAttr])
  repeat' (first
    | (with_reducible apply W_seq_k; intro nx hnx)
    | (with_reducible first | refine wr 2015 ?_ | refine wd (id := 7) 2015 3 (.op 0 true (.op 1 true (.op 2 true (.op 3 true (.op 4 true (.op 7 true (.op 8 true (.alt 5 false (.alt 6 true (.alt 9 true (.op 10 true (.op 11 true (.op 12 false (.op 13 false (.op 14 false (.done)))))) .stop) (.alt 9 true (.op 10 true (.op 11 true (.alt 6 true (.op 12 false (.op 13 false (.op 14 false (.done)))) .stop))) .stop)) (.alt 6 true (.alt 5 false (.alt 9 true (.op 10 true (.op 11 true (.op 12 false (.op 13 false (.op 14 false (.done)))))) .stop) (.alt 9 true (.op 10 true (.op 11 true (.op 5 false (.op 12 false (.op 13 false (.op 14 false (.done))))))) .stop)) (.alt 9 true (.op 10 true (.op 11 true (.alt 5 false (.alt 6 true (.op 12 false (.op 13 false (.op 14 false (.done)))) .stop) (.alt 6 true (.op 5 false (.op 12 false (.op 13 false (.op 14 false (.done))))) .stop)))) .stop)))))))))) (by kernel_rfl) ?_)
    | ((with_reducible first | (apply WL_op; intro nx hnx) | refine Ev_out ?_ | refine wc ?_ | (apply popsD_op; intro nx hnx) | (refine popsD_alt ?_ ?_; intro nx hnx) | (refine pf hnm fun nm hnm => ?_; try simp only [fmb] at hnm) | (refine pm hnm fun nm hnm => ?_; try simp only [fmb] at hnm)); try (simp (maxSteps := 2000000) (disch := omega) only [ev, ↓evp, PV.cells, PV.one, PV.mem?, Value.cells, simprocAttr, hnm, Tryd.tf0, Tryd.tf1, Tryd.tf3, Tryd.tf4, Tryd.tf5, Tryd.tf37, Tryd.tf90, Tryd.tf109, Tryd.tf118, Tryd.tf119, Tryd.tf120, Tryd.call58, Tryd.call60, hne, hone, hl2, tk, hm1, hZ2, hZl, hZd, hZo]))
    | ((with_reducible first | apply W_block | apply W_scope | apply WL_nil | apply W_label | apply W_skip | apply W_exit | apply W_ret | apply popsD_done | exact popsD_stop) <;> try simp only [kks, simprocAttr])
    | (with_reducible apply pg <;> (intro hc; (try simp only [hcb, simprocAttr, ne_eq, forall_const] at hc); first | (exfalso; omega) | exact absurd trivial hc | skip))
    | (with_reducible apply hnx; clear hnx nx)
    | (with_reducible refine And.intro (by omega) ?_)
    | (with_reducible refine And.intro ?_ ?_)
    | (clear hnx nx; with_reducible apply hnx; clear hnx nx)
    | (clear hnx nx; clear hnx nx; with_reducible apply hnx; clear hnx nx))
  all_goals first
    | exact rfl
    | (exfalso
       omega)
    | (refine hfin _ _ ?_
       exact Fin_digH (n := _) (by simp only [fr_getD_cons, Nat.reduceEqDiff, Nat.reduceLT, ↓reduceIte]; rfl) (by simp [look, hnm]) hvl ⟨by simp, nd⟩ hfin2)
set_option maxRecDepth 100000 in
set_option maxHeartbeats 8000000 in
theorem node_zero (G : Globs) (hG : G 0 = .iptr (KS.map pw) 0) (seed : List UInt8) (hs : seed.length ≤ 4000) (a m M s : Int) (k : Nat) (hk : k ≤ 1000000) (T : List (Nat × Nat)) (hm : (0, k) ∉ T) :
    PCalls Tryd.prog G 65 [pint .i64 (0 : Nat), pint .i64 k, .ptr m 0, .ptr s 0, .ptr a 0] (HM a m M s seed T) (NRes a m M s seed 0 k) := by
  refine PCalls.nd fun nd => ?_
  have hne := HM_ne nd
  have hvl := nodeV_len seed 0 k
  have hone := all_one_byte (nodeV seed 0 k)
  have hl2 : ((nodeV seed 0 k).map pbyte).length = 16 := by rw [List.length_map, hvl]
  have tk : List.take 16 ((nodeV seed 0 k).map pbyte) = (nodeV seed 0 k).map pbyte := List.take_of_length_le (by omega)
  obtain ⟨Z, hZ⟩ : ∃ Z, Z = List.replicate 16 (pint .u8 0) := ⟨_, rfl⟩
  have hZ2 : [pint .u8 0, pint .u8 0, pint .u8 0, pint .u8 0, pint .u8 0, pint .u8 0, pint .u8 0, pint .u8 0, pint .u8 0, pint .u8 0, pint .u8 0, pint .u8 0, pint .u8 0, pint .u8 0, pint .u8 0, pint .u8 0] = Z := by rw [hZ]; rfl
  have hZl : Z.length = 16 := by rw [hZ]; rfl
  have hZd : List.drop 16 Z = [] := List.drop_of_length_le (by omega)
  have hZo : Z.all PV.one = true := by rw [hZ]; rfl
  have hm1 : mfind (.agg #[.int .i64 0, .int .i64 (k : Int)]) (memC seed T) 0 = some none := mfind_not seed 0 k T 0 hm
  have hap : memC seed T ++ [.ent (.val (.agg #[.int .i64 0, .int .i64 (k : Int)])) (.agg ((nodeV seed 0 k).map pbyte))] = memC seed (T ++ [(0, k)]) := memC_app seed 0 k T
  have hkR : inR (k : Int) := ⟨by omega, by omega⟩
  have c1 := leaf_c G hG 66 [.iptr [pint .i64 k] 0, .iptr [pstr seed] 0] (topF seed k) (fun c _ => topF_len _ _ _) (by kernel_rfl) (fun c hc => top_c G hG seed hs k hkR c hc)
  rw [show leafF (topF seed k) = nodeV seed 0 k from rfl] at c1
  have hfin2 : NRes a m M s seed 0 k (.agg ((nodeV seed 0 k).map pbyte)) (HM a m M s seed (T ++ [(0, k)])) := ⟨rfl, _, rfl⟩
  have hR : ∀ res H, NRes a m M s seed 0 k res H → NRes a m M s seed 0 k res H := fun _ _ h => h
  generalize NRes a m M s seed 0 k = R at *
  generalize nodeV seed 0 k = x at *
  (refine PCalls_f Tryd.func65 rfl Tryd.ntmps65 Tryd.results65 (by simp) fun fin hfin => ?_; have hnm : True := trivial; simp only [ev, simprocAttr])
  repeat' (first
    | (with_reducible apply W_seq_k; intro nx hnx)
    | (with_reducible first | refine wr 2015 ?_ | refine wd (id := 7) 2015 3 (.op 0 true (.op 1 true (.op 2 true (.op 3 true (.op 4 true (.op 7 true (.op 8 true (.alt 5 false (.alt 6 true (.alt 9 true (.op 10 true (.op 11 true (.op 12 false (.op 13 false (.op 14 false (.done)))))) .stop) (.alt 9 true (.op 10 true (.op 11 true (.alt 6 true (.op 12 false (.op 13 false (.op 14 false (.done)))) .stop))) .stop)) (.alt 6 true (.alt 5 false (.alt 9 true (.op 10 true (.op 11 true (.op 12 false (.op 13 false (.op 14 false (.done)))))) .stop) (.alt 9 true (.op 10 true (.op 11 true (.op 5 false (.op 12 false (.op 13 false (.op 14 false (.done))))))) .stop)) (.alt 9 true (.op 10 true (.op 11 true (.alt 5 false (.alt 6 true (.op 12 false (.op 13 false (.op 14 false (.done)))) .stop) (.alt 6 true (.op 5 false (.op 12 false (.op 13 false (.op 14 false (.done))))) .stop)))) .stop)))))))))) (by kernel_rfl) ?_)
    | ((with_reducible first | (apply WL_op; intro nx hnx) | refine Ev_out ?_ | refine wc ?_ | (apply popsD_op; intro nx hnx) | (refine popsD_alt ?_ ?_; intro nx hnx) | (refine pf hnm fun nm hnm => ?_; try simp only [fmb] at hnm) | (refine pm hnm fun nm hnm => ?_; try simp only [fmb] at hnm)); try (simp (maxSteps := 2000000) (disch := omega) only [ev, ↓evp, PV.cells, PV.one, PV.mem?, Value.cells, simprocAttr, hnm, Tryd.tf0, Tryd.tf1, Tryd.tf3, Tryd.tf4, Tryd.tf5, Tryd.tf37, Tryd.tf90, Tryd.tf109, Tryd.tf118, Tryd.tf119, Tryd.tf120, Tryd.call58, Tryd.call60, hne, hm1, hZ2, hZl, hZd, hZo]))
    | ((with_reducible first | apply W_block | apply W_scope | apply WL_nil | apply W_label | apply W_skip | apply W_exit | apply W_ret | apply popsD_done | exact popsD_stop) <;> try simp only [kks, simprocAttr])
    | (with_reducible apply pg <;> (intro hc; (try simp only [hcb, simprocAttr, ne_eq, forall_const] at hc); first | (exfalso; omega) | exact absurd trivial hc | skip))
    | (with_reducible apply hnx; clear hnx nx)
    | (with_reducible refine And.intro (by omega) ?_)
    | (with_reducible refine And.intro ?_ ?_)
    | (clear hnx nx; with_reducible apply hnx; clear hnx nx)
    | (clear hnx nx; clear hnx nx; with_reducible apply hnx; clear hnx nx))
  obtain ⟨N10, hN10⟩ : ∃ N, N = nm := ⟨_, rfl⟩
  subst hN10
  obtain ⟨N8, hN8⟩ : ∃ N, N = nm := ⟨_, rfl⟩
  subst hN8
  obtain ⟨N7, hN7⟩ : ∃ N, N = nm := ⟨_, rfl⟩
  subst hN7
  obtain ⟨N6, hN6⟩ : ∃ N, N = nm := ⟨_, rfl⟩
  subst hN6
  refine pcall_lend2 (R := fun res H => res = .agg (x.map pbyte) ∧ H = []) N6 s ⟨3, false, 0, [pint .i64 k]⟩ ⟨9, false, 0, [pstr seed]⟩ (by simp [look, hnm, hne]) (by simp [look, hnm, hne]) ?_ ?_
  · have e : ([PV.func 66 [.ptr N6 0, .ptr s 0]].map fun p => frz s [pstr seed] (frz N6 [pint .i64 k] p)) = [.func 66 [.iptr [pint .i64 k] 0, .iptr [pstr seed] 0]] := by
      simp [frz, frz1, hnm, hne]
    rw [e]
    exact c1
  · rintro _ _ ⟨rfl, rfl⟩
    refine ⟨rfl, Flat_all fun c hc => ?_, ?_⟩
    · obtain ⟨b, _, rfl⟩ := List.mem_map.1 hc
      exact ⟨_, rfl⟩
    refine Ev_in ?_
    repeat' (first
    | (with_reducible apply W_seq_k; intro nx hnx)
    | (with_reducible first | refine wr 2015 ?_ | refine wd (id := 7) 2015 3 (.op 0 true (.op 1 true (.op 2 true (.op 3 true (.op 4 true (.op 7 true (.op 8 true (.alt 5 false (.alt 6 true (.alt 9 true (.op 10 true (.op 11 true (.op 12 false (.op 13 false (.op 14 false (.done)))))) .stop) (.alt 9 true (.op 10 true (.op 11 true (.alt 6 true (.op 12 false (.op 13 false (.op 14 false (.done)))) .stop))) .stop)) (.alt 6 true (.alt 5 false (.alt 9 true (.op 10 true (.op 11 true (.op 12 false (.op 13 false (.op 14 false (.done)))))) .stop) (.alt 9 true (.op 10 true (.op 11 true (.op 5 false (.op 12 false (.op 13 false (.op 14 false (.done))))))) .stop)) (.alt 9 true (.op 10 true (.op 11 true (.alt 5 false (.alt 6 true (.op 12 false (.op 13 false (.op 14 false (.done)))) .stop) (.alt 6 true (.op 5 false (.op 12 false (.op 13 false (.op 14 false (.done))))) .stop)))) .stop)))))))))) (by kernel_rfl) ?_)
    | ((with_reducible first | (apply WL_op; intro nx hnx) | refine Ev_out ?_ | refine wc ?_ | (apply popsD_op; intro nx hnx) | (refine popsD_alt ?_ ?_; intro nx hnx) | (refine pf hnm fun nm hnm => ?_; try simp only [fmb] at hnm) | (refine pm hnm fun nm hnm => ?_; try simp only [fmb] at hnm)); try (simp (maxSteps := 2000000) (disch := omega) only [ev, ↓evp, PV.cells, PV.one, PV.mem?, Value.cells, simprocAttr, hnm, Tryd.tf0, Tryd.tf1, Tryd.tf3, Tryd.tf4, Tryd.tf5, Tryd.tf37, Tryd.tf90, Tryd.tf109, Tryd.tf118, Tryd.tf119, Tryd.tf120, Tryd.call58, Tryd.call60, hne, hone, hl2, tk, hm1, hap, hZ2, hZl, hZd, hZo]))
    | ((with_reducible first | apply W_block | apply W_scope | apply WL_nil | apply W_label | apply W_skip | apply W_exit | apply W_ret | apply popsD_done | exact popsD_stop) <;> try simp only [kks, simprocAttr])
    | (with_reducible apply pg <;> (intro hc; (try simp only [hcb, simprocAttr, ne_eq, forall_const] at hc); first | (exfalso; omega) | exact absurd trivial hc | skip))
    | (with_reducible apply hnx; clear hnx nx)
    | (with_reducible refine And.intro (by omega) ?_)
    | (with_reducible refine And.intro ?_ ?_)
    | (clear hnx nx; with_reducible apply hnx; clear hnx nx)
    | (clear hnx nx; clear hnx nx; with_reducible apply hnx; clear hnx nx))
    all_goals first
      | exact rfl
      | (exfalso
         omega)
      | (refine hfin _ _ ?_
         exact Fin_digH (n := N7) (H := HM a m M s seed (T ++ [(0, k)])) (by simp only [fr_getD_cons, Nat.reduceEqDiff, Nat.reduceLT, ↓reduceIte]) (by simp [look, hnm]) hvl ⟨by simp, nd⟩ hfin2)
set_option maxRecDepth 100000 in
set_option maxHeartbeats 8000000 in
theorem node_succ (G : Globs) (hG : G 0 = .iptr (KS.map pw) 0) (seed : List UInt8) (a m M s : Int) (l k n k1 k2 : Nat) (hl : l ≤ 5) (hk : k ≤ 1000000) (hn : n = l + 1) (hk1 : k1 = 2 * k) (hk2 : k2 = 2 * k + 1) (T : List (Nat × Nat)) (hm : (n, k) ∉ T)
    (ih1 : PCalls Tryd.prog G 65 [pint .i64 l, pint .i64 k1, .ptr m 0, .ptr s 0, .ptr a 0] (HM a m M s seed T) (NRes a m M s seed l k1))
    (ih2 : ∀ T', PCalls Tryd.prog G 65 [pint .i64 l, pint .i64 k2, .ptr m 0, .ptr s 0, .ptr a 0] (HM a m M s seed T') (NRes a m M s seed l k2)) :
    PCalls Tryd.prog G 65 [pint .i64 n, pint .i64 k, .ptr m 0, .ptr s 0, .ptr a 0] (HM a m M s seed T) (NRes a m M s seed n k) := by
  refine PCalls.nd fun nd => ?_
  have hne := HM_ne nd
  have hvl := nodeV_len seed n k
  have hone := all_one_byte (nodeV seed n k)
  have hl2 : ((nodeV seed n k).map pbyte).length = 16 := by rw [List.length_map, hvl]
  have tk : List.take 16 ((nodeV seed n k).map pbyte) = (nodeV seed n k).map pbyte := List.take_of_length_le (by omega)
  obtain ⟨Z, hZ⟩ : ∃ Z, Z = List.replicate 16 (pint .u8 0) := ⟨_, rfl⟩
  have hZ2 : [pint .u8 0, pint .u8 0, pint .u8 0, pint .u8 0, pint .u8 0, pint .u8 0, pint .u8 0, pint .u8 0, pint .u8 0, pint .u8 0, pint .u8 0, pint .u8 0, pint .u8 0, pint .u8 0, pint .u8 0, pint .u8 0] = Z := by rw [hZ]; rfl
  have hZl : Z.length = 16 := by rw [hZ]; rfl
  have hZd : List.drop 16 Z = [] := List.drop_of_length_le (by omega)
  have hZo : Z.all PV.one = true := by rw [hZ]; rfl
  have hm1 : mfind (.agg #[.int .i64 (n : Int), .int .i64 (k : Int)]) (memC seed T) 0 = some none := mfind_not seed n k T 0 hm
  have hap : ∀ T', memC seed T' ++ [.ent (.val (.agg #[.int .i64 (n : Int), .int .i64 (k : Int)])) (.agg ((nodeV seed n k).map pbyte))] = memC seed (T' ++ [(n, k)]) := memC_app seed n k
  have hmN : ∀ T', (n, k) ∉ T' → mfind (.agg #[.int .i64 (n : Int), .int .i64 (k : Int)]) (memC seed T') 0 = some none := fun T' h => mfind_not seed n k T' 0 h
  have hmY : ∀ T', (n, k) ∈ T' → ∃ j, mfind (.agg #[.int .i64 (n : Int), .int .i64 (k : Int)]) (memC seed T') 0 = some (some (j, .agg ((nodeV seed n k).map pbyte))) ∧
      (memC seed T').set j (.ent (.val (.agg #[.int .i64 (n : Int), .int .i64 (k : Int)])) (.agg ((nodeV seed n k).map pbyte))) = memC seed T' := fun T' h => by
    obtain ⟨j, h1, h2⟩ := mfind_mem seed n k T' 0 h
    rw [Nat.zero_add] at h1
    exact ⟨j, h1, memC_set seed n k j T' h2⟩
  have c1 := node_c G hG (nodeV seed l k1) (nodeV seed l k2) (nodeV_len _ _ _) (nodeV_len _ _ _)
  rw [show nodeF (nodeV seed l k1) (nodeV seed l k2) = nodeV seed n k by rw [hn, hk1, hk2]; rfl] at c1
  have hfin2 : ∀ T', NRes a m M s seed n k (.agg ((nodeV seed n k).map pbyte)) (HM a m M s seed T') := fun T' => ⟨rfl, T', rfl⟩
  have g0 : ¬ n = 0 := by omega
  have hca : callable Tryd.prog 65 = true := by kernel_rfl
  have g1 : (n : Int) - 1 = (l : Int) := by omega
  have g2 : 2 * (k : Int) = (k1 : Int) := by omega
  have g3 : (k1 : Int) + 1 = (k2 : Int) := by omega
  generalize NRes a m M s seed n k = R at *
  generalize nodeV seed n k = x at *
  (refine PCalls_f Tryd.func65 rfl Tryd.ntmps65 Tryd.results65 (by simp) fun fin hfin => ?_; have hnm : True := trivial; simp only [ev, simprocAttr])
  repeat' (first
    | (with_reducible apply W_seq_k; intro nx hnx)
    | (with_reducible first | refine wr 2015 ?_ | refine wd (id := 7) 2015 3 (.op 0 true (.op 1 true (.op 2 true (.op 3 true (.op 4 true (.op 7 true (.op 8 true (.alt 5 false (.alt 6 true (.alt 9 true (.op 10 true (.op 11 true (.op 12 false (.op 13 false (.op 14 false (.done)))))) .stop) (.alt 9 true (.op 10 true (.op 11 true (.alt 6 true (.op 12 false (.op 13 false (.op 14 false (.done)))) .stop))) .stop)) (.alt 6 true (.alt 5 false (.alt 9 true (.op 10 true (.op 11 true (.op 12 false (.op 13 false (.op 14 false (.done)))))) .stop) (.alt 9 true (.op 10 true (.op 11 true (.op 5 false (.op 12 false (.op 13 false (.op 14 false (.done))))))) .stop)) (.alt 9 true (.op 10 true (.op 11 true (.alt 5 false (.alt 6 true (.op 12 false (.op 13 false (.op 14 false (.done)))) .stop) (.alt 6 true (.op 5 false (.op 12 false (.op 13 false (.op 14 false (.done))))) .stop)))) .stop)))))))))) (by kernel_rfl) ?_)
    | ((with_reducible first | (apply WL_op; intro nx hnx) | refine Ev_out ?_ | refine wc ?_ | (apply popsD_op; intro nx hnx) | (refine popsD_alt ?_ ?_; intro nx hnx) | (refine pf hnm fun nm hnm => ?_; try simp only [fmb] at hnm) | (refine pm hnm fun nm hnm => ?_; try simp only [fmb] at hnm)); try (simp (maxSteps := 2000000) (disch := omega) only [ev, ↓evp, PV.cells, PV.one, PV.mem?, Value.cells, simprocAttr, hnm, Tryd.tf0, Tryd.tf1, Tryd.tf3, Tryd.tf4, Tryd.tf5, Tryd.tf37, Tryd.tf90, Tryd.tf109, Tryd.tf118, Tryd.tf119, Tryd.tf120, Tryd.call58, Tryd.call60, hne, hvl, hone, hl2, tk, hm1, hZ2, hZl, hZd, hZo, hca, g0, g1, g2, g3]))
    | ((with_reducible first | apply W_block | apply W_scope | apply WL_nil | apply W_label | apply W_skip | apply W_exit | apply W_ret | apply popsD_done | exact popsD_stop) <;> try simp only [kks, simprocAttr])
    | (with_reducible apply pg <;> (intro hc; (try simp only [hcb, simprocAttr, ne_eq, forall_const] at hc); first | (exfalso; omega) | exact absurd trivial hc | skip))
    | (with_reducible apply hnx; clear hnx nx)
    | (with_reducible refine And.intro (by omega) ?_)
    | (with_reducible refine And.intro ?_ ?_)
    | (with_reducible refine pe (c1) ?_)
    | ((refine pcall_mid [_, _, _, _] (HM a m M s seed _) [] rfl ih1 ?_; rintro _ _ ⟨rfl, T1, rfl⟩; refine Ev_in ?_))
    | ((refine pcall_mid [_, _, _, _] (HM a m M s seed _) [] rfl (ih2 _) ?_; rintro _ _ ⟨rfl, T2, rfl⟩; refine Ev_in ?_))
    | (clear hnx nx; with_reducible apply hnx; clear hnx nx)
    | (clear hnx nx; clear hnx nx; with_reducible apply hnx; clear hnx nx))
  all_goals first
    | exact rfl
    | (by_cases hm2 : (n, k) ∈ T2
       · obtain ⟨j, y1, y2⟩ := hmY T2 hm2
         simp only [y1]
         repeat' (first
    | (with_reducible apply W_seq_k; intro nx hnx)
    | (with_reducible first | refine wr 2015 ?_ | refine wd (id := 7) 2015 3 (.op 0 true (.op 1 true (.op 2 true (.op 3 true (.op 4 true (.op 7 true (.op 8 true (.alt 5 false (.alt 6 true (.alt 9 true (.op 10 true (.op 11 true (.op 12 false (.op 13 false (.op 14 false (.done)))))) .stop) (.alt 9 true (.op 10 true (.op 11 true (.alt 6 true (.op 12 false (.op 13 false (.op 14 false (.done)))) .stop))) .stop)) (.alt 6 true (.alt 5 false (.alt 9 true (.op 10 true (.op 11 true (.op 12 false (.op 13 false (.op 14 false (.done)))))) .stop) (.alt 9 true (.op 10 true (.op 11 true (.op 5 false (.op 12 false (.op 13 false (.op 14 false (.done))))))) .stop)) (.alt 9 true (.op 10 true (.op 11 true (.alt 5 false (.alt 6 true (.op 12 false (.op 13 false (.op 14 false (.done)))) .stop) (.alt 6 true (.op 5 false (.op 12 false (.op 13 false (.op 14 false (.done))))) .stop)))) .stop)))))))))) (by kernel_rfl) ?_)
    | ((with_reducible first | (apply WL_op; intro nx hnx) | refine Ev_out ?_ | refine wc ?_ | (apply popsD_op; intro nx hnx) | (refine popsD_alt ?_ ?_; intro nx hnx) | (refine pf hnm fun nm hnm => ?_; try simp only [fmb] at hnm) | (refine pm hnm fun nm hnm => ?_; try simp only [fmb] at hnm)); try (simp (maxSteps := 2000000) (disch := omega) only [ev, ↓evp, PV.cells, PV.one, PV.mem?, Value.cells, simprocAttr, hnm, Tryd.tf0, Tryd.tf1, Tryd.tf3, Tryd.tf4, Tryd.tf5, Tryd.tf37, Tryd.tf90, Tryd.tf109, Tryd.tf118, Tryd.tf119, Tryd.tf120, Tryd.call58, Tryd.call60, hne, hone, hl2, tk, y2, hZ2, hZl, hZd, hZo]))
    | ((with_reducible first | apply W_block | apply W_scope | apply WL_nil | apply W_label | apply W_skip | apply W_exit | apply W_ret | apply popsD_done | exact popsD_stop) <;> try simp only [kks, simprocAttr])
    | (with_reducible apply pg <;> (intro hc; (try simp only [hcb, simprocAttr, ne_eq, forall_const] at hc); first | (exfalso; omega) | exact absurd trivial hc | skip))
    | (with_reducible apply hnx; clear hnx nx)
    | (with_reducible refine And.intro (by omega) ?_)
    | (with_reducible refine And.intro ?_ ?_)
    | (clear hnx nx; with_reducible apply hnx; clear hnx nx)
    | (clear hnx nx; clear hnx nx; with_reducible apply hnx; clear hnx nx))
         all_goals first
           | exact rfl
           | (refine hfin _ _ ?_
              exact Fin_digH (n := _) (H := HM a m M s seed T2) (by simp only [fr_getD_cons, Nat.reduceEqDiff, Nat.reduceLT, ↓reduceIte]; rfl) (by simp [look, hnm]) hvl ⟨by simp, nd⟩ (hfin2 T2))
       · have y1 := hmN T2 hm2
         simp only [y1]
         have y2 := hap T2
         repeat' (first
    | (with_reducible apply W_seq_k; intro nx hnx)
    | (with_reducible first | refine wr 2015 ?_ | refine wd (id := 7) 2015 3 (.op 0 true (.op 1 true (.op 2 true (.op 3 true (.op 4 true (.op 7 true (.op 8 true (.alt 5 false (.alt 6 true (.alt 9 true (.op 10 true (.op 11 true (.op 12 false (.op 13 false (.op 14 false (.done)))))) .stop) (.alt 9 true (.op 10 true (.op 11 true (.alt 6 true (.op 12 false (.op 13 false (.op 14 false (.done)))) .stop))) .stop)) (.alt 6 true (.alt 5 false (.alt 9 true (.op 10 true (.op 11 true (.op 12 false (.op 13 false (.op 14 false (.done)))))) .stop) (.alt 9 true (.op 10 true (.op 11 true (.op 5 false (.op 12 false (.op 13 false (.op 14 false (.done))))))) .stop)) (.alt 9 true (.op 10 true (.op 11 true (.alt 5 false (.alt 6 true (.op 12 false (.op 13 false (.op 14 false (.done)))) .stop) (.alt 6 true (.op 5 false (.op 12 false (.op 13 false (.op 14 false (.done))))) .stop)))) .stop)))))))))) (by kernel_rfl) ?_)
    | ((with_reducible first | (apply WL_op; intro nx hnx) | refine Ev_out ?_ | refine wc ?_ | (apply popsD_op; intro nx hnx) | (refine popsD_alt ?_ ?_; intro nx hnx) | (refine pf hnm fun nm hnm => ?_; try simp only [fmb] at hnm) | (refine pm hnm fun nm hnm => ?_; try simp only [fmb] at hnm)); try (simp (maxSteps := 2000000) (disch := omega) only [ev, ↓evp, PV.cells, PV.one, PV.mem?, Value.cells, simprocAttr, hnm, Tryd.tf0, Tryd.tf1, Tryd.tf3, Tryd.tf4, Tryd.tf5, Tryd.tf37, Tryd.tf90, Tryd.tf109, Tryd.tf118, Tryd.tf119, Tryd.tf120, Tryd.call58, Tryd.call60, hne, hone, hl2, tk, y2, hZ2, hZl, hZd, hZo]))
    | ((with_reducible first | apply W_block | apply W_scope | apply WL_nil | apply W_label | apply W_skip | apply W_exit | apply W_ret | apply popsD_done | exact popsD_stop) <;> try simp only [kks, simprocAttr])
    | (with_reducible apply pg <;> (intro hc; (try simp only [hcb, simprocAttr, ne_eq, forall_const] at hc); first | (exfalso; omega) | exact absurd trivial hc | skip))
    | (with_reducible apply hnx; clear hnx nx)
    | (with_reducible refine And.intro (by omega) ?_)
    | (with_reducible refine And.intro ?_ ?_)
    | (clear hnx nx; with_reducible apply hnx; clear hnx nx)
    | (clear hnx nx; clear hnx nx; with_reducible apply hnx; clear hnx nx))
         all_goals first
           | exact rfl
           | (refine hfin _ _ ?_
              exact Fin_digH (n := _) (H := HM a m M s seed (T2 ++ [(n, k)])) (by simp only [fr_getD_cons, Nat.reduceEqDiff, Nat.reduceLT, ↓reduceIte]; rfl) (by simp [look, hnm]) hvl ⟨by simp, nd⟩ (hfin2 _)))
theorem node_at (G : Globs) (hG : G 0 = .iptr (KS.map pw) 0) (seed : List UInt8) (hs : seed.length ≤ 4000) (a m M s : Int) :
    ∀ (l k : Nat) (T : List (Nat × Nat)), l ≤ 6 → (k + 1) * 2 ^ l ≤ 1000000 → PCalls Tryd.prog G 65 [pint .i64 l, pint .i64 k, .ptr m 0, .ptr s 0, .ptr a 0] (HM a m M s seed T) (NRes a m M s seed l k)
  | l, k, T, hl, hk => by
    by_cases hm : (l, k) ∈ T
    · exact node_hit G seed a m M s l k T hm
    · match l, hl, hk, hm with
      | 0, hl, hk, hm => exact node_zero G hG seed hs a m M s k (by omega) T hm
      | l + 1, hl, hk, hm =>
        have hp : 0 < 2 ^ l := Nat.pow_pos (by omega)
        have hb : (2 * k + 1 + 1) * 2 ^ l ≤ 1000000 := by
          rw [Nat.pow_succ, Nat.mul_comm (2 ^ l) 2, ← Nat.mul_assoc] at hk
          rw [show 2 * k + 1 + 1 = (k + 1) * 2 by omega]
          exact hk
        have hb2 : (2 * k + 1) * 2 ^ l ≤ 1000000 := Nat.le_trans (Nat.mul_le_mul_right _ (by omega)) hb
        have hk6 : k ≤ 1000000 := by
          have : 2 * k + 1 + 1 ≤ (2 * k + 1 + 1) * 2 ^ l := Nat.le_mul_of_pos_right _ hp
          omega
        exact node_succ G hG seed a m M s l k (l + 1) (2 * k) (2 * k + 1) (by omega) hk6 rfl rfl rfl T hm (node_at G hG seed hs a m M s l (2 * k) T (by omega) hb2) (fun T' => node_at G hG seed hs a m M s l (2 * k + 1) T' (by omega) hb)
end Go.PM

namespace Go.PM
open Go.Proofs
attribute [local irreducible] W PCalls pcall pcallI WL
/-- What Public answers. -/
def pubF (seed : List UInt8) (n : Int) : List UInt8 × Int :=
  if seed.length = 32 ∧ 0 ≤ n ∧ n ≤ 6 then (nodeV seed n.toNat 0, 0) else (List.replicate 16 0, 1)
theorem pubF_len (seed : List UInt8) (n : Int) : (pubF seed n).1.length = 16 := by
  unfold pubF
  split
  · exact nodeV_len _ _ _
  · simp
/-- The end of a function whose results are a digest that lies in a cell, and a number. -/
theorem Fin_dig2 {x y : Tmp} {n : Int} {f : List UInt8} {e : PV} {R : PV → Heap → Prop} {σ : PState} (hx : σ.frame.getD x .junk = .ptr n 0) (hl : look σ.heap n = some ⟨37, false, 0, f.map pbyte⟩) (hf : f.length = 16)
    (hy : σ.frame.getD y .junk = e) (h3 : R (.tuple [.agg (f.map pbyte), e]) []) : Fin Tryd.prog [.cell x 37, .tmp y] R .ret σ := by
  have hone := all_one_byte f
  have htk : List.take 16 (f.map pbyte) = f.map pbyte := List.take_of_length_le (by rw [List.length_map]; omega)
  refine Fin_ret (H := []) (show PResult Tryd.prog σ [.cell x 37, .tmp y] (.tuple [.agg (f.map pbyte), e]) from ⟨[.agg (f.map pbyte), e], ⟨?_, hy.symm, trivial⟩, rfl⟩) (Sub_nil _) h3
  show PRes Tryd.prog σ (.cell x 37) (.agg (f.map pbyte))
  simp only [PRes, Tryd.tf37, hx, hl]
  simp [pload, hf, htk, hone]
end Go.PM

namespace Go.PM
open Go.Proofs
attribute [local irreducible] W PCalls pcall pcallI WL
set_option maxRecDepth 100000 in
set_option maxHeartbeats 8000000 in
theorem nodes_c (G : Globs) (seed : List UInt8) : PCalls Tryd.prog G 41 [pstr seed] [] (fun res H => ∃ a m M s, res = .func 65 [.ptr m 0, .ptr s 0, .ptr a 0] ∧ H = HM a m M s seed []) := by
  (refine PCalls_f Tryd.func41 rfl Tryd.ntmps41 Tryd.results41 (by simp) fun fin hfin => ?_; have hnm : True := trivial; simp only [ev, simprocAttr])
  repeat' (first
    | (with_reducible apply W_seq_k; intro nx hnx)
    | (with_reducible first | refine wr 31 ?_)
    | ((with_reducible first | (apply WL_op; intro nx hnx) | refine Ev_out ?_ | refine wc ?_ | (refine pf hnm fun nm hnm => ?_; try simp only [fmb] at hnm) | (refine pm hnm fun nm hnm => ?_; try simp only [fmb] at hnm)); try (simp (maxSteps := 2000000) (disch := omega) only [ev, ↓evp, PV.cells, PV.one, PV.mem?, Value.cells, simprocAttr, hnm, Tryd.tf0, Tryd.tf9, Tryd.tf90, Tryd.tf118]))
    | ((with_reducible first | apply W_block | apply W_scope | apply WL_nil | apply W_label | apply W_skip | apply W_exit | apply W_ret) <;> try simp only [kks, simprocAttr])
    | (with_reducible apply hnx; clear hnx nx)
    | (with_reducible refine And.intro (by omega) ?_)
    | (with_reducible refine And.intro ?_ ?_)
    | (clear hnx nx; with_reducible apply hnx; clear hnx nx)
    | (clear hnx nx; clear hnx nx; with_reducible apply hnx; clear hnx nx))
  obtain ⟨NA, hNA⟩ : ∃ N, N = nm := ⟨_, rfl⟩
  subst hNA
  obtain ⟨NM, hNM⟩ : ∃ N, N = nm := ⟨_, rfl⟩
  subst hNM
  obtain ⟨NP, hNP⟩ : ∃ N, N = nm := ⟨_, rfl⟩
  subst hNP
  obtain ⟨NS, hNS⟩ : ∃ N, N = nm := ⟨_, rfl⟩
  subst hNS
  refine hfin _ _ (Fin_ret1 rfl (Sub_refl (by simp [names, hnm])) ?_); simp only [cob, simprocAttr]
  exact ⟨NA, NM, NP, NS, rfl, rfl⟩
set_option maxRecDepth 100000 in
set_option maxHeartbeats 8000000 in
theorem hpub_c (G : Globs) (hG : G 0 = .iptr (KS.map pw) 0) (seed : List UInt8) (n : Int) (hs : seed.length ≤ 4000) :
    PCalls Tryd.prog G 31 [pstr seed, pint .i64 n] [] (fun res H => res = .tuple [.agg ((pubF seed n).1.map pbyte), pint .i64 (pubF seed n).2] ∧ H = []) := by
  have c0 := valid_c G n
  have hfl := pubF_len seed n
  (refine PCalls_f Tryd.func31 rfl Tryd.ntmps31 Tryd.results31 (by simp) fun fin hfin => ?_; have hnm : True := trivial; simp only [ev, simprocAttr])
  by_cases hf : seed.length = 32 ∧ 0 ≤ n ∧ n ≤ 6
  · have hp : pubF seed n = (nodeV seed n.toNat 0, 0) := by rw [pubF, if_pos hf]
    rw [hp] at hfl
    simp only [hp] at hfin
    rw [decide_eq_true hf.2] at c0
    obtain ⟨h, rfl⟩ : ∃ h : Nat, n = h := ⟨n.toNat, by omega⟩
    simp only [Int.toNat_natCast] at hfl hfin
    have hl := hf.1
    have hpw := pow_le64 h (by omega)
    have hca : callable Tryd.prog 65 = true := by kernel_rfl
    repeat' (first
    | (with_reducible apply W_seq_k; intro nx hnx)
    | (with_reducible first | refine wr 51 ?_)
    | ((with_reducible first | (apply WL_op; intro nx hnx) | refine Ev_out ?_ | refine wc ?_ | (refine pf hnm fun nm hnm => ?_; try simp only [fmb] at hnm) | (refine pm hnm fun nm hnm => ?_; try simp only [fmb] at hnm)); try (simp (maxSteps := 2000000) (disch := omega) only [ev, ↓evp, PV.cells, PV.one, PV.mem?, Value.cells, simprocAttr, hnm, Tryd.tf0, Tryd.tf3, Tryd.tf4, Tryd.tf5, Tryd.tf9, Tryd.tf28, Tryd.tf37, Tryd.tf90, Tryd.call40, Tryd.call41, hl]))
    | ((with_reducible first | apply W_block | apply W_scope | apply WL_nil | apply W_label | apply W_skip | apply W_exit | apply W_ret) <;> try simp only [kks, simprocAttr])
    | (with_reducible apply pg <;> (intro hc; (try simp only [hcb, simprocAttr, ne_eq, forall_const] at hc); first | (exfalso; omega) | exact absurd trivial hc | skip))
    | (with_reducible apply hnx; clear hnx nx)
    | (with_reducible refine And.intro (by omega) ?_)
    | (with_reducible refine And.intro ?_ ?_)
    | (with_reducible refine pe (c0) ?_)
    | (clear hnx nx; with_reducible apply hnx; clear hnx nx)
    | (clear hnx nx; clear hnx nx; with_reducible apply hnx; clear hnx nx))
    all_goals first
      | exact absurd trivial hc
      | exact rfl
      | (exfalso
         omega)
      | (intro hh
         exfalso
         simp at hh
         done)
      | skip
    obtain ⟨NT, hNT⟩ : ∃ N, N = nm := ⟨_, rfl⟩
    subst hNT
    refine pcall_k (nodes_c G seed) ?_
    rintro _ _ ⟨a, m, M, s, rfl, rfl⟩ hd
    have hd2 : (a = NT) = False ∧ (m = NT) = False ∧ (M = NT) = False ∧ (s = NT) = False := by
      have h1 : ∀ x ∈ [a, m, M, s], x ≠ NT := fun x hx e => hd x hx (by simp [names, e])
      exact ⟨eq_false (h1 a (by simp)), eq_false (h1 m (by simp)), eq_false (h1 M (by simp)), eq_false (h1 s (by simp))⟩
    have cn := node_at G hG seed hs a m M s h 0 [] (by omega) (by omega)
    have cn : PCalls Tryd.prog G 65 [pint .i64 h, .val (.int .i64 0), .ptr m 0, .ptr s 0, .ptr a 0] (HM a m M s seed []) (NRes a m M s seed h 0) := cn
    have hRf : ∀ res H, NRes a m M s seed h 0 res H → res = .agg ((nodeV seed h 0).map pbyte) ∧ ∃ T', H = HM a m M s seed T' := fun _ _ h => h
    generalize NRes a m M s seed h 0 = R at *
    generalize nodeV seed h 0 = v at *
    have ho := all_one_byte v
    have hl2 : (v.map pbyte).length = 16 := by rw [List.length_map, hfl]
    have tv : List.take 16 (v.map pbyte) = v.map pbyte := List.take_of_length_le (by omega)
    refine Ev_in ?_
    repeat' (first
    | (with_reducible apply W_seq_k; intro nx hnx)
    | (with_reducible first | refine wr 51 ?_)
    | ((with_reducible first | (apply WL_op; intro nx hnx) | refine Ev_out ?_ | refine wc ?_ | (refine pf hnm fun nm hnm => ?_; try simp only [fmb] at hnm) | (refine pm hnm fun nm hnm => ?_; try simp only [fmb] at hnm)); try (simp (maxSteps := 2000000) (disch := omega) only [ev, ↓evp, PV.cells, PV.one, PV.mem?, Value.cells, simprocAttr, hnm, Tryd.tf0, Tryd.tf3, Tryd.tf4, Tryd.tf5, Tryd.tf9, Tryd.tf28, Tryd.tf37, Tryd.tf90, Tryd.call40, Tryd.call41, hca, hd2, ho, hl2, tv]))
    | ((with_reducible first | apply W_block | apply W_scope | apply WL_nil | apply W_label | apply W_skip | apply W_exit | apply W_ret) <;> try simp only [kks, simprocAttr])
    | (with_reducible apply pg <;> (intro hc; (try simp only [hcb, simprocAttr, ne_eq, forall_const] at hc); first | (exfalso; omega) | exact absurd trivial hc | skip))
    | (with_reducible apply hnx; clear hnx nx)
    | (with_reducible refine And.intro (by omega) ?_)
    | (with_reducible refine And.intro ?_ ?_)
    | ((refine pcall_mid [] (HM a m M s seed []) [_] rfl cn ?_; intro r1 H1 hr1; obtain ⟨rfl, T1, rfl⟩ := hRf _ _ hr1; refine Ev_in ?_))
    | (clear hnx nx; with_reducible apply hnx; clear hnx nx)
    | (clear hnx nx; clear hnx nx; with_reducible apply hnx; clear hnx nx))
    all_goals first
      | exact absurd trivial hc
      | exact rfl
      | (exfalso
         omega)
      | (refine hfin _ _ ?_
         exact Fin_dig2 (n := NT) (by simp only [fr_getD_cons, Nat.reduceEqDiff, Nat.reduceLT, ↓reduceIte]) (by simp [look, hd2]) hfl (by simp only [fr_getD_cons, Nat.reduceEqDiff, Nat.reduceLT, ↓reduceIte]) ⟨rfl, rfl⟩)
  · have hp : pubF seed n = (List.replicate 16 0, 1) := by rw [pubF, if_neg hf]
    simp only [hp] at hfin
    by_cases hl : seed.length = 32
    · have hv : ¬ (0 ≤ n ∧ n ≤ 6) := fun h => hf ⟨hl, h⟩
      rw [decide_eq_false hv] at c0
      repeat' (first
    | (with_reducible apply W_seq_k; intro nx hnx)
    | (with_reducible first | refine wr 51 ?_)
    | ((with_reducible first | (apply WL_op; intro nx hnx) | refine Ev_out ?_ | refine wc ?_ | (refine pf hnm fun nm hnm => ?_; try simp only [fmb] at hnm) | (refine pm hnm fun nm hnm => ?_; try simp only [fmb] at hnm)); try (simp (maxSteps := 2000000) (disch := omega) only [ev, ↓evp, PV.cells, PV.one, PV.mem?, Value.cells, simprocAttr, hnm, Tryd.tf0, Tryd.tf3, Tryd.tf4, Tryd.tf5, Tryd.tf9, Tryd.tf28, Tryd.tf37, Tryd.tf90, Tryd.call40, Tryd.call41, hl]))
    | ((with_reducible first | apply W_block | apply W_scope | apply WL_nil | apply W_label | apply W_skip | apply W_exit | apply W_ret) <;> try simp only [kks, simprocAttr])
    | (with_reducible apply pg <;> (intro hc; (try simp only [hcb, simprocAttr, ne_eq, forall_const] at hc); first | (exfalso; omega) | exact absurd trivial hc | skip))
    | (with_reducible apply hnx; clear hnx nx)
    | (with_reducible refine And.intro (by omega) ?_)
    | (with_reducible refine And.intro ?_ ?_)
    | (with_reducible refine pe (c0) ?_)
    | (clear hnx nx; with_reducible apply hnx; clear hnx nx)
    | (clear hnx nx; clear hnx nx; with_reducible apply hnx; clear hnx nx))
      all_goals first
        | exact absurd trivial hc
        | exact rfl
        | (exfalso
           omega)
        | (intro hh
           exfalso
           simp at hh
           done)
        | (refine hfin _ _ ?_
           exact Fin_dig2 (n := nm) (f := List.replicate 16 0) (by simp only [fr_getD_cons, Nat.reduceEqDiff, Nat.reduceLT, ↓reduceIte]) (by simp only [look, ↓reduceIte]; rfl) (by simp) (by simp only [fr_getD_cons, Nat.reduceEqDiff, Nat.reduceLT, ↓reduceIte]) ⟨rfl, rfl⟩)
    · have hl' : ¬ (seed.length : Int) = 32 := by omega
      repeat' (first
    | (with_reducible apply W_seq_k; intro nx hnx)
    | (with_reducible first | refine wr 51 ?_)
    | ((with_reducible first | (apply WL_op; intro nx hnx) | refine Ev_out ?_ | refine wc ?_ | (refine pf hnm fun nm hnm => ?_; try simp only [fmb] at hnm) | (refine pm hnm fun nm hnm => ?_; try simp only [fmb] at hnm)); try (simp (maxSteps := 2000000) (disch := omega) only [ev, ↓evp, PV.cells, PV.one, PV.mem?, Value.cells, simprocAttr, hnm, Tryd.tf0, Tryd.tf3, Tryd.tf4, Tryd.tf5, Tryd.tf9, Tryd.tf28, Tryd.tf37, Tryd.tf90, Tryd.call40, Tryd.call41, hl', hl]))
    | ((with_reducible first | apply W_block | apply W_scope | apply WL_nil | apply W_label | apply W_skip | apply W_exit | apply W_ret) <;> try simp only [kks, simprocAttr])
    | (with_reducible apply pg <;> (intro hc; (try simp only [hcb, simprocAttr, ne_eq, forall_const] at hc); first | (exfalso; omega) | exact absurd trivial hc | skip))
    | (with_reducible apply hnx; clear hnx nx)
    | (with_reducible refine And.intro (by omega) ?_)
    | (with_reducible refine And.intro ?_ ?_)
    | (with_reducible refine pe (c0) ?_)
    | (clear hnx nx; with_reducible apply hnx; clear hnx nx)
    | (clear hnx nx; clear hnx nx; with_reducible apply hnx; clear hnx nx))
      all_goals first
        | exact absurd trivial hc
        | exact rfl
        | (exfalso
           omega)
        | (intro hh
           exfalso
           simp at hh
           done)
        | (refine hfin _ _ ?_
           exact Fin_dig2 (n := nm) (f := List.replicate 16 0) (by simp only [fr_getD_cons, Nat.reduceEqDiff, Nat.reduceLT, ↓reduceIte]) (by simp only [look, ↓reduceIte]; rfl) (by simp) (by simp only [fr_getD_cons, Nat.reduceEqDiff, Nat.reduceLT, ↓reduceIte]) ⟨rfl, rfl⟩)
end Go.PM

namespace Go.PM
open Go.Proofs
attribute [local irreducible] W PCalls pcall pcallI WL
set_option maxRecDepth 100000
set_option maxHeartbeats 8000000
@[reducible] def pn (k : Nat) : PV := pint .i64 k
theorem take_pb (l : List UInt8) : List.take l.length (l.map pbyte) = l.map pbyte := List.take_of_length_le (by rw [List.length_map]; exact Nat.le_refl _)
/-- Two digests, one after the other. -/
theorem dig_cells {x y : List UInt8} (hx : x.length = 16) (hy : y.length = 16) : (∀ Z, List.take 16 (x.map pbyte ++ Z) = x.map pbyte) ∧ (∀ Z, List.drop 16 (x.map pbyte ++ Z) = Z) ∧ List.drop 32 (x.map pbyte ++ List.replicate 16 (.val (.int .u8 0))) = [] ∧ (x.map pbyte ++ y.map pbyte).all PV.one = true := by
  have hl : (x.map pbyte).length = 16 := by rw [List.length_map, hx]
  refine ⟨fun Z => List.take_left' hl, fun Z => List.drop_left' hl, List.drop_eq_nil_of_le (by rw [List.length_append, hl, List.length_replicate]; omega), ?_⟩
  rw [List.all_append, all_one_byte, all_one_byte]
  rfl
theorem preM_pos {u v : List (List UInt8)} (hu : Small u) (hv : Small v) (i : Nat) : 1 ≤ (preM u v i).length := by
  have h1 := (diff_small hu hv).1
  have h6 := intB_len9 (n := ((diffL u v).length : Int)) ⟨by omega, by omega⟩
  unfold preM
  rw [List.length_append, List.length_append]
  omega
end Go.PM

namespace Go.PM
open Go.Proofs
attribute [local irreducible] W PCalls pcall pcallI WL
/-- The neighbour of a node. -/
def sib (i : Nat) : Nat := if i % 2 = 1 then i - 1 else i + 1
/-- What a signature tells of a chain. -/
def sigV (seed : List UInt8) (i : Int) (dg : List Nat) (c : Nat) : List UInt8 := advF i c 0 ((dg.getD c 0 : Nat) - 0 : Int).toNat (startF seed i c)
theorem sigV_len (seed : List UInt8) (i : Int) (dg : List Nat) (c : Nat) : (sigV seed i dg c).length = 16 := advF_len _ _ _ _ _ (startF_len _ _ _)
/-- The neighbours on the way to the root. -/
def patV (seed : List UInt8) (i l : Nat) : List UInt8 := nodeV seed l (sib (i / 2 ^ l))
theorem patV_len (seed : List UInt8) (i l : Nat) : (patV seed i l).length = 16 := nodeV_len _ _ _
/-- A signature that is made. -/
def sigT (seed : List UInt8) (h i : Nat) (m : List UInt8) : List UInt8 :=
  intB i ++ catF (sigV seed i (digF (digestF (nodeV seed h 0) i m))) 68 ++ catF (patV seed i) h
/-- What Sign answers. -/
def signF (seed : List UInt8) (n i : Int) (m : List UInt8) : List UInt8 × Int :=
  if ¬ (seed.length = 32 ∧ 0 ≤ n ∧ n ≤ 6) then ([], 1) else if i < 0 ∨ 2 ^ n.toNat ≤ i then ([], 23) else (sigT seed n.toNat i.toNat m, 0)
theorem digF_get (d : List UInt8) (c : Nat) (h : c < 68) : ((digF d).map pn')[c]? = some (pint .i64 ((digF d).getD c 0 : Nat)) := by
  rw [List.getElem?_map, List.getD_eq_getElem?_getD, List.getElem?_eq_getElem (by rw [digF_len]; exact h)]
  rfl
theorem digF_lt (d : List UInt8) (c : Nat) : (digF d).getD c 0 < 4 := by
  rw [List.getD_eq_getElem?_getD]
  cases h : (digF d)[c]? with
  | none => simp
  | some x =>
    have hm := List.mem_of_getElem? h
    simp only [digF, List.mem_append, List.mem_map, chk, List.mem_cons, List.not_mem_nil, or_false] at hm
    simp only [Option.getD_some]
    rcases hm with ⟨j, _, rfl⟩ | rfl | rfl | rfl | rfl
    · exact dig_lt _ _
    all_goals omega
end Go.PM

namespace Go.PM
open Go.Proofs
attribute [local irreducible] W PCalls pcall pcallI WL
theorem shr_op (k l : Nat) (hl : l ≤ 6) : Int.fdiv (k : Int) (2 ^ min l IntKind.i64.bits) = ((k / 2 ^ l : Nat) : Int) := by
  have h1 : min l IntKind.i64.bits = l := by simp only [IntKind.bits]; omega
  rw [h1, Int.fdiv_eq_ediv_of_nonneg _ (by exact_mod_cast Nat.zero_le _)]
  norm_cast
theorem xor_sib : ∀ j : _root_.Fin 128, bits .xor .i64 (j.val : Int) 1 = ((sib j.val : Nat) : Int) := by decide +kernel
set_option maxRecDepth 100000 in
set_option maxHeartbeats 8000000 in
theorem hsign_c (G : Globs) (hG : G 0 = .iptr (KS.map pw) 0) (seed : List UInt8) (n i : Int) (msg : List UInt8) (hs : seed.length ≤ 4000) (hi : inR i) (hm : msg.length ≤ 4000) :
    PCalls Tryd.prog G 25 [pstr seed, pint .i64 n, pint .i64 i, pstr msg] [] (fun res H => res = .tuple [pstr (signF seed n i msg).1, pint .i64 (signF seed n i msg).2] ∧ H = []) := by
  have c0 := valid_c G n
  (refine PCalls_f Tryd.func25 rfl Tryd.ntmps25 Tryd.results25 (by simp) fun fin hfin => ?_; have hnm : True := trivial; simp only [ev, simprocAttr])
  by_cases hf : seed.length = 32 ∧ 0 ≤ n ∧ n ≤ 6
  · have hl := hf.1
    rw [decide_eq_true hf.2] at c0
    obtain ⟨h, rfl⟩ : ∃ h : Nat, n = h := ⟨n.toNat, by omega⟩
    have hh : h ≤ 6 := by omega
    have hsh := shl_op ⟨h, by omega⟩
    simp only at hsh
    obtain ⟨w, hw⟩ : ∃ w, w = 2 ^ h := ⟨_, rfl⟩
    have hw64 := pow_le64 h hh
    rw [← hw] at hsh hw64
    by_cases hb : i < 0 ∨ (w : Int) ≤ i
    · have hp : signF seed h i msg = ([], 23) := by
        rw [signF, if_neg (by simpa using hf), if_pos (by rw [Int.toNat_natCast]; rw [hw] at hb; exact_mod_cast hb)]
      simp only [hp] at hfin
      repeat' (first
    | (with_reducible apply W_seq_k; intro nx hnx)
    | (with_reducible first | refine wr 885451596837406506767 ?_)
    | ((with_reducible first | (apply WL_op; intro nx hnx) | refine Ev_out ?_ | refine wc ?_ | (refine pf hnm fun nm hnm => ?_; try simp only [fmb] at hnm) | (refine pm hnm fun nm hnm => ?_; try simp only [fmb] at hnm)); try (simp (maxSteps := 2000000) (disch := omega) only [ev, ↓evp, PV.cells, PV.one, PV.mem?, Value.cells, simprocAttr, hnm, Tryd.tf0, Tryd.tf3, Tryd.tf4, Tryd.tf5, Tryd.tf9, Tryd.tf22, Tryd.tf27, Tryd.tf28, Tryd.tf37, Tryd.tf90, Tryd.tf94, Tryd.tf97, Tryd.call23, Tryd.call40, Tryd.call41, Tryd.call42, Tryd.call43, Tryd.call44, Tryd.call45, Tryd.call46, Tryd.call47, hl, hsh]))
    | ((with_reducible first | apply W_block | apply W_scope | apply WL_nil | apply W_label | apply W_skip | apply W_exit | apply W_ret) <;> try simp only [kks, simprocAttr])
    | (with_reducible apply pg <;> (intro hc; (try simp only [hcb, simprocAttr, ne_eq, forall_const] at hc); first | (exfalso; omega) | exact absurd trivial hc | skip))
    | (with_reducible apply hnx; clear hnx nx)
    | (with_reducible refine And.intro (by omega) ?_)
    | (with_reducible refine And.intro ?_ ?_)
    | (with_reducible refine pe (c0) ?_)
    | (clear hnx nx; with_reducible apply hnx; clear hnx nx)
    | (clear hnx nx; clear hnx nx; with_reducible apply hnx; clear hnx nx))
      all_goals first
        | exact absurd trivial hc
        | exact rfl
        | (exfalso
           omega)
        | (intro hh
           exfalso
           simp at hh
           done)
        | (intro hh
           exfalso
           simp at hh
           omega)
        | (refine hfin _ _ (Fin_ret2 rfl rfl (Sub_nil _) ?_); simp only [cob, simprocAttr]; first | trivial | exact ⟨rfl, by trivial⟩ | (simp; done) | (simp; omega))
    · have hp : signF seed h i msg = (sigT seed h i.toNat msg, 0) := by
        rw [signF, if_neg (by simpa using hf), if_neg (by rw [Int.toNat_natCast]; rw [hw] at hb; exact_mod_cast hb), Int.toNat_natCast]
      simp only [hp] at hfin
      clear hp
      obtain ⟨k, rfl⟩ : ∃ k : Nat, i = k := ⟨i.toNat, by omega⟩
      have hkw : k < w := by omega
      simp only [Int.toNat_natCast] at hfin
      have hk0 : (k : Int) < (w : Int) := by omega
      have hk1 : ¬ (k : Int) < 0 := by omega
      have hk2 : ¬ (w : Int) ≤ (k : Int) := by omega
      have h9 := intB_len9 hi
      have hm2 : ¬ 1048576 < (msg.length : Int) := by omega
      have hca : callable Tryd.prog 65 = true := by kernel_rfl
      repeat' (first
    | (with_reducible apply W_seq_k; intro nx hnx)
    | (with_reducible first | refine wr 885451596837406506767 ?_)
    | ((with_reducible first | (apply WL_op; intro nx hnx) | refine Ev_out ?_ | refine wc ?_ | (refine pf hnm fun nm hnm => ?_; try simp only [fmb] at hnm) | (refine pm hnm fun nm hnm => ?_; try simp only [fmb] at hnm)); try (simp (maxSteps := 2000000) (disch := omega) only [ev, ↓evp, PV.cells, PV.one, PV.mem?, Value.cells, simprocAttr, hnm, Tryd.tf0, Tryd.tf3, Tryd.tf4, Tryd.tf5, Tryd.tf9, Tryd.tf22, Tryd.tf27, Tryd.tf28, Tryd.tf37, Tryd.tf90, Tryd.tf94, Tryd.tf97, Tryd.call23, Tryd.call40, Tryd.call41, Tryd.call42, Tryd.call43, Tryd.call44, Tryd.call45, Tryd.call46, Tryd.call47, hl, hk0, hk1, hk2, hsh, hm2]))
    | ((with_reducible first | apply W_block | apply W_scope | apply WL_nil | apply W_label | apply W_skip | apply W_exit | apply W_ret) <;> try simp only [kks, simprocAttr])
    | (with_reducible apply pg <;> (intro hc; (try simp only [hcb, simprocAttr, ne_eq, forall_const] at hc); first | (exfalso; omega) | exact absurd trivial hc | skip))
    | (with_reducible apply hnx; clear hnx nx)
    | (with_reducible refine And.intro (by omega) ?_)
    | (with_reducible refine And.intro ?_ ?_)
    | (with_reducible refine pe (c0) ?_)
    | (clear hnx nx; with_reducible apply hnx; clear hnx nx)
    | (clear hnx nx; clear hnx nx; with_reducible apply hnx; clear hnx nx))
      all_goals first
        | exact absurd trivial hc
        | exact rfl
        | (exfalso
           omega)
        | (intro hh
           exfalso
           simp at hh
           done)
        | (intro hh
           exfalso
           simp at hh
           omega)
        | skip
      refine pcall_k (nodes_c G seed) ?_
      rintro _ _ ⟨a, m, M, s, rfl, rfl⟩ hd
      have c4 := wint_c G k hi.1 hi.2
      have b1 := isByte_pb (intB k)
      have b2 := unb_pb (intB k)
      refine Ev_in ?_
      obtain ⟨e, he⟩ : ∃ e, e = intB (k : Int) := ⟨_, rfl⟩
      rw [← he] at c4 b1 b2 h9
      have hen : e ≠ [] := by
        rintro rfl
        simp at h9
      repeat' (first
    | (with_reducible apply W_seq_k; intro nx hnx)
    | (with_reducible first | refine wr 885451596837406506767 ?_)
    | ((with_reducible first | (apply WL_op; intro nx hnx) | refine Ev_out ?_ | refine wc ?_ | (refine pf hnm fun nm hnm => ?_; try simp only [fmb] at hnm) | (refine pm hnm fun nm hnm => ?_; try simp only [fmb] at hnm)); try (simp (maxSteps := 2000000) (disch := omega) only [ev, ↓evp, PV.cells, PV.one, PV.mem?, Value.cells, simprocAttr, hnm, Tryd.tf0, Tryd.tf3, Tryd.tf4, Tryd.tf5, Tryd.tf9, Tryd.tf22, Tryd.tf27, Tryd.tf28, Tryd.tf37, Tryd.tf90, Tryd.tf94, Tryd.tf97, Tryd.call23, Tryd.call40, Tryd.call41, Tryd.call42, Tryd.call43, Tryd.call44, Tryd.call45, Tryd.call46, Tryd.call47, hca]))
    | ((with_reducible first | apply W_block | apply W_scope | apply WL_nil | apply W_label | apply W_skip | apply W_exit | apply W_ret) <;> try simp only [kks, simprocAttr])
    | (with_reducible apply pg <;> (intro hc; (try simp only [hcb, simprocAttr, ne_eq, forall_const] at hc); first | (exfalso; omega) | exact absurd trivial hc | skip))
    | (with_reducible apply hnx; clear hnx nx)
    | (with_reducible refine And.intro (by omega) ?_)
    | (with_reducible refine And.intro ?_ ?_)
    | (with_reducible refine pe (c4) ?_)
    | (clear hnx nx; with_reducible apply hnx; clear hnx nx)
    | (clear hnx nx; clear hnx nx; with_reducible apply hnx; clear hnx nx))
      obtain ⟨NB, hNB⟩ : ∃ N, N = nm := ⟨_, rfl⟩
      subst hNB
      refine pcall_midn [] [(NB, ⟨94, false, 0, [.val (.pointer none), pnil]⟩)] (HM a m M s seed []) rfl (writeL_c G NB [] e hen (by omega) (by simp) _ (.inl ⟨rfl, rfl⟩)) ?_
      rintro _ HB ⟨rfl, hB⟩ nd
      rw [List.nil_append] at hB nd
      have cn := node_at G hG seed hs a m M s h 0 [] (by omega) (by rw [← hw]; omega)
      have cn : PCalls Tryd.prog G 65 [pint .i64 h, .val (.int .i64 0), .ptr m 0, .ptr s 0, .ptr a 0] (HM a m M s seed []) (NRes a m M s seed h 0) := cn
      have hRf : ∀ res H, NRes a m M s seed h 0 res H → res = .agg ((nodeV seed h 0).map pbyte) ∧ ∃ T', H = HM a m M s seed T' := fun _ _ h => h
      generalize NRes a m M s seed h 0 = R at *
      have hvl := nodeV_len seed h 0
      have c2 := hdig_c G hG (nodeV seed h 0) k msg hvl hi hm
      have hdl := digestF_len (nodeV seed h 0) k msg
      have c3 := dig_c G (digestF (nodeV seed h 0) k msg) hdl
      have hqg := digF_get (digestF (nodeV seed h 0) k msg)
      have hql := digF_lt (digestF (nodeV seed h 0) k msg)
      have hqn := digF_len (digestF (nodeV seed h 0) k msg)
      have hsig : sigT seed h k msg = intB k ++ catF (sigV seed k (digF (digestF (nodeV seed h 0) k msg))) 68 ++ catF (patV seed k) h := rfl
      rw [← he] at hsig
      generalize sigT seed h k msg = S at *
      generalize digF (digestF (nodeV seed h 0) k msg) = q at *
      generalize digestF (nodeV seed h 0) k msg = d at *
      generalize nodeV seed h 0 = v at *
      have ho := all_one_byte v
      have hl2 : (v.map pbyte).length = 16 := by rw [List.length_map, hvl]
      have tv : List.take 16 (v.map pbyte) = v.map pbyte := List.take_of_length_le (by omega)
      have hlenS := catF_len (sigV_len seed k q)
      have hq2 : (q.map pn').length = 68 := by rw [List.length_map, hqn]
      refine Ev_in ?_
      repeat' (first
    | (with_reducible apply W_seq_k; intro nx hnx)
    | (with_reducible first | refine wr 885451596837406506767 ?_)
    | ((with_reducible first | (apply WL_op; intro nx hnx) | refine Ev_out ?_ | refine wc ?_ | (refine pf hnm fun nm hnm => ?_; try simp only [fmb] at hnm) | (refine pm hnm fun nm hnm => ?_; try simp only [fmb] at hnm)); try (simp (maxSteps := 2000000) (disch := omega) only [ev, ↓evp, PV.cells, PV.one, PV.mem?, Value.cells, simprocAttr, hnm, Tryd.tf0, Tryd.tf3, Tryd.tf4, Tryd.tf5, Tryd.tf9, Tryd.tf22, Tryd.tf27, Tryd.tf28, Tryd.tf37, Tryd.tf90, Tryd.tf94, Tryd.tf97, Tryd.call23, Tryd.call40, Tryd.call41, Tryd.call42, Tryd.call43, Tryd.call44, Tryd.call45, Tryd.call46, Tryd.call47, hca, hq2]))
    | ((with_reducible first | apply W_block | apply W_scope | apply WL_nil | apply W_label | apply W_skip | apply W_exit | apply W_ret) <;> try simp only [kks, simprocAttr])
    | (with_reducible apply pg <;> (intro hc; (try simp only [hcb, simprocAttr, ne_eq, forall_const] at hc); first | (exfalso; omega) | exact absurd trivial hc | skip))
    | (with_reducible apply hnx; clear hnx nx)
    | (with_reducible refine And.intro (by omega) ?_)
    | (with_reducible refine And.intro ?_ ?_)
    | (with_reducible refine pe (c2) ?_)
    | (with_reducible refine pe (c3) ?_)
    | ((refine pcall_midn HB (HM a m M s seed []) [] (by simp) cn ?_; intro r1 H1 hr1 nd2; obtain ⟨rfl, T1, rfl⟩ := hRf _ _ hr1; refine Ev_in ?_))
    | (clear hnx nx; with_reducible apply hnx; clear hnx nx)
    | (clear hnx nx; clear hnx nx; with_reducible apply hnx; clear hnx nx))
      all_goals first
        | exact absurd trivial hc
        | exact rfl
        | (exfalso
           omega)
        | skip
      clear cn hRf hr1 hvl c2 c3 hdl ho hl2 tv c0 c4 hd
      refine W_loop_k (fun z τ => ∃ (c : Nat) (u : List UInt8) (HB : Heap), c ≤ 68 ∧ z = 68 - c ∧ u = e ++ catF (sigV seed k q) c ∧ BS NB u HB ∧ (names (HB ++ HM a m M s seed T1)).Nodup ∧
          τ = ⟨fr 83 [(52, pint .i64 c), (51, pint .i64 68), (50, .list 1 (q.map pn')), (11, .ptr NB 0), (10, .func 65 [.ptr m 0, .ptr s 0, .ptr a 0]), (0, pstr seed), (1, pint .i64 h), (2, pint .i64 k)], HB ++ HM a m M s seed T1⟩) 68
        ⟨fr 83 [(52, pint .i64 (0 : Nat)), (51, pint .i64 68), (50, .list 1 (q.map pn')), (11, .ptr NB 0), (10, .func 65 [.ptr m 0, .ptr s 0, .ptr a 0]), (0, pstr seed), (1, pint .i64 h), (2, pint .i64 k)], HB ++ HM a m M s seed T1⟩ (by
        refine Wk_fr (by simp only [wkb, simprocAttr]) ?_
        exact Sub_refl (by simpa using nd2)) ⟨0, e, HB, by omega, by omega, by rw [catF_zero, List.append_nil], hB, by simpa using nd2, rfl⟩ ?_
      clear hB nd nd2
      rintro z τ ⟨c, u, HB, hc, rfl, hsc, hB, nd, rfl⟩ lp hlp
      have hsl : u.length ≤ 9 + 16 * c := by rw [hsc, List.length_append, hlenS]; omega
      by_cases hlt : c < 68
      · have hcR : inR (c : Int) := ⟨by omega, by omega⟩
        have hg := hqg c hlt
        have hgl := hql c
        have hg3 : (q.map pn').getD c PV.junk = pint .i64 (q.getD c 0 : Nat) := by rw [List.getD_eq_getElem?_getD, hg]; rfl
        have d1 := start_c G hG seed hs k c hi hcR
        have d2 := adv_c G hG k c 0 (q.getD c 0 : Nat) (startF seed k c) hi hcR (by omega) (by omega) (by omega) (by omega) (startF_len _ _ _)
        rw [show advF k c 0 (((q.getD c 0 : Nat) : Int) - 0).toNat (startF seed k c) = sigV seed k q c from rfl] at d2
        have hsu := catF_succ (sigV seed k q) c
        have htl := sigV_len seed k q c
        obtain ⟨y, hy⟩ : ∃ y, y = u ++ sigV seed k q c := ⟨_, rfl⟩
        have hyl : y = e ++ catF (sigV seed k q) (c + 1) := by rw [hy, hsc, hsu, List.append_assoc]
        generalize sigV seed k q c = x at *
        generalize startF seed k c = v1 at *
        generalize q.getD c 0 = x0 at *
        have cw := fun v => writeA_c G NB v u x htl (by omega) HB hB
        rw [← hy] at cw
        have hxl : (x.map pbyte).length = 16 := by rw [List.length_map, htl]
        have tx : List.take 16 (x.map pbyte) = x.map pbyte := List.take_of_length_le (by omega)
        have hxo := all_one_byte x
        repeat' (first
    | (with_reducible apply W_seq_k; intro nx hnx)
    | (with_reducible first | refine wr 885451596837406506767 ?_)
    | ((with_reducible first | (apply WL_op; intro nx hnx) | refine Ev_out ?_ | refine wc ?_ | (refine pf hnm fun nm hnm => ?_; try simp only [fmb] at hnm) | (refine pm hnm fun nm hnm => ?_; try simp only [fmb] at hnm)); try (simp (maxSteps := 2000000) (disch := omega) only [ev, ↓evp, PV.cells, PV.one, PV.mem?, Value.cells, simprocAttr, hnm, Tryd.tf0, Tryd.tf3, Tryd.tf4, Tryd.tf5, Tryd.tf9, Tryd.tf22, Tryd.tf27, Tryd.tf28, Tryd.tf37, Tryd.tf90, Tryd.tf94, Tryd.tf97, Tryd.call23, Tryd.call40, Tryd.call41, Tryd.call42, Tryd.call43, Tryd.call44, Tryd.call45, Tryd.call46, Tryd.call47, htl, hg, hg3, hq2, hxl, tx, hxo]))
    | ((with_reducible first | apply W_block | apply W_scope | apply WL_nil | apply W_label | apply W_skip | apply W_exit | apply W_ret) <;> try simp only [kks, simprocAttr])
    | (with_reducible apply pg <;> (intro hc; (try simp only [hcb, simprocAttr, ne_eq, forall_const] at hc); first | (exfalso; omega) | exact absurd trivial hc | skip))
    | (with_reducible apply hnx; clear hnx nx)
    | (with_reducible refine And.intro (by omega) ?_)
    | (with_reducible refine And.intro ?_ ?_)
    | (with_reducible refine pe (d1) ?_)
    | (with_reducible refine pe (d2) ?_)
    | ((refine pcall_midn [] (_ :: HB) (HM a m M s seed T1) rfl (cw _) ?_; rintro _ H2 ⟨rfl, hB2⟩ nd2; refine Ev_in ?_))
    | (clear hnx nx; with_reducible apply hnx; clear hnx nx)
    | (clear hnx nx; clear hnx nx; with_reducible apply hnx; clear hnx nx))
        all_goals first
          | exact rfl
          | (exfalso
             omega)
          | (refine hlp _ (68 - (c + 1)) _ (by omega) ?_ ⟨c + 1, y, H2, by omega, rfl, hyl, hB2, nd2, rfl⟩
             refine Wk_fr (by simp only [wkb, simprocAttr]) ?_
             exact Sub_refl nd2)
      · obtain rfl : c = 68 := by omega
        have hlenP := catF_len (patV_len seed k)
        clear hqg hql
        repeat' (first
    | (with_reducible apply W_seq_k; intro nx hnx)
    | (with_reducible first | refine wr 885451596837406506767 ?_)
    | ((with_reducible first | (apply WL_op; intro nx hnx) | refine Ev_out ?_ | refine wc ?_ | (refine pf hnm fun nm hnm => ?_; try simp only [fmb] at hnm) | (refine pm hnm fun nm hnm => ?_; try simp only [fmb] at hnm)); try (simp (maxSteps := 2000000) (disch := omega) only [ev, ↓evp, PV.cells, PV.one, PV.mem?, Value.cells, simprocAttr, hnm, Tryd.tf0, Tryd.tf3, Tryd.tf4, Tryd.tf5, Tryd.tf9, Tryd.tf22, Tryd.tf27, Tryd.tf28, Tryd.tf37, Tryd.tf90, Tryd.tf94, Tryd.tf97, Tryd.call23, Tryd.call40, Tryd.call41, Tryd.call42, Tryd.call43, Tryd.call44, Tryd.call45, Tryd.call46, Tryd.call47]))
    | ((with_reducible first | apply W_block | apply W_scope | apply WL_nil | apply W_label | apply W_skip | apply W_exit | apply W_ret) <;> try simp only [kks, simprocAttr])
    | (with_reducible apply pg <;> (intro hc; (try simp only [hcb, simprocAttr, ne_eq, forall_const] at hc); first | (exfalso; omega) | exact absurd trivial hc | skip))
    | (with_reducible apply hnx; clear hnx nx)
    | (with_reducible refine And.intro (by omega) ?_)
    | (with_reducible refine And.intro ?_ ?_)
    | (clear hnx nx; with_reducible apply hnx; clear hnx nx)
    | (clear hnx nx; clear hnx nx; with_reducible apply hnx; clear hnx nx))
        refine W_loop_k (fun z τ => ∃ (l : Nat) (y : List UInt8) (HB : Heap) (T : List (Nat × Nat)), l ≤ h ∧ z = h - l ∧ y = u ++ catF (patV seed k) l ∧ BS NB y HB ∧ (names (HB ++ HM a m M s seed T)).Nodup ∧
            τ = ⟨fr 83 [(69, pint .i64 l), (68, pint .i64 h), (11, .ptr NB 0), (10, .func 65 [.ptr m 0, .ptr s 0, .ptr a 0]), (2, pint .i64 k)], HB ++ HM a m M s seed T⟩) h
          ⟨fr 83 [(69, pint .i64 (0 : Nat)), (68, pint .i64 h), (11, .ptr NB 0), (10, .func 65 [.ptr m 0, .ptr s 0, .ptr a 0]), (2, pint .i64 k)], HB ++ HM a m M s seed T1⟩ (by
          refine Wk_fr (by simp only [wkb, simprocAttr]) ?_
          exact Sub_refl nd) ⟨0, u, HB, T1, by omega, by omega, by rw [catF_zero, List.append_nil], hB, nd, rfl⟩ ?_
        clear hB nd
        rintro z τ ⟨l, y, HB, T, hl6, rfl, hy, hB, nd, rfl⟩ lp2 hlp2
        have hyl : y.length ≤ 9 + 16 * 68 + 16 * l := by rw [hy, List.length_append, hlenP]; omega
        by_cases hlh : l < h
        · have g1 := shr_op k l (by omega)
          have hj64 : k / 2 ^ l ≤ 64 := Nat.le_trans (Nat.div_le_self _ _) (by omega)
          have g2 := xor_sib ⟨k / 2 ^ l, by omega⟩
          simp only at g2
          have hpv : patV seed k l = nodeV seed l (sib (k / 2 ^ l)) := rfl
          have hsu := catF_succ (patV seed k) l
          rw [hpv] at hsu
          generalize k / 2 ^ l = j at *
          have hsb : sib j ≤ 65 := by unfold sib; split <;> omega
          have hp6 : 2 ^ l ≤ 64 := pow_le64 l (by omega)
          have cn := node_at G hG seed hs a m M s l (sib j) T (by omega) (Nat.le_trans (Nat.mul_le_mul (show sib j + 1 ≤ 66 by omega) hp6) (by omega))
          have hRf : ∀ res H, NRes a m M s seed l (sib j) res H → res = .agg ((nodeV seed l (sib j)).map pbyte) ∧ ∃ T', H = HM a m M s seed T' := fun _ _ h => h
          generalize NRes a m M s seed l (sib j) = R at *
          have htl := nodeV_len seed l (sib j)
          obtain ⟨y2, hy2⟩ : ∃ y2, y2 = y ++ nodeV seed l (sib j) := ⟨_, rfl⟩
          have hyu : y2 = u ++ catF (patV seed k) (l + 1) := by rw [hy2, hy, hsu, List.append_assoc]
          generalize nodeV seed l (sib j) = x at *
          generalize sib j = j2 at *
          have cw := fun v => writeA_c G NB v y x htl (by omega) HB hB
          rw [← hy2] at cw
          have hxl : (x.map pbyte).length = 16 := by rw [List.length_map, htl]
          have tx : List.take 16 (x.map pbyte) = x.map pbyte := List.take_of_length_le (by omega)
          have hxo := all_one_byte x
          repeat' (first
    | (with_reducible apply W_seq_k; intro nx hnx)
    | (with_reducible first | refine wr 885451596837406506767 ?_)
    | ((with_reducible first | (apply WL_op; intro nx hnx) | refine Ev_out ?_ | refine wc ?_ | (refine pf hnm fun nm hnm => ?_; try simp only [fmb] at hnm) | (refine pm hnm fun nm hnm => ?_; try simp only [fmb] at hnm)); try (simp (maxSteps := 2000000) (disch := omega) only [ev, ↓evp, PV.cells, PV.one, PV.mem?, Value.cells, simprocAttr, hnm, Tryd.tf0, Tryd.tf3, Tryd.tf4, Tryd.tf5, Tryd.tf9, Tryd.tf22, Tryd.tf27, Tryd.tf28, Tryd.tf37, Tryd.tf90, Tryd.tf94, Tryd.tf97, Tryd.call23, Tryd.call40, Tryd.call41, Tryd.call42, Tryd.call43, Tryd.call44, Tryd.call45, Tryd.call46, Tryd.call47, hca, g1, g2, htl, hxl, tx, hxo]))
    | ((with_reducible first | apply W_block | apply W_scope | apply WL_nil | apply W_label | apply W_skip | apply W_exit | apply W_ret) <;> try simp only [kks, simprocAttr])
    | (with_reducible apply pg <;> (intro hc; (try simp only [hcb, simprocAttr, ne_eq, forall_const] at hc); first | (exfalso; omega) | exact absurd trivial hc | skip))
    | (with_reducible apply hnx; clear hnx nx)
    | (with_reducible refine And.intro (by omega) ?_)
    | (with_reducible refine And.intro ?_ ?_)
    | ((refine pcall_midn HB (HM a m M s seed T) [] (by simp) cn ?_; intro r1 H1 hr1 nd2; obtain ⟨rfl, T2, rfl⟩ := hRf _ _ hr1; refine Ev_in ?_))
    | ((refine pcall_midn [] (_ :: HB) (HM a m M s seed _) rfl (cw _) ?_; rintro _ H2 ⟨rfl, hB2⟩ nd3; refine Ev_in ?_))
    | (clear hnx nx; with_reducible apply hnx; clear hnx nx)
    | (clear hnx nx; clear hnx nx; with_reducible apply hnx; clear hnx nx))
          all_goals first
            | exact rfl
            | (exfalso
               omega)
            | (refine hlp2 _ (h - (l + 1)) _ (by omega) ?_ ⟨l + 1, y2, H2, T2, by omega, rfl, hyu, hB2, nd3, rfl⟩
               refine Wk_fr (by simp only [wkb, simprocAttr]) ?_
               exact Sub_refl nd3)
        · obtain rfl : l = h := by omega
          have hS : y = S := by rw [hy, hsc, hsig]
          have k0 := string_c G NB y (by omega) HB hB
          rw [hS] at k0
          repeat' (first
    | (with_reducible apply W_seq_k; intro nx hnx)
    | (with_reducible first | refine wr 885451596837406506767 ?_)
    | ((with_reducible first | (apply WL_op; intro nx hnx) | refine Ev_out ?_ | refine wc ?_ | (refine pf hnm fun nm hnm => ?_; try simp only [fmb] at hnm) | (refine pm hnm fun nm hnm => ?_; try simp only [fmb] at hnm)); try (simp (maxSteps := 2000000) (disch := omega) only [ev, ↓evp, PV.cells, PV.one, PV.mem?, Value.cells, simprocAttr, hnm, Tryd.tf0, Tryd.tf3, Tryd.tf4, Tryd.tf5, Tryd.tf9, Tryd.tf22, Tryd.tf27, Tryd.tf28, Tryd.tf37, Tryd.tf90, Tryd.tf94, Tryd.tf97, Tryd.call23, Tryd.call40, Tryd.call41, Tryd.call42, Tryd.call43, Tryd.call44, Tryd.call45, Tryd.call46, Tryd.call47]))
    | ((with_reducible first | apply W_block | apply W_scope | apply WL_nil | apply W_label | apply W_skip | apply W_exit | apply W_ret) <;> try simp only [kks, simprocAttr])
    | (with_reducible apply pg <;> (intro hc; (try simp only [hcb, simprocAttr, ne_eq, forall_const] at hc); first | (exfalso; omega) | exact absurd trivial hc | skip))
    | (with_reducible apply hnx; clear hnx nx)
    | (with_reducible refine And.intro (by omega) ?_)
    | (with_reducible refine And.intro ?_ ?_)
    | ((refine pcall_midn [] HB (HM a m M s seed T) rfl k0 ?_; rintro _ _ ⟨rfl, rfl⟩ nd2; refine Ev_in ?_))
    | (clear hnx nx; with_reducible apply hnx; clear hnx nx)
    | (clear hnx nx; clear hnx nx; with_reducible apply hnx; clear hnx nx))
          all_goals first
            | exact rfl
            | (exfalso
               omega)
            | (refine hfin _ _ (Fin_ret2 rfl rfl (Sub_nil _) ?_); simp only [cob, simprocAttr]; first | trivial | exact ⟨rfl, by trivial⟩ | (simp; done) | (simp; omega))
  · have hp : signF seed n i msg = ([], 1) := by rw [signF, if_pos hf]
    simp only [hp] at hfin
    by_cases hl : seed.length = 32
    · have hv : ¬ (0 ≤ n ∧ n ≤ 6) := fun h => hf ⟨hl, h⟩
      rw [decide_eq_false hv] at c0
      repeat' (first
    | (with_reducible apply W_seq_k; intro nx hnx)
    | (with_reducible first | refine wr 885451596837406506767 ?_)
    | ((with_reducible first | (apply WL_op; intro nx hnx) | refine Ev_out ?_ | refine wc ?_ | (refine pf hnm fun nm hnm => ?_; try simp only [fmb] at hnm) | (refine pm hnm fun nm hnm => ?_; try simp only [fmb] at hnm)); try (simp (maxSteps := 2000000) (disch := omega) only [ev, ↓evp, PV.cells, PV.one, PV.mem?, Value.cells, simprocAttr, hnm, Tryd.tf0, Tryd.tf3, Tryd.tf4, Tryd.tf5, Tryd.tf9, Tryd.tf22, Tryd.tf27, Tryd.tf28, Tryd.tf37, Tryd.tf90, Tryd.tf94, Tryd.tf97, Tryd.call23, Tryd.call40, Tryd.call41, Tryd.call42, Tryd.call43, Tryd.call44, Tryd.call45, Tryd.call46, Tryd.call47, hl]))
    | ((with_reducible first | apply W_block | apply W_scope | apply WL_nil | apply W_label | apply W_skip | apply W_exit | apply W_ret) <;> try simp only [kks, simprocAttr])
    | (with_reducible apply pg <;> (intro hc; (try simp only [hcb, simprocAttr, ne_eq, forall_const] at hc); first | (exfalso; omega) | exact absurd trivial hc | skip))
    | (with_reducible apply hnx; clear hnx nx)
    | (with_reducible refine And.intro (by omega) ?_)
    | (with_reducible refine And.intro ?_ ?_)
    | (with_reducible refine pe (c0) ?_)
    | (clear hnx nx; with_reducible apply hnx; clear hnx nx)
    | (clear hnx nx; clear hnx nx; with_reducible apply hnx; clear hnx nx))
      all_goals first
        | exact absurd trivial hc
        | exact rfl
        | (exfalso
           omega)
        | (intro hh
           exfalso
           simp at hh
           done)
        | (refine hfin _ _ (Fin_ret2 rfl rfl (Sub_nil _) ?_); simp only [cob, simprocAttr]; first | trivial | exact ⟨rfl, by trivial⟩ | (simp; done) | (simp; omega))
    · have hl' : ¬ (seed.length : Int) = 32 := by omega
      repeat' (first
    | (with_reducible apply W_seq_k; intro nx hnx)
    | (with_reducible first | refine wr 885451596837406506767 ?_)
    | ((with_reducible first | (apply WL_op; intro nx hnx) | refine Ev_out ?_ | refine wc ?_ | (refine pf hnm fun nm hnm => ?_; try simp only [fmb] at hnm) | (refine pm hnm fun nm hnm => ?_; try simp only [fmb] at hnm)); try (simp (maxSteps := 2000000) (disch := omega) only [ev, ↓evp, PV.cells, PV.one, PV.mem?, Value.cells, simprocAttr, hnm, Tryd.tf0, Tryd.tf3, Tryd.tf4, Tryd.tf5, Tryd.tf9, Tryd.tf22, Tryd.tf27, Tryd.tf28, Tryd.tf37, Tryd.tf90, Tryd.tf94, Tryd.tf97, Tryd.call23, Tryd.call40, Tryd.call41, Tryd.call42, Tryd.call43, Tryd.call44, Tryd.call45, Tryd.call46, Tryd.call47, hl', hl]))
    | ((with_reducible first | apply W_block | apply W_scope | apply WL_nil | apply W_label | apply W_skip | apply W_exit | apply W_ret) <;> try simp only [kks, simprocAttr])
    | (with_reducible apply pg <;> (intro hc; (try simp only [hcb, simprocAttr, ne_eq, forall_const] at hc); first | (exfalso; omega) | exact absurd trivial hc | skip))
    | (with_reducible apply hnx; clear hnx nx)
    | (with_reducible refine And.intro (by omega) ?_)
    | (with_reducible refine And.intro ?_ ?_)
    | (with_reducible refine pe (c0) ?_)
    | (clear hnx nx; with_reducible apply hnx; clear hnx nx)
    | (clear hnx nx; clear hnx nx; with_reducible apply hnx; clear hnx nx))
      all_goals first
        | exact absurd trivial hc
        | exact rfl
        | (exfalso
           omega)
        | (intro hh
           exfalso
           simp at hh
           done)
        | (refine hfin _ _ (Fin_ret2 rfl rfl (Sub_nil _) ?_); simp only [cob, simprocAttr]; first | trivial | exact ⟨rfl, by trivial⟩ | (simp; done) | (simp; omega))
end Go.PM

namespace Go.PM
open Go.Proofs
attribute [local irreducible] W PCalls pcall pcallI WL
/-- What Encode answers. -/
def encF (seed : List UInt8) (h n : Int) (u v : List (List UInt8)) : List UInt8 × Int :=
  if (signF seed h n (msgM u v)).2 = 0 then (bytesB (msgM u v) ++ bytesB (signF seed h n (msgM u v)).1, 0) else ([], (signF seed h n (msgM u v)).2)
theorem signF_len (seed : List UInt8) (n i : Int) (m : List UInt8) (hi : inR i) : (signF seed n i m).1.length ≤ 2000 := by
  unfold signF
  split
  · simp
  · split
    · simp
    · rename_i h1 h2
      have h9 := intB_len9 (n := ((i.toNat : Nat) : Int)) (by constructor <;> omega)
      unfold sigT
      rw [List.length_append, List.length_append, catF_len (fun _ => sigV_len _ _ _ _), catF_len (fun _ => patV_len _ _ _)]
      omega
/-- Bytes in a row, or none and an error. -/
@[reducible] def EncR (x : List UInt8 × Int) (res : PV) (H : Heap) : Prop := (x.2 = 0 ∧ ∃ N, res = .tuple [.row N 1 x.1.length, pint .i64 0] ∧ H = [(N, ⟨5, true, 1, x.1.map pbyte⟩)]) ∨ (x.1 = [] ∧ res = .tuple [pnil, pint .i64 x.2] ∧ H = [])
theorem EncR.frz {G : Globs} {f : FuncId} {args : List PV} {x : List UInt8 × Int} (h : PCalls Tryd.prog G f args [] (EncR x)) : PCalls Tryd.prog G f args [] (fun res H => res = .tuple [.list 1 (x.1.map pbyte), pint .i64 x.2] ∧ H = []) := by
  refine h.px fun res H hR => ?_
  rcases hR with ⟨h0, N, rfl, rfl⟩ | ⟨h0, rfl, rfl⟩
  · have h2 := Px.freeze (G := G) (.tuple [.row N 1 x.1.length, pint .i64 0]) [(N, ⟨5, true, 1, x.1.map pbyte⟩)] N (o := ⟨5, true, 1, x.1.map pbyte⟩) (by simp only [look, if_true]) (by simp [frzOk, del])
    refine ⟨_, _, h2, ?_, by simp [frzH, del]⟩
    simp only [PM.frz, frz1, if_true, List.map_cons, List.map_nil]
    rw [if_pos ⟨by simp, by omega⟩, elemsOf, if_pos rfl, List.take_of_length_le (by simp), h0]
  · rw [h0]
    exact ⟨_, _, Px.nil2 1 _ _, rfl, rfl⟩
theorem Sub_sw (n : Int) {o : PObj} {H : Heap} : Sub [(n, o)] ((n, o) :: H) := ⟨fun x hx => by
  rw [List.mem_singleton] at hx
  subst hx
  exact List.mem_cons_self, by simp [names]⟩
@[reducible] def keyP (s : List UInt8) (h : Int) : PV := .agg [pstr s, pint .i64 h]
set_option maxRecDepth 100000
set_option maxHeartbeats 8000000
theorem encode_r (G : Globs) (hG : G 0 = .iptr (KS.map pw) 0) (seed : List UInt8) (h n : Int) (u v : List (List UInt8)) (hs : seed.length ≤ 4000) (hn : inR n) (hu : Small u) (hv : Small v) :
    PCalls Tryd.prog G 8 [keyP seed h, pint .i64 n, .list 1 (u.map pstr), .list 1 (v.map pstr)] [] (EncR (encF seed h n u v)) := by
  obtain ⟨d1, d2, d3⟩ := diff_small hu hv
  have hpl := preM_len hu hv
  have hpos := preM_pos hu hv
  have hp0 : preM u v 0 = encL id [dgL u, dgL v] ++ intB (diffL u v).length := by simp [preM]
  have hst := fun i (h : i < (diffL u v).length) => preM_step (u := u) (v := v) (i := i) h
  have hl1 : ((dgL u).map pbyte).length = 16 := by rw [List.length_map, dgL_len]
  have hl2 : ((dgL v).map pbyte).length = 16 := by rw [List.length_map, dgL_len]
  have o1 := all_one_byte (dgL u)
  have o2 := all_one_byte (dgL v)
  have t1 : List.take 16 ((dgL u).map pbyte) = (dgL u).map pbyte := List.take_of_length_le (by omega)
  have t2 : List.take 16 ((dgL v).map pbyte) = (dgL v).map pbyte := List.take_of_length_le (by omega)
  have hhl := head_len u v
  have c0 := diff_c G u v (by have := hu.1; omega) (by have := hv.1; omega)
  have g1 := digest_l G hG u hu
  have g2 := digest_l G hG v hv
  have c1 := wdigs_r G [dgL u, dgL v] (by simp [dgL_len]) (by omega) (by simp)
  have c2 := wint_c G (diffL u v).length (by omega) (by omega)
  have h9 := intB_len9 (n := ((diffL u v).length : Int)) ⟨by omega, by omega⟩
  obtain ⟨q1, q2, q3, q4⟩ := dig_cells (dgL_len u) (dgL_len v)
  simp only [List.replicate_succ, List.replicate_zero] at q3
  have hm : msgM u v = preM u v (diffL u v).length := rfl
  have hml : (msgM u v).length ≤ 1100 := hm ▸ hpl _
  have s1 := hsign_c G hG seed h n (msgM u v) hs hn (by omega)
  have s2 := signF_len seed h n (msgM u v) hn
  unfold encF
  rw [hm] at *
  simp only [List.map_cons, List.map_nil] at c1
  generalize encL id [dgL u, dgL v] = hd at *
  generalize preM u v = P at *
  generalize dgL u = du at *
  generalize dgL v = dv at *
  generalize diffL u v = L at *
  generalize signF seed h n (P L.length) = sg at *
  obtain ⟨sg, er⟩ := sg
  simp only at s1 s2
  (refine PCalls_f Tryd.func8 rfl Tryd.ntmps8 Tryd.results8 (by simp) fun fin hfin => ?_; have hnm : True := trivial; simp only [ev, simprocAttr])
  repeat' (first
    | (with_reducible apply W_seq_k; intro nx hnx)
    | (with_reducible first | refine wr 3758157599 ?_ | refine wd (id := 6) 3758157599 4 (.op 0 true (.op 1 true (.op 2 true (.op 4 true (.op 5 true (.op 7 true (.op 8 true (.op 3 true (.op 6 true (.op 9 false (.op 10 false (.op 11 false (.op 12 true (.done)))))))))))))) (by kernel_rfl) ?_)
    | (with_reducible refine WL_born (by simp) rfl (by simp) ?_; simp only [elemsOf, nl, bir, simprocAttr])
    | (with_reducible refine WL_bornH (by simp) (by simp) ?_ ?_ ?_; (· simp [frz, frz1, hnm]); (· simp [frz1, hnm, PV.one, Value.oneCell']); simp only [elemsOf, nl, bir, simprocAttr])
    | ((with_reducible first | (apply WL_op; intro nx hnx) | refine Ev_out ?_ | refine wc ?_ | (apply popsD_op; intro nx hnx) | (refine popsD_alt ?_ ?_; intro nx hnx) | (refine pf hnm fun nm hnm => ?_; try simp only [fmb] at hnm) | (refine pborn_im ?_; simp only [elemsOf, nl, bir, simprocAttr]) | (refine pmaybe_k ?_; intro bn hbn)); try (simp (maxSteps := 2000000) (disch := omega) only [ev, ↓evp, PV.cells, PV.one, PV.mem?, Value.cells, simprocAttr, hnm, Tryd.tf0, Tryd.tf1, Tryd.tf2, Tryd.tf3, Tryd.tf4, Tryd.tf5, Tryd.tf9, Tryd.tf24, Tryd.tf27, Tryd.tf28, Tryd.tf32, Tryd.tf37, Tryd.tf48, Tryd.tf52, Tryd.tf58, Tryd.tf61, Tryd.tf87, Tryd.call15, Tryd.call16, Tryd.call21, Tryd.call22, Tryd.call23, Tryd.call24, Tryd.call25, Tryd.call26, q1, q2, q3, q4, hl1, hl2, o1, o2, t1, t2, flat_pb]))
    | ((with_reducible first | apply W_block | apply W_scope | apply WL_nil | apply W_label | apply W_skip | apply W_exit | apply W_ret | apply popsD_done | exact popsD_stop) <;> try simp only [kks, simprocAttr])
    | (with_reducible apply pg <;> (intro hc; (try simp only [hcb, simprocAttr, ne_eq, forall_const] at hc); first | (exfalso; omega) | exact absurd trivial hc | skip))
    | (with_reducible apply hnx; clear hnx nx)
    | (with_reducible refine And.intro (by omega) ?_)
    | (with_reducible refine And.intro ?_ ?_)
    | (with_reducible refine pe (c0) ?_)
    | (with_reducible refine pe (g1) ?_)
    | (with_reducible refine pe (g2) ?_)
    | (with_reducible refine pe (c2) ?_)
    | ((with_reducible refine pcall_k c1 ?_; rintro _ _ ⟨N0, rfl, rfl⟩ -; refine Ev_in ?_))
    | (clear hnx nx; with_reducible apply hnx; clear hnx nx)
    | (clear hnx nx; clear hnx nx; with_reducible apply hnx; clear hnx nx))
  rename_i kN hkN
  generalize nm = N1 at *
  have hne : (N1 = kN) = False ∧ (kN = N1) = False := hnm
  have hw : Wx G ([] : List Int) ⟨fr 68 [(11, .row N1 1 (P 0).length), (31, pn 0), (30, pint .i64 L.length), (29, .list 3 (L.map Chg.pv)), (8, pnil), (4, .ptr kN 0), (1, pint .i64 n)], [(N1, ⟨5, true, 1, (P 0).map pbyte⟩), (kN, ⟨32, false, 0, [pstr seed, pint .i64 h]⟩)]⟩ ⟨fr 68 [(11, pl (P 0)), (31, pn 0), (30, pint .i64 L.length), (29, .list 3 (L.map Chg.pv)), (8, pnil), (4, .ptr kN 0), (1, pint .i64 n)], [(kN, ⟨32, false, 0, [pstr seed, pint .i64 h]⟩)]⟩ := by
    have hw := Wx_bornH (G := G) (I := []) (N := 68) (d := 11) (L := [(31, pn 0), (30, pint .i64 L.length), (29, .list 3 (L.map Chg.pv)), (8, pnil), (4, .ptr kN 0), (1, pint .i64 n)]) (n := N1) (e := 5) (es := 1) (len := (P 0).length) (cells := (P 0).map pbyte) (H := [(kN, ⟨32, false, 0, [pstr seed, pint .i64 h]⟩)]) (by simp) (by simp) (by simp [frz, frz1, hne]) (by simp [frz1, hne, PV.one, Value.oneCell'])
    rwa [elemsOf, if_pos rfl, take_pb] at hw
  refine W_x (Wx.trans (Wx.of_wk (τ := ⟨fr 68 [(11, .row N1 1 (P 0).length), (31, pn 0), (30, pint .i64 L.length), (29, .list 3 (L.map Chg.pv)), (8, pnil), (4, .ptr kN 0), (1, pint .i64 n)], [(N1, ⟨5, true, 1, (P 0).map pbyte⟩), (kN, ⟨32, false, 0, [pstr seed, pint .i64 h]⟩)]⟩) (by
    rw [hp0, List.length_append, List.map_append]
    refine Wk_fr (by simp only [wkb, simprocAttr, pn]) ?_
    exact Sub_refl (by simp [names, hne]))) hw) ?_
  clear hw hnm hne
  have hnm : True := trivial
  refine W_loop_k (fun z τ => ∃ i : Nat, i ≤ L.length ∧ z = L.length - i ∧ τ = ⟨fr 68 [(11, pl (P i)), (31, pn i), (30, pint .i64 L.length), (29, .list 3 (L.map Chg.pv)), (8, pnil), (4, .ptr kN 0), (1, pint .i64 n)], [(kN, ⟨32, false, 0, [pstr seed, pint .i64 h]⟩)]⟩) L.length
    ⟨fr 68 [(11, pl (P 0)), (31, pn 0), (30, pint .i64 L.length), (29, .list 3 (L.map Chg.pv)), (8, pnil), (4, .ptr kN 0), (1, pint .i64 n)], [(kN, ⟨32, false, 0, [pstr seed, pint .i64 h]⟩)]⟩ (by exact Wk_fr (by simp only [wkb, simprocAttr, pn]) ⟨by simp, by simp [names]⟩) ⟨0, by omega, by omega, rfl⟩ ?_
  rintro z τ ⟨i, hi, rfl, rfl⟩ lp hlp
  have hpi := hpl i
  have hpi2 := hpl (i + 1)
  by_cases hil : i < L.length
  · have hget : L[i]? = some L[i] := List.getElem?_eq_getElem hil
    have hc := d3 L[i] (List.getElem_mem hil)
    have hstep := hst i hil
    obtain ⟨c, hcc⟩ : ∃ c, c = L[i] := ⟨_, rfl⟩
    rw [← hcc] at hget hc hstep
    obtain ⟨e1, e2, e3, e4⟩ := hc
    have e5 := enc5 e4 (by omega)
    have k1 := wint_c G c.at_ (by omega) (by omega)
    have k2 := wint_c G c.drop (by omega) (by omega)
    have k3 := wstrs_c G c.add (fun s hs => by have := e4 s hs; omega) (by omega) (by omega)
    have l1 := intB_len9 (n := c.at_) ⟨by omega, by omega⟩
    have l2 := intB_len9 (n := c.drop) ⟨by omega, by omega⟩
    have hch : chB c = intB c.at_ ++ (intB c.drop ++ encL bytesB c.add) := rfl
    rw [hch] at hstep
    generalize intB c.at_ = X at *
    generalize intB c.drop = Y at *
    generalize encL bytesB c.add = Z at *
    have k4 := concat_c G [P i, X, Y, Z] (by simp) (by simp [lenS]; omega)
    have hfl : [P i, X, Y, Z].flatten = P (i + 1) := by rw [hstep]; simp
    rw [hfl] at k4
    simp only [List.map_cons, List.map_nil] at k4
    obtain ⟨p2, hp2⟩ : ∃ p2, p2 = P (i + 1) := ⟨_, rfl⟩
    rw [← hp2] at k4
    obtain ⟨p, hp⟩ : ∃ p, p = P i := ⟨_, rfl⟩
    rw [← hp] at k4 ⊢
    repeat' (first
    | (with_reducible apply W_seq_k; intro nx hnx)
    | (with_reducible first | refine wr 3758157599 ?_ | refine wd (id := 6) 3758157599 4 (.op 0 true (.op 1 true (.op 2 true (.op 4 true (.op 5 true (.op 7 true (.op 8 true (.op 3 true (.op 6 true (.op 9 false (.op 10 false (.op 11 false (.op 12 true (.done)))))))))))))) (by kernel_rfl) ?_)
    | (with_reducible refine WL_born (by simp) rfl (by simp) ?_; simp only [elemsOf, nl, bir, simprocAttr])
    | (with_reducible refine WL_bornH (by simp) (by simp) ?_ ?_ ?_; (· simp [frz, frz1, hnm]); (· simp [frz1, hnm, PV.one, Value.oneCell']); simp only [elemsOf, nl, bir, simprocAttr])
    | ((with_reducible first | (apply WL_op; intro nx hnx) | refine Ev_out ?_ | refine wc ?_ | (apply popsD_op; intro nx hnx) | (refine popsD_alt ?_ ?_; intro nx hnx) | (refine pf hnm fun nm hnm => ?_; try simp only [fmb] at hnm) | (refine pborn_im ?_; simp only [elemsOf, nl, bir, simprocAttr]) | (refine pmaybe_k ?_; intro bn hbn)); try (simp (maxSteps := 2000000) (disch := omega) only [ev, ↓evp, PV.cells, PV.one, PV.mem?, Value.cells, simprocAttr, hnm, Tryd.tf0, Tryd.tf1, Tryd.tf2, Tryd.tf3, Tryd.tf4, Tryd.tf5, Tryd.tf9, Tryd.tf24, Tryd.tf27, Tryd.tf28, Tryd.tf32, Tryd.tf37, Tryd.tf48, Tryd.tf52, Tryd.tf58, Tryd.tf61, Tryd.tf87, Tryd.call15, Tryd.call16, Tryd.call21, Tryd.call22, Tryd.call23, Tryd.call24, Tryd.call25, Tryd.call26, hget, ← hcc, flat_pb]))
    | ((with_reducible first | apply W_block | apply W_scope | apply WL_nil | apply W_label | apply W_skip | apply W_exit | apply W_ret | apply popsD_done | exact popsD_stop) <;> try simp only [kks, simprocAttr])
    | (with_reducible apply pg <;> (intro hc; (try simp only [hcb, simprocAttr, ne_eq, forall_const] at hc); first | (exfalso; omega) | exact absurd trivial hc | skip))
    | (with_reducible apply hnx; clear hnx nx)
    | (with_reducible refine And.intro (by omega) ?_)
    | (with_reducible refine And.intro ?_ ?_)
    | (with_reducible refine pe (k1) ?_)
    | (with_reducible refine pe (k2) ?_)
    | (with_reducible refine pe (k3) ?_)
    | (with_reducible refine pe (k4) ?_)
    | (clear hnx nx; with_reducible apply hnx; clear hnx nx)
    | (clear hnx nx; clear hnx nx; with_reducible apply hnx; clear hnx nx))
    all_goals first
      | exact absurd trivial hc
      | (exfalso
         omega)
      | skip
    skip
    refine hlp _ (L.length - (i + 1)) ⟨fr 68 [(11, pl p2), (31, pn (i + 1)), (30, pint .i64 L.length), (29, .list 3 (L.map Chg.pv)), (8, pnil), (4, .ptr kN 0), (1, pint .i64 n)], [(kN, ⟨32, false, 0, [pstr seed, pint .i64 h]⟩)]⟩ (by omega) ?_ ⟨i + 1, by omega, rfl, by rw [hp2]⟩
    refine Wk_fr (by simp only [wkb, simprocAttr, pn]) ?_
    exact ⟨fun x hx => List.mem_cons_of_mem _ hx, by simp [names]⟩
  · have hi2 : i = L.length := by omega
    subst hi2
    have a1 := isByte_pb (P L.length)
    have a2 := unb_pb (P L.length)
    have k1 := wbytes_r G (P L.length) (by omega)
    have k2 := wbytes_c G sg (by omega)
    have hbl := bytesB_len (P L.length) (by omega)
    have hbl2 := bytesB_len sg (by omega)
    generalize P L.length = p at *
    by_cases her : er = 0
    · subst her
      repeat' (first
    | (with_reducible apply W_seq_k; intro nx hnx)
    | (with_reducible first | refine wr 3758157599 ?_ | refine wd (id := 6) 3758157599 4 (.op 0 true (.op 1 true (.op 2 true (.op 4 true (.op 5 true (.op 7 true (.op 8 true (.op 3 true (.op 6 true (.op 9 false (.op 10 false (.op 11 false (.op 12 true (.done)))))))))))))) (by kernel_rfl) ?_)
    | (with_reducible refine WL_born (by simp) rfl (by simp) ?_; simp only [elemsOf, nl, bir, simprocAttr])
    | (with_reducible refine WL_bornH (by simp) (by simp) ?_ ?_ ?_; (· simp [frz, frz1, hnm]); (· simp [frz1, hnm, PV.one, Value.oneCell']); simp only [elemsOf, nl, bir, simprocAttr])
    | ((with_reducible first | (apply WL_op; intro nx hnx) | refine Ev_out ?_ | refine wc ?_ | (apply popsD_op; intro nx hnx) | (refine popsD_alt ?_ ?_; intro nx hnx) | (refine pf hnm fun nm hnm => ?_; try simp only [fmb] at hnm) | (refine pborn_im ?_; simp only [elemsOf, nl, bir, simprocAttr]) | (refine pmaybe_k ?_; intro bn hbn)); try (simp (maxSteps := 2000000) (disch := omega) only [ev, ↓evp, PV.cells, PV.one, PV.mem?, Value.cells, simprocAttr, hnm, Tryd.tf0, Tryd.tf1, Tryd.tf2, Tryd.tf3, Tryd.tf4, Tryd.tf5, Tryd.tf9, Tryd.tf24, Tryd.tf27, Tryd.tf28, Tryd.tf32, Tryd.tf37, Tryd.tf48, Tryd.tf52, Tryd.tf58, Tryd.tf61, Tryd.tf87, Tryd.call15, Tryd.call16, Tryd.call21, Tryd.call22, Tryd.call23, Tryd.call24, Tryd.call25, Tryd.call26, a1, a2, flat_pb]))
    | ((with_reducible first | apply W_block | apply W_scope | apply WL_nil | apply W_label | apply W_skip | apply W_exit | apply W_ret | apply popsD_done | exact popsD_stop) <;> try simp only [kks, simprocAttr])
    | (with_reducible apply pg <;> (intro hc; (try simp only [hcb, simprocAttr, ne_eq, forall_const] at hc); first | (exfalso; omega) | exact absurd trivial hc | skip))
    | (with_reducible apply hnx; clear hnx nx)
    | (with_reducible refine And.intro (by omega) ?_)
    | (with_reducible refine And.intro ?_ ?_)
    | (with_reducible refine pe (s1) ?_)
    | (with_reducible refine pe (k2) ?_)
    | ((with_reducible refine pcall_k k1 ?_; rintro _ _ ⟨N0, rfl, rfl⟩ -; refine Ev_in ?_))
    | (clear hnx nx; with_reducible apply hnx; clear hnx nx)
    | (clear hnx nx; clear hnx nx; with_reducible apply hnx; clear hnx nx))
      all_goals first
        | exact absurd trivial hc
        | (exfalso
           omega)
        | exact (by kernel_rfl : Tryd.prog.underlying 5 = some (.int .u8))
        | skip
      skip
      refine hfin _ _ (Fin_ret2 rfl rfl (Sub_sw nm) ?_)
      simp only [cob, simprocAttr]
      first | exact .inl ⟨rfl, nm, by rw [List.length_append], by rw [List.map_append]⟩ | exact .inl ⟨rfl, nm, by rw [if_pos rfl, List.length_append], by rw [if_pos rfl, List.map_append]⟩
    · repeat' (first
    | (with_reducible apply W_seq_k; intro nx hnx)
    | (with_reducible first | refine wr 3758157599 ?_ | refine wd (id := 6) 3758157599 4 (.op 0 true (.op 1 true (.op 2 true (.op 4 true (.op 5 true (.op 7 true (.op 8 true (.op 3 true (.op 6 true (.op 9 false (.op 10 false (.op 11 false (.op 12 true (.done)))))))))))))) (by kernel_rfl) ?_)
    | (with_reducible refine WL_born (by simp) rfl (by simp) ?_; simp only [elemsOf, nl, bir, simprocAttr])
    | (with_reducible refine WL_bornH (by simp) (by simp) ?_ ?_ ?_; (· simp [frz, frz1, hnm]); (· simp [frz1, hnm, PV.one, Value.oneCell']); simp only [elemsOf, nl, bir, simprocAttr])
    | ((with_reducible first | (apply WL_op; intro nx hnx) | refine Ev_out ?_ | refine wc ?_ | (apply popsD_op; intro nx hnx) | (refine popsD_alt ?_ ?_; intro nx hnx) | (refine pf hnm fun nm hnm => ?_; try simp only [fmb] at hnm) | (refine pborn_im ?_; simp only [elemsOf, nl, bir, simprocAttr]) | (refine pmaybe_k ?_; intro bn hbn)); try (simp (maxSteps := 2000000) (disch := omega) only [ev, ↓evp, PV.cells, PV.one, PV.mem?, Value.cells, simprocAttr, hnm, Tryd.tf0, Tryd.tf1, Tryd.tf2, Tryd.tf3, Tryd.tf4, Tryd.tf5, Tryd.tf9, Tryd.tf24, Tryd.tf27, Tryd.tf28, Tryd.tf32, Tryd.tf37, Tryd.tf48, Tryd.tf52, Tryd.tf58, Tryd.tf61, Tryd.tf87, Tryd.call15, Tryd.call16, Tryd.call21, Tryd.call22, Tryd.call23, Tryd.call24, Tryd.call25, Tryd.call26, a1, a2, flat_pb]))
    | ((with_reducible first | apply W_block | apply W_scope | apply WL_nil | apply W_label | apply W_skip | apply W_exit | apply W_ret | apply popsD_done | exact popsD_stop) <;> try simp only [kks, simprocAttr])
    | (with_reducible apply pg <;> (intro hc; (try simp only [hcb, simprocAttr, ne_eq, forall_const] at hc); first | (exfalso; omega) | exact absurd trivial hc | skip))
    | (with_reducible apply hnx; clear hnx nx)
    | (with_reducible refine And.intro (by omega) ?_)
    | (with_reducible refine And.intro ?_ ?_)
    | (with_reducible refine pe (s1) ?_)
    | (clear hnx nx; with_reducible apply hnx; clear hnx nx)
    | (clear hnx nx; clear hnx nx; with_reducible apply hnx; clear hnx nx))
      all_goals first
        | exact absurd trivial hc
        | (exfalso
           omega)
        | exact (by kernel_rfl : Tryd.prog.underlying 5 = some (.int .u8))
        | skip
      skip
      refine hfin _ _ (Fin_ret2 rfl rfl (Sub_nil _) ?_)
      simp only [cob, simprocAttr]
      first | exact .inr ⟨by rw [if_neg her], by rw [if_neg her], rfl⟩ | exact .inr ⟨rfl, rfl, rfl⟩ | exact .inr ⟨rfl, by simp [her], rfl⟩
theorem encode_c (G : Globs) (hG : G 0 = .iptr (KS.map pw) 0) (seed : List UInt8) (h n : Int) (u v : List (List UInt8)) (hs : seed.length ≤ 4000) (hn : inR n) (hu : Small u) (hv : Small v) :
    PCalls Tryd.prog G 8 [keyP seed h, pint .i64 n, .list 1 (u.map pstr), .list 1 (v.map pstr)] [] (fun res H => res = .tuple [.list 1 ((encF seed h n u v).1.map pbyte), pint .i64 (encF seed h n u v).2] ∧ H = []) := EncR.frz (encode_r G hG seed h n u v hs hn hu hv)
end Go.PM
