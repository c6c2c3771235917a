/- Joined texts (Oe No Nq Nu Of Og Nv Nw Ny Nz Oa Ob Oc): the machine, the contracts, the laws. Conditions: none but those that each names. -/
import Derived.Test.YtmnfkfikhcjeaaaJd
set_option linter.unusedSimpArgs false
set_option linter.unusedVariables false
namespace Go.PM
open Go.Proofs
/-- A packet with a number that is due, or that is known. -/
theorem in_due {s : LE} {q a : Nat} {b : List UInt8} (hq : 1 ≤ q) (hqg : q ≤ s.got + 1) (hb : b.length ≤ 65536) (hql : q ≤ 4000000000) (hal : a ≤ 4000000000) (hh : s.held = []) (ha : a ≤ s.acked + s.wait.length) :
    ∃ s', inL s (sealP s.key q a b) = ((if q = s.got + 1 then [b] else [], 0), s') ∧ s'.got = max s.got q ∧ s'.acked = max s.acked a ∧ s'.owing = true ∧ s'.held = [] := by
  have e := in_pack s q a b hql hal hb (.inl hq)
  rw [e]
  unfold takeL
  simp only [Int.toNat_natCast]
  rw [if_neg (by omega), if_neg (by omega)]
  have hA : (ackL s a).got = s.got ∧ (ackL s a).held = [] ∧ (ackL s a).acked = max s.acked a := by
    unfold ackL
    split
    · exact ⟨rfl, hh, by simp only; omega⟩
    · exact ⟨rfl, hh, by omega⟩
  obtain ⟨h1, h2, h3⟩ := hA
  generalize ackL s a = s1 at *
  by_cases hd : q = s.got + 1
  · have hH : holdL s1 q b = { s1 with owing := true, held := [(q, b)] } := by
      rw [holdL, if_pos ⟨by omega, by rw [h2]; rfl⟩, h2]
      rfl
    have hp : pull (s1.got + 1) [(q, b)] = some (b, []) := by
      simp only [pull]
      rw [if_pos (by omega)]
    have hD := delL_some (s := { s1 with owing := true, held := [(q, b)] }) hp
    have hN := delL_none (s := { s1 with owing := true, held := [], got := s1.got + 1 }) rfl
    rw [hH, hD]
    simp only at hN ⊢
    rw [hN, if_pos hd]
    exact ⟨_, rfl, by simp only; omega, h3, rfl, rfl⟩
  · have hH : holdL s1 q b = { s1 with owing := true } := by
      rw [holdL, if_neg (by omega)]
    have hD := delL_none (s := { s1 with owing := true }) (by rw [show ({ s1 with owing := true } : LE).held = s1.held from rfl, h2]; rfl)
    rw [hH, hD, if_neg hd]
    exact ⟨_, rfl, by simp only; omega, h3, rfl, h2⟩
/-- An acknowledgement alone. -/
theorem in_ackd {s : LE} {a : Nat} (hal : a ≤ 4000000000) (ha : a ≤ s.acked + s.wait.length) :
    ∃ s', inL s (sealP s.key 0 a []) = (([], 0), s') ∧ s'.got = s.got ∧ s'.acked = max s.acked a ∧ s'.owing = s.owing ∧ s'.held = s.held := by
  have e := in_pack s 0 a [] (by omega) hal (by simp) (.inr rfl)
  have e : inL s (sealP s.key 0 a []) = _ := e
  rw [e]
  unfold takeL
  simp only [Int.toNat_natCast]
  rw [if_neg (by omega), if_pos trivial]
  refine ⟨_, rfl, ?_⟩
  unfold ackL
  by_cases hx : s.acked < a
  · rw [if_pos hx]
    exact ⟨rfl, by simp only; omega, rfl, rfl⟩
  · rw [if_neg hx]
    exact ⟨rfl, by show s.acked = max s.acked a; omega, rfl, rfl⟩
/-- After j packets of s have come in at r. S: what s has sent; R: what r has sent. -/
structure Jinv (i0 : Nat) (key : UInt64) (S R : List (List UInt8)) (s r : LE) (j : Nat) (rj : LE) : Prop where
  ord : OrdE (i0 + j) key R S s.got rj
  held : rj.held = []
  got : rj.got = if s.acked = S.length then r.got else max r.got (s.acked + j)
  acked : rj.acked = if j = 0 then r.acked else max r.acked s.got
  owing : rj.owing = if j = 0 ∨ s.acked = S.length then r.owing else true
theorem OrdE.due {i0 j : Nat} {key : UInt64} {S R : List (List UInt8)} {s r rj : LE} (hs : OrdE i0 key S R r.got s) (hr : OrdE i0 key R S s.got r) (hi : i0 + j ≤ 100000) (hJ : Jinv i0 key S R s r j rj) (hj : j < (outL s).1.length) :
    ∃ l r', inL rj ((outL s).1[j]) = ((l, 0), r') ∧ l = (S.drop rj.got).take l.length ∧ r'.got = rj.got + l.length ∧ l.length ≤ 1 ∧ Jinv i0 key S R s r (j + 1) r' := by
  obtain ⟨o1, o2, o3, o4, o5⟩ := hJ
  have hp := hs.out.1 _ (List.getElem_mem hj)
  obtain ⟨l, r', e1, e2, e3, e4⟩ := o1.in_ (by omega) (x := (outL s).1[j]) hp
  have hw := hs.wlen
  have hrw := o1.wlen
  have hpg := o1.pg
  have hac := o1.acked
  have hsa := hs.acked
  have hsp := hs.pg
  have hsl := hs.len
  have hrt := o1.len
  refine ⟨l, r', e1, e2, e3, ?_⟩
  have hE : (outL s).1 = if min s.wait.length s.win = 0 ∧ s.owing = true then [sealP s.key 0 s.got []] else outP s := rfl
  by_cases hc : min s.wait.length s.win = 0 ∧ s.owing = true
  · have hX : (outL s).1 = [sealP s.key 0 s.got []] := by rw [hE, if_pos hc]
    have hj0 : j = 0 := by
      rw [hX] at hj
      simpa using hj
    subst hj0
    have hx : (outL s).1[0] = sealP rj.key 0 s.got [] := by
      rw [o1.key, ← hs.key]
      simp only [hX, List.getElem_cons_zero]
    obtain ⟨s', f1, f2, f3, f4, f5⟩ := in_ackd (s := rj) (a := s.got) (by omega) (by omega)
    rw [hx, f1] at e1
    cases e1
    have hwin : s.wait.length = 0 ∨ s.win = 0 := by omega
    refine ⟨by simp, e4, f5.trans o2, ?_, ?_, ?_⟩
    · rw [f2, o3]
      split
      · rfl
      · rename_i hne
        simp only [List.length_nil, Nat.add_zero] at e3
        have : s.win = 0 ∨ s.acked = S.length := by omega
        rcases this with h0 | h0
        · exact absurd h0 (by have := hs.wpos; omega)
        · exact absurd h0 hne
    · rw [f3, o4]
      simp
    · rw [f4, o5]
      have : s.acked = S.length := by
        rcases hwin with h0 | h0
        · omega
        · exact absurd h0 (by have := hs.wpos; omega)
      simp [this]
  · have hX : (outL s).1 = outP s := by rw [hE, if_neg hc]
    have hw2 : (outP s).length = min s.wait.length s.win := by simp [outP]
    have hjw : j < min s.wait.length s.win := by rw [← hw2, ← hX]; exact hj
    have hne : ¬ s.acked = S.length := by omega
    have hjl : j < s.wait.length := by omega
    have hx : (outL s).1[j] = sealP rj.key ((s.acked + j + 1 : Nat) : Int) s.got (s.wait.getD j []) := by
      rw [o1.key, ← hs.key]
      simp only [hX, outP, List.getElem_map, List.getElem_range, pktL]
    have hb : (s.wait.getD j []).length ≤ 65536 := by
      rw [List.getD_eq_getElem?_getD, List.getElem?_eq_getElem hjl]
      exact hs.wmsgs _ (List.getElem_mem hjl)
    rw [if_neg hne] at o3
    obtain ⟨s', f1, f2, f3, f4, f5⟩ := in_due (s := rj) (q := s.acked + j + 1) (a := s.got) (b := s.wait.getD j []) (by omega) (by omega) hb (by omega) (by omega) o2 (by omega)
    rw [hx, f1] at e1
    cases e1
    refine ⟨?_, e4, f5, ?_, ?_, ?_⟩
    · split <;> simp
    · rw [f2, o3, if_neg hne]
      omega
    · rw [f3, o4, if_neg (show ¬ j + 1 = 0 by omega)]
      split <;> omega
    · rw [f4]
      simp [hne]
/-- Nothing has come in yet. -/
theorem Jinv.zero {i0 : Nat} {key : UInt64} {S R : List (List UInt8)} {s r : LE} (hs : OrdE i0 key S R r.got s) (hr : OrdE i0 key R S s.got r) (hh : r.held = []) : Jinv i0 key S R s r 0 r := by
  refine ⟨hr, hh, ?_, by simp, by simp⟩
  have := hs.acked
  split
  · rfl
  · omega
/-- What holds between two rounds: a is first. -/
structure ProI (i n : Nat) (key : UInt64) (S R : List (List UInt8)) (a b : LE) : Prop where
  oa : OrdE i key S R b.got a
  ob : OrdE i key R S a.got b
  ha : a.held = []
  hb : b.held = []
  fresh : a.acked = b.got
  owes : a.owing = true ∨ b.acked = a.got
  db : min n S.length ≤ b.got
  da : min n R.length ≤ a.got
  fin : max S.length R.length < n → b.acked = R.length
/-- What holds between the two halves of a round. -/
structure MidI (i n : Nat) (key : UInt64) (S R : List (List UInt8)) (a b : LE) : Prop where
  oa : OrdE i key S R b.got a
  ob : OrdE i key R S a.got b
  ha : a.held = []
  hb : b.held = []
  seen : b.acked = a.got
  owes : b.owing = true ∨ a.acked = b.got
  db : min (n + 1) S.length ≤ b.got
  da : min n R.length ≤ a.got
theorem ProI.half {i n : Nat} {key : UInt64} {S R : List (List UInt8)} {a b rj : LE} (h : ProI i n key S R a b) (hJ : Jinv i key S R a b (outL a).1.length rj) : MidI (i + 16) n key S R (outL a).2 rj := by
  obtain ⟨o1, o2, o3, o4, o5⟩ := hJ
  obtain ⟨p1, p2, p3, p4⟩ := h.oa.out
  have hw := h.oa.wlen
  have hwp := h.oa.wpos
  have hE : (outL a).1 = if min a.wait.length a.win = 0 ∧ a.owing = true then [sealP a.key 0 a.got []] else outP a := rfl
  have hacc := h.oa.acked
  have hpg := h.oa.pg
  have hbk := h.ob.acked
  have hdb := h.db
  have hfr := h.fresh
  have how := h.owes
  have hlen : (outL a).1.length = if min a.wait.length a.win = 0 ∧ a.owing = true then 1 else min a.wait.length a.win := by
    rw [hE]
    split
    · rfl
    · simp [outP]
  have hgm : b.got ≤ rj.got := by
    rw [o3]
    split <;> omega
  refine ⟨(p4.up (by omega)).more hgm ?_, ?_, h.ha, o2, ?_, ?_, ?_, h.da⟩
  · have := o1.got
    exact this
  · have : (outL a).2.got = a.got := rfl
    rw [this]
    exact o1.up (by omega)
  · show rj.acked = a.got
    rw [o4]
    split
    · rename_i h0
      rw [hlen] at h0
      rcases how with how | how
      · split at h0
        · omega
        · rename_i hn
          exact absurd ⟨h0, how⟩ hn
      · exact how
    · omega
  · show rj.owing = true ∨ a.acked = rj.got
    rw [o5, o3]
    by_cases hx : a.acked = S.length
    · right
      rw [if_pos hx]
      exact hfr
    · left
      have h0 : ¬ (outL a).1.length = 0 := by
        rw [hlen]
        split
        · omega
        · omega
      simp [hx, h0]
  · rw [o3]
    split
    · rename_i hx
      omega
    · rename_i hx
      have h0 : 1 ≤ (outL a).1.length := by
        rw [hlen]
        split
        · omega
        · omega
      omega
theorem MidI.half {i n : Nat} {key : UInt64} {S R : List (List UInt8)} {a b rj : LE} (h : MidI i n key S R a b) (hJ : Jinv i key R S b a (outL b).1.length rj) : ProI (i + 16) (n + 1) key S R rj (outL b).2 := by
  obtain ⟨o1, o2, o3, o4, o5⟩ := hJ
  obtain ⟨p1, p2, p3, p4⟩ := h.ob.out
  have hw := h.ob.wlen
  have hwp := h.ob.wpos
  have hE : (outL b).1 = if min b.wait.length b.win = 0 ∧ b.owing = true then [sealP b.key 0 b.got []] else outP b := rfl
  have hacc := h.ob.acked
  have hpg := h.ob.pg
  have hbk := h.oa.acked
  have hda := h.da
  have hsn := h.seen
  have how := h.owes
  have hlen : (outL b).1.length = if min b.wait.length b.win = 0 ∧ b.owing = true then 1 else min b.wait.length b.win := by
    rw [hE]
    split
    · rfl
    · simp [outP]
  have hgm : a.got ≤ rj.got := by
    rw [o3]
    split <;> omega
  have hgl := o1.got
  refine ⟨?_, (p4.up (by omega)).more hgm hgl, o2, h.hb, ?_, ?_, h.db, ?_, ?_⟩
  · have : (outL b).2.got = b.got := rfl
    rw [this]
    exact o1.up (by omega)
  · show rj.acked = b.got
    rw [o4]
    split
    · rename_i h0
      rw [hlen] at h0
      rcases how with how | how
      · split at h0
        · omega
        · rename_i hn
          exact absurd ⟨h0, how⟩ hn
      · exact how
    · omega
  · show rj.owing = true ∨ b.acked = rj.got
    rw [o5, o3]
    by_cases hx : b.acked = R.length
    · right
      rw [if_pos hx]
      exact hsn
    · left
      have h0 : ¬ (outL b).1.length = 0 := by
        rw [hlen]
        split
        · omega
        · omega
      simp [hx, h0]
  · rw [o3]
    split
    · rename_i hx
      omega
    · rename_i hx
      have h0 : 1 ≤ (outL b).1.length := by
        rw [hlen]
        split
        · omega
        · omega
      omega
  · intro hn
    show b.acked = R.length
    omega
end Go.PM

namespace Go.PM
open Go.Proofs
instance decLE : DecidableEq LE := fun a b => decidable_of_iff (a.win = b.win ∧ a.key = b.key ∧ a.wait = b.wait ∧ a.acked = b.acked ∧ a.got = b.got ∧ a.held = b.held ∧ a.owing = b.owing ∧ a.forged = b.forged) (by
  cases a
  cases b
  simp)
theorem WL_nd {P : Program} {G : Globs} {I : List Int} {l0 l : List Oper} {σ : PState} {K : PState → Prop} (h : (names σ.heap).Nodup → WL P G I l0 l σ K) : WL P G I l0 l σ K :=
  fun E hE A a w hs => h hs.nodup E hE A a w hs
theorem lv1 : (sendL (newL 2 9) [97]) = (0, ⟨2, 9, [[97]], 0, 0, [], false, 0⟩) := by decide +kernel
theorem lv2 : (sendL ⟨2, 9, [[97]], 0, 0, [], false, 0⟩ [98]) = (0, ⟨2, 9, [[97], [98]], 0, 0, [], false, 0⟩) := by decide +kernel
theorem lv3 : (sendL ⟨2, 9, [[97], [98]], 0, 0, [], false, 0⟩ [99]) = (0, ⟨2, 9, [[97], [98], [99]], 0, 0, [], false, 0⟩) := by decide +kernel
theorem lv4 : outL ⟨2, 9, [[97], [98], [99]], 0, 0, [], false, 0⟩ = ([sealP 9 1 0 [97], sealP 9 2 0 [98]], ⟨2, 9, [[97], [98], [99]], 0, 0, [], false, 0⟩) := by decide +kernel
theorem lv5 : inL (newL 2 9) (sealP 9 2 0 [98]) = (([], 0), ⟨2, 9, [], 0, 0, [(2, [98])], true, 0⟩) := by decide +kernel
theorem lv6 : inL ⟨2, 9, [], 0, 0, [(2, [98])], true, 0⟩ (sealP 9 1 0 [97]) = (([[97], [98]], 0), ⟨2, 9, [], 0, 2, [], true, 0⟩) := by decide +kernel
theorem lv7 : outL ⟨2, 9, [], 0, 2, [], true, 0⟩ = ([sealP 9 0 2 []], ⟨2, 9, [], 0, 2, [], false, 0⟩) := by decide +kernel
theorem lv8 : inL ⟨2, 9, [[97], [98], [99]], 0, 0, [], false, 0⟩ (sealP 9 0 2 []) = (([], 0), ⟨2, 9, [[99]], 2, 0, [], false, 0⟩) := by decide +kernel
theorem lv9 : outL ⟨2, 9, [[99]], 2, 0, [], false, 0⟩ = ([sealP 9 3 0 [99]], ⟨2, 9, [[99]], 2, 0, [], false, 0⟩) := by decide +kernel
theorem sealP_len (key : UInt64) (q a : Int) (b : List UInt8) (h1 : inR q) (h2 : inR a) (hb : b.length ≤ 100000) : (sealP key q a b).length ≤ 100048 := by
  have := packB_len q a b h1 h2 hb
  have := sealB_len key (packB q a b)
  rw [sealP, List.length_append]
  omega
/-- An end comes back. -/
theorem new_ok (G : Globs) (win : Int) (key : UInt64) (h : 1 ≤ win ∧ win ≤ 16) : PCalls Try.prog G 28 [pint .i64 win, pq key] [] (fun res H => ∃ e, res = .tuple [.ptr e 0, pint .i64 0] ∧ IsEnd e (newL win.toNat key) H) := by
  refine (new_c G win key).mono ?_
  rintro res H (⟨h1, _⟩ | ⟨_, _, h3⟩)
  · exact absurd h h1
  · exact h3
attribute [local irreducible] W PCalls pcall pcallI WL
section
variable {P : Program} {G : Globs} {I : List Int}
/-- A marked row is turned no more. -/
theorem WL_mark {l0 l : List Oper} {K : PState → Prop} {N d d2 : Nat} {L : List (Nat × PV)} {n : Int} {e : TypeId} {len : Nat} {cells : List PV} {H : Heap} (hI : n ∉ I) (hc : len = cells.length)
    (hL : ∀ x ∈ L, frz n cells x.2 = x.2) (hH : ∀ x ∈ H, x.1 ≠ n ∧ ∀ u ∈ x.2.cells, frz1 n cells u = u ∧ u.one = true)
    (h : WL P G I l0 l ⟨fr N ((d, .list 1 cells) :: (d2, .list 1 cells) :: L), H⟩ K) : WL P G I l0 l ⟨fr N ((d, .row n 1 len) :: (d2, .row n 1 len) :: L), (n, ⟨e, false, 1, cells⟩) :: H⟩ K := by
  subst hc
  have hdel : del ((n, (⟨e, false, 1, cells⟩ : PObj)) :: H) n = H := by
    simp only [del, if_true]
  refine WL_x ?_ h
  have h1 := Wx.freeze_f (G := G) (I := I) (N := N) (l := (d, .row n 1 cells.length) :: (d2, .row n 1 cells.length) :: L) (H := (n, ⟨e, false, 1, cells⟩) :: H) n (o := ⟨e, false, 1, cells⟩) hI (by simp only [look, if_true]) (by
    intro x hx u hu
    rw [hdel] at hx
    obtain ⟨h2, h3⟩ := (hH x hx).2 u hu
    rw [h2]
    exact h3)
  have e1 : L.map (fun x => (x.1, frz n cells x.2)) = L := by
    conv => rhs; rw [← List.map_id L]
    exact List.map_congr_left fun x hx => by rw [hL x hx]; rfl
  have e2 : frz n cells (.row n 1 cells.length) = .list 1 cells := by
    simp only [frz, frz1, if_true]
    rw [if_pos ⟨by omega, by omega⟩, elems_all]
  have e3 : frzH n cells ((n, ⟨e, false, 1, cells⟩) :: H) = H := by
    unfold frzH
    rw [hdel]
    conv => rhs; rw [← List.map_id H]
    refine List.map_congr_left fun x hx => ?_
    have h4 : x.2.cells.map (frz1 n cells) = x.2.cells := by
      conv => rhs; rw [← List.map_id x.2.cells]
      exact List.map_congr_left fun u hu => ((hH x hx).2 u hu).1
    rw [h4]
    rfl
  rw [List.map_cons, List.map_cons, e1] at h1
  simp only [e2, e3] at h1
  exact h1
end
theorem isEnd_frz {e n : Int} {s : LE} {H : Heap} (xs : List PV) (hE : IsEnd e s H) (hn : n ∉ names H) : ∀ x ∈ H, x.1 ≠ n ∧ ∀ u ∈ x.2.cells, frz1 n xs u = u ∧ u.one = true := by
  obtain ⟨w, m, rfl⟩ := hE
  simp only [names, List.map_cons, List.map_nil, List.mem_cons, List.not_mem_nil, or_false, not_or] at hn
  exact end_frz hn.1 hn.2.1 hn.2.2
theorem two_frz {n a b : Int} {o : PObj} {sa sb : LE} {Ha Hb : Heap} (xs : List PV) (hEb : IsEnd b sb Hb) (hEa : IsEnd a sa Ha) (nd : (names ((n, o) :: (Hb ++ Ha))).Nodup) : ∀ x ∈ Hb ++ Ha, x.1 ≠ n ∧ ∀ u ∈ x.2.cells, frz1 n xs u = u ∧ u.one = true := by
  have h1 : n ∉ names (Hb ++ Ha) := (List.nodup_cons.1 nd).1
  simp only [names, List.map_append, List.mem_append, not_or] at h1
  intro x hx
  rcases List.mem_append.1 hx with h | h
  · exact isEnd_frz xs hEb h1.1 x h
  · exact isEnd_frz xs hEa h1.2 x h
theorem two_ne {n a b : Int} {o : PObj} {sa sb : LE} {Ha Hb : Heap} (hEb : IsEnd b sb Hb) (hEa : IsEnd a sa Ha) (nd : (names ((n, o) :: (Hb ++ Ha))).Nodup) : (a = n) = False ∧ (b = n) = False := by
  have h1 : n ∉ names (Hb ++ Ha) := (List.nodup_cons.1 nd).1
  simp only [names, List.map_append, List.mem_append, not_or] at h1
  obtain ⟨w, m, rfl⟩ := hEa
  obtain ⟨w2, m2, rfl⟩ := hEb
  exact ⟨eq_false fun e => h1.2 (by simp [e]), eq_false fun e => h1.1 (by simp [e])⟩
/-- Two ends come back. -/
def winA (window : Int) : Nat := 1 + arN window 16
def winB (window : Int) : Nat := 1 + arN (window.tdiv 16) 16
set_option maxRecDepth 100000 in
set_option maxHeartbeats 8000000 in
theorem ends_c (G : Globs) (window : Int) (key : UInt64) (hw : inR window) : PCalls Try.prog G 9 [pint .i64 window, pq key] []
    (fun res H => ∃ (b a : Int) (Hb Ha : Heap), res = .list 1 [.ptr a 0, .ptr b 0] ∧ H = Hb ++ Ha ∧ IsEnd b (newL (winB window) key) Hb ∧ IsEnd a (newL (winA window) key) Ha) := by
  have h1 := arN_lt window 16 (by omega)
  have h2 := arN_lt (window.tdiv 16) 16 (by omega)
  have hq : inR (window.tdiv 16) := by
    obtain ⟨h3, h4⟩ := hw
    constructor
    · rcases Int.le_total 0 window with h | h
      · have := Int.tdiv_nonneg h (show (0 : Int) ≤ 16 by omega)
        omega
      · obtain ⟨w, rfl⟩ : ∃ w : Int, window = -w := ⟨-window, by omega⟩
        rw [Int.neg_tdiv]
        have := Int.tdiv_le_self (b := 16) (show 0 ≤ w by omega)
        omega
    · rcases Int.le_total 0 window with h | h
      · have := Int.tdiv_le_self (b := 16) h
        omega
      · obtain ⟨w, rfl⟩ : ∃ w : Int, window = -w := ⟨-window, by omega⟩
        rw [Int.neg_tdiv]
        have := Int.tdiv_nonneg (show 0 ≤ w by omega) (show (0 : Int) ≤ 16 by omega)
        omega
  have c1 := around_c G window 16 (by omega) (by omega) hw
  have c2 := around_c G (window.tdiv 16) 16 (by omega) (by omega) hq
  have hwr : IntKind.i64.wrap (window.tdiv 16) = window.tdiv 16 := wr64 _ hq.1 hq.2
  have n1 := new_ok G (winA window : Nat) key (by rw [winA]; omega)
  have n2 := new_ok G (winB window : Nat) key (by rw [winB]; omega)
  rw [Int.toNat_natCast] at n1 n2
  have e1 : (1 : Int) + (arN window 16 : Nat) = (winA window : Nat) := by rw [winA]; omega
  have e2 : (1 : Int) + (arN (window.tdiv 16) 16 : Nat) = (winB window : Nat) := by rw [winB]; omega
  have h3 : winA window ≤ 16 := by rw [winA]; omega
  have h4 : winB window ≤ 16 := by rw [winB]; omega
  generalize winA window = wa at *
  generalize winB window = wb at *
  generalize arN window 16 = ka at *
  generalize arN (window.tdiv 16) 16 = kb at *
  (refine PCalls_f Try.func9 rfl Try.ntmps9 Try.results9 (by simp) fun fin hfin => ?_; have hnm : True := trivial; simp (maxSteps := 2000000) (disch := omega) only [evb, evd, pbuiltin, constPV, pnck, seqK, blockK, scopeK, pbin, pun, ppick, plen, piaddr, pindex, pfield, pslice, pbound, pconv, pelems, pextract, pmm, PV.mem?, PV.one, PV.cells, pageq, peqs, peq1, pmakes, pstore, pbytes, pmark, psrc, pkey, pnile, pcap, pgrow, List.set, Value.cells, ↓popG_eq, ↓pop.eq_1, ↓List.getElem?_map, ↓List.getElem?_cons_zero, ↓List.getElem?_cons_succ, Value.oneCell', Nat.reduceAdd, Nat.reduceMul, Nat.reduceSub, Nat.reduceLeDiff, Nat.reduceEqDiff, ↓reduceIte, ne_eq, reduceCtorEq, forall_const, exists_and_left, exists_eq_left', eq_self, Nat.reduceLT, Int.reduceLT, Int.reduceLE, Int.reduceToNat, Int.reduceAdd, Int.reduceSub, Int.reduceNeg, hnm, Try.tf0, Try.tf1, Try.tf2, Try.tf3, Try.tf4, Try.tf22, Try.tf24, Try.tf34, Try.tf35, Try.tf53, Try.tf65, Try.teq79, Try.call10, Try.call28])
  repeat' (first
    | (with_reducible apply W_seq_k; intro nx hnx)
    | (with_reducible first | apply W_block | apply W_scope)
    | (with_reducible refine W_prune 499 ?_; simp only [prb, Nat.reducePow, Nat.reduceDiv, Nat.reduceMod, Nat.reduceBEq]; with_reducible apply W_region_l)
    | (with_reducible refine WL_born (by simp) rfl (by simp) ?_; simp only [elemsOf, nl, List.map_cons, List.map_nil, Nat.reduceEqDiff, ↓reduceIte, List.take_succ_cons, List.take_zero, List.range_succ, List.range_zero, List.nil_append, List.cons_append, List.map_append, List.drop_succ_cons, List.drop_zero, Nat.reduceMul, Nat.zero_mul, Nat.one_mul, Nat.reduceAdd])
    | ((first | (with_reducible apply WL_op; intro nx hnx) | with_reducible refine Ev_out ?_ | (with_reducible refine pfresh_k hnm fun nm hnm => ?_; (try simp only [fmb] at hnm)) | (with_reducible refine pborn_im ?_; simp only [elemsOf, nl, List.map_cons, List.map_nil, Nat.reduceEqDiff, ↓reduceIte, List.take_succ_cons, List.take_zero, List.range_succ, List.range_zero, List.nil_append, List.cons_append, List.map_append, List.drop_succ_cons, List.drop_zero, Nat.reduceMul, Nat.zero_mul, Nat.one_mul, Nat.reduceAdd]) | (with_reducible refine pmaybe_k ?_; intro bn hbn)); try (simp (maxSteps := 2000000) (disch := omega) only [evb, evd, pbuiltin, constPV, pnck, seqK, blockK, scopeK, pbin, pun, ppick, plen, piaddr, pindex, pfield, pslice, pbound, pconv, pelems, pextract, pmm, PV.mem?, PV.one, PV.cells, pageq, peqs, peq1, pmakes, pstore, pbytes, pmark, psrc, pkey, pnile, pcap, pgrow, List.set, Value.cells, ↓popG_eq, ↓pop.eq_1, ↓List.getElem?_map, ↓List.getElem?_cons_zero, ↓List.getElem?_cons_succ, Value.oneCell', Nat.reduceAdd, Nat.reduceMul, Nat.reduceSub, Nat.reduceLeDiff, Nat.reduceEqDiff, ↓reduceIte, ne_eq, reduceCtorEq, forall_const, exists_and_left, exists_eq_left', eq_self, Nat.reduceLT, Int.reduceLT, Int.reduceLE, Int.reduceToNat, Int.reduceAdd, Int.reduceSub, Int.reduceNeg, hnm, Try.tf0, Try.tf1, Try.tf2, Try.tf3, Try.tf4, Try.tf22, Try.tf24, Try.tf34, Try.tf35, Try.tf53, Try.tf65, Try.teq79, Try.call10, Try.call28, e1, hwr]); repeat (refine And.intro (by omega) ?_))
    | ((with_reducible first | apply WL_nil | apply W_label | apply W_skip | apply W_exit | apply W_ret); try simp only [seqK, blockK, scopeK, ↓reduceIte, Nat.reduceEqDiff])
    | (with_reducible apply pguard_intro <;> (intro hc; (try simp only [hcb, reduceCtorEq, forall_const, ne_eq] at hc); first | (exfalso; omega) | (exfalso; exact hc trivial) | refine Ev_in ?_))
    | (with_reducible apply W_cond_k; intro _ _ ea eb; (simp only [condK, cob, opnd, constPV, Nat.reduceEqDiff, Nat.reduceLT, ↓reduceIte, hcb, reduceCtorEq, forall_const, ne_eq]); subst ea eb; first | (refine ⟨fun hc => ?_, fun hc => ?_⟩ <;> first | (exfalso; omega) | (exfalso; exact hc trivial) | skip) | skip)
    | (with_reducible apply hnx; clear hnx nx)
    | (with_reducible refine And.intro (by omega) ?_)
    | (with_reducible refine And.intro ?_ ?_)
    | (with_reducible refine pcall_k (c1) ?_; rintro _ _ ⟨rfl, rfl⟩ -; refine Ev_in ?_)
    | (clear hnx nx; with_reducible apply hnx; clear hnx nx)
    | (clear hnx nx; clear hnx nx; with_reducible apply hnx; clear hnx nx)
    | (clear hnx nx; clear hnx nx; clear hnx nx; with_reducible apply hnx; clear hnx nx))
  refine pcall_k n1 ?_
  rintro _ Ha ⟨a, rfl, hEa⟩ -
  refine Ev_in ?_
  repeat' (first
    | (with_reducible apply W_seq_k; intro nx hnx)
    | (with_reducible first | apply W_block | apply W_scope)
    | (with_reducible refine W_prune 499 ?_; simp only [prb, Nat.reducePow, Nat.reduceDiv, Nat.reduceMod, Nat.reduceBEq]; with_reducible apply W_region_l)
    | (with_reducible refine WL_born (by simp) rfl (by simp) ?_; simp only [elemsOf, nl, List.map_cons, List.map_nil, Nat.reduceEqDiff, ↓reduceIte, List.take_succ_cons, List.take_zero, List.range_succ, List.range_zero, List.nil_append, List.cons_append, List.map_append, List.drop_succ_cons, List.drop_zero, Nat.reduceMul, Nat.zero_mul, Nat.one_mul, Nat.reduceAdd])
    | ((first | (with_reducible apply WL_op; intro nx hnx) | with_reducible refine Ev_out ?_ | (with_reducible refine pfresh_k hnm fun nm hnm => ?_; (try simp only [fmb] at hnm)) | (with_reducible refine pborn_im ?_; simp only [elemsOf, nl, List.map_cons, List.map_nil, Nat.reduceEqDiff, ↓reduceIte, List.take_succ_cons, List.take_zero, List.range_succ, List.range_zero, List.nil_append, List.cons_append, List.map_append, List.drop_succ_cons, List.drop_zero, Nat.reduceMul, Nat.zero_mul, Nat.one_mul, Nat.reduceAdd]) | (with_reducible refine pmaybe_k ?_; intro bn hbn)); try (simp (maxSteps := 2000000) (disch := omega) only [evb, evd, pbuiltin, constPV, pnck, seqK, blockK, scopeK, pbin, pun, ppick, plen, piaddr, pindex, pfield, pslice, pbound, pconv, pelems, pextract, pmm, PV.mem?, PV.one, PV.cells, pageq, peqs, peq1, pmakes, pstore, pbytes, pmark, psrc, pkey, pnile, pcap, pgrow, List.set, Value.cells, ↓popG_eq, ↓pop.eq_1, ↓List.getElem?_map, ↓List.getElem?_cons_zero, ↓List.getElem?_cons_succ, Value.oneCell', Nat.reduceAdd, Nat.reduceMul, Nat.reduceSub, Nat.reduceLeDiff, Nat.reduceEqDiff, ↓reduceIte, ne_eq, reduceCtorEq, forall_const, exists_and_left, exists_eq_left', eq_self, Nat.reduceLT, Int.reduceLT, Int.reduceLE, Int.reduceToNat, Int.reduceAdd, Int.reduceSub, Int.reduceNeg, hnm, Try.tf0, Try.tf1, Try.tf2, Try.tf3, Try.tf4, Try.tf22, Try.tf24, Try.tf34, Try.tf35, Try.tf53, Try.tf65, Try.teq79, Try.call10, Try.call28, e2, hwr]); repeat (refine And.intro (by omega) ?_))
    | ((with_reducible first | apply WL_nil | apply W_label | apply W_skip | apply W_exit | apply W_ret); try simp only [seqK, blockK, scopeK, ↓reduceIte, Nat.reduceEqDiff])
    | (with_reducible apply pguard_intro <;> (intro hc; (try simp only [hcb, reduceCtorEq, forall_const, ne_eq] at hc); first | (exfalso; omega) | (exfalso; exact hc trivial) | refine Ev_in ?_))
    | (with_reducible apply W_cond_k; intro _ _ ea eb; (simp only [condK, cob, opnd, constPV, Nat.reduceEqDiff, Nat.reduceLT, ↓reduceIte, hcb, reduceCtorEq, forall_const, ne_eq]); subst ea eb; first | (refine ⟨fun hc => ?_, fun hc => ?_⟩ <;> first | (exfalso; omega) | (exfalso; exact hc trivial) | skip) | skip)
    | (with_reducible apply hnx; clear hnx nx)
    | (with_reducible refine And.intro (by omega) ?_)
    | (with_reducible refine And.intro ?_ ?_)
    | (with_reducible refine pcall_k (c2) ?_; rintro _ _ ⟨rfl, rfl⟩ -; refine Ev_in ?_)
    | (clear hnx nx; with_reducible apply hnx; clear hnx nx)
    | (clear hnx nx; clear hnx nx; with_reducible apply hnx; clear hnx nx)
    | (clear hnx nx; clear hnx nx; clear hnx nx; with_reducible apply hnx; clear hnx nx))
  refine pcall_k n2 ?_
  rintro _ Hb ⟨b, rfl, hEb⟩ -
  refine Ev_in ?_
  repeat' (first
    | (with_reducible first | apply W_block | apply W_scope)
    | (with_reducible refine W_prune 499 ?_; simp only [prb, Nat.reducePow, Nat.reduceDiv, Nat.reduceMod, Nat.reduceBEq]; with_reducible apply W_region_l)
    | ((first | (with_reducible apply WL_op; intro nx hnx) | with_reducible refine Ev_out ?_ | (with_reducible refine pfresh_k hnm fun nm hnm => ?_; (try simp only [fmb] at hnm)) | (with_reducible refine pborn_mu hnm fun nm hnm => ?_; (try simp only [fmb] at hnm)) | (with_reducible refine pmaybe_k ?_; intro bn hbn)); try (simp (maxSteps := 2000000) (disch := omega) only [evb, evd, pbuiltin, constPV, pnck, seqK, blockK, scopeK, pbin, pun, ppick, plen, piaddr, pindex, pfield, pslice, pbound, pconv, pelems, pextract, pmm, PV.mem?, PV.one, PV.cells, pageq, peqs, peq1, pmakes, pstore, pbytes, pmark, psrc, pkey, pnile, pcap, pgrow, List.set, Value.cells, ↓popG_eq, ↓pop.eq_1, ↓List.getElem?_map, ↓List.getElem?_cons_zero, ↓List.getElem?_cons_succ, Value.oneCell', Nat.reduceAdd, Nat.reduceMul, Nat.reduceSub, Nat.reduceLeDiff, Nat.reduceEqDiff, ↓reduceIte, ne_eq, reduceCtorEq, forall_const, exists_and_left, exists_eq_left', eq_self, Nat.reduceLT, Int.reduceLT, Int.reduceLE, Int.reduceToNat, Int.reduceAdd, Int.reduceSub, Int.reduceNeg, hnm, Try.tf0, Try.tf1, Try.tf2, Try.tf3, Try.tf4, Try.tf22, Try.tf24, Try.tf34, Try.tf35, Try.tf53, Try.tf65, Try.teq79, Try.call10, Try.call28]); repeat (refine And.intro (by omega) ?_))
    | ((with_reducible first | apply WL_nil | apply W_label | apply W_skip | apply W_exit | apply W_ret); try simp only [seqK, blockK, scopeK, ↓reduceIte, Nat.reduceEqDiff])
    | (with_reducible apply pguard_intro <;> (intro hc; (try simp only [hcb, reduceCtorEq, forall_const, ne_eq] at hc); first | (exfalso; omega) | (exfalso; exact hc trivial) | refine Ev_in ?_))
    | (with_reducible apply W_cond_k; intro _ _ ea eb; (simp only [condK, cob, opnd, constPV, Nat.reduceEqDiff, Nat.reduceLT, ↓reduceIte, hcb, reduceCtorEq, forall_const, ne_eq]); subst ea eb; first | (refine ⟨fun hc => ?_, fun hc => ?_⟩ <;> first | (exfalso; omega) | (exfalso; exact hc trivial) | skip) | skip)
    | (with_reducible apply hnx; clear hnx nx)
    | (with_reducible refine And.intro (by omega) ?_)
    | (with_reducible refine And.intro ?_ ?_)
    | (clear hnx nx; with_reducible apply hnx; clear hnx nx)
    | (clear hnx nx; clear hnx nx; with_reducible apply hnx; clear hnx nx)
    | (clear hnx nx; clear hnx nx; clear hnx nx; with_reducible apply hnx; clear hnx nx))
  refine W_nd fun nd => ?_
  repeat' (first
    | (with_reducible apply W_seq_k; intro nx hnx)
    | (with_reducible first | apply W_block | apply W_scope)
    | (with_reducible refine W_prune 499 ?_; simp only [prb, Nat.reducePow, Nat.reduceDiv, Nat.reduceMod, Nat.reduceBEq]; with_reducible apply W_region_l)
    | (with_reducible refine WL_born (by simp) rfl (by simp) ?_; simp only [elemsOf, nl, List.map_cons, List.map_nil, Nat.reduceEqDiff, ↓reduceIte, List.take_succ_cons, List.take_zero, List.range_succ, List.range_zero, List.nil_append, List.cons_append, List.map_append, List.drop_succ_cons, List.drop_zero, Nat.reduceMul, Nat.zero_mul, Nat.one_mul, Nat.reduceAdd])
    | ((first | (with_reducible apply WL_op; intro nx hnx) | with_reducible refine Ev_out ?_ | (with_reducible refine pfresh_k hnm fun nm hnm => ?_; (try simp only [fmb] at hnm)) | (with_reducible refine pborn_im ?_; simp only [elemsOf, nl, List.map_cons, List.map_nil, Nat.reduceEqDiff, ↓reduceIte, List.take_succ_cons, List.take_zero, List.range_succ, List.range_zero, List.nil_append, List.cons_append, List.map_append, List.drop_succ_cons, List.drop_zero, Nat.reduceMul, Nat.zero_mul, Nat.one_mul, Nat.reduceAdd]) | (with_reducible refine pmaybe_k ?_; intro bn hbn)); try (simp (maxSteps := 2000000) (disch := omega) only [evb, evd, pbuiltin, constPV, pnck, seqK, blockK, scopeK, pbin, pun, ppick, plen, piaddr, pindex, pfield, pslice, pbound, pconv, pelems, pextract, pmm, PV.mem?, PV.one, PV.cells, pageq, peqs, peq1, pmakes, pstore, pbytes, pmark, psrc, pkey, pnile, pcap, pgrow, List.set, Value.cells, ↓popG_eq, ↓pop.eq_1, ↓List.getElem?_map, ↓List.getElem?_cons_zero, ↓List.getElem?_cons_succ, Value.oneCell', Nat.reduceAdd, Nat.reduceMul, Nat.reduceSub, Nat.reduceLeDiff, Nat.reduceEqDiff, ↓reduceIte, ne_eq, reduceCtorEq, forall_const, exists_and_left, exists_eq_left', eq_self, Nat.reduceLT, Int.reduceLT, Int.reduceLE, Int.reduceToNat, Int.reduceAdd, Int.reduceSub, Int.reduceNeg, hnm, Try.tf0, Try.tf1, Try.tf2, Try.tf3, Try.tf4, Try.tf22, Try.tf24, Try.tf34, Try.tf35, Try.tf53, Try.tf65, Try.teq79, Try.call10, Try.call28]); repeat (refine And.intro (by omega) ?_))
    | ((with_reducible first | apply WL_nil | apply W_label | apply W_skip | apply W_exit | apply W_ret); try simp only [seqK, blockK, scopeK, ↓reduceIte, Nat.reduceEqDiff])
    | (with_reducible apply pguard_intro <;> (intro hc; (try simp only [hcb, reduceCtorEq, forall_const, ne_eq] at hc); first | (exfalso; omega) | (exfalso; exact hc trivial) | refine Ev_in ?_))
    | (with_reducible apply W_cond_k; intro _ _ ea eb; (simp only [condK, cob, opnd, constPV, Nat.reduceEqDiff, Nat.reduceLT, ↓reduceIte, hcb, reduceCtorEq, forall_const, ne_eq]); subst ea eb; first | (refine ⟨fun hc => ?_, fun hc => ?_⟩ <;> first | (exfalso; omega) | (exfalso; exact hc trivial) | skip) | skip)
    | (with_reducible apply hnx; clear hnx nx)
    | (with_reducible refine And.intro (by omega) ?_)
    | (with_reducible refine And.intro ?_ ?_)
    | (clear hnx nx; with_reducible apply hnx; clear hnx nx)
    | (clear hnx nx; clear hnx nx; with_reducible apply hnx; clear hnx nx)
    | (clear hnx nx; clear hnx nx; clear hnx nx; with_reducible apply hnx; clear hnx nx))
  all_goals first
    | exact absurd trivial hc
    | (refine hfin _ _ (Fin_ret1 rfl (H := Hb ++ Ha) (Sub_refl nd) ⟨b, a, Hb, Ha, ?_, rfl, hEb, hEa⟩)
       simp only [fr_getD_cons, Nat.reduceEqDiff, Nat.reduceLT, ↓reduceIte])
theorem send_k (G : Globs) {e : Int} {s s' : LE} {b : List UInt8} {r : Int} {Hin : Heap} (h : sendL s b = (r, s')) (hH : IsEnd e s Hin) (hb : b.length ≤ 4294900000) (hw : s.wait.length ≤ 4294900000) :
    PCalls Try.prog G 11 [.ptr e 0, pl b] Hin (fun res H => res = pint .i64 r ∧ IsEnd e s' H) := by
  have := send_c G e s b hb hw Hin hH
  rwa [h] at this
theorem in_k (G : Globs) {e : Int} {s s' : LE} {x : List UInt8} {l : List (List UInt8)} {r : Int} {Hin : Heap} (h : inL s x = ((l, r), s')) (hH : IsEnd e s Hin) (hx : x.length ≤ 4294900000) (hs : OkE s) :
    PCalls Try.prog G 19 [.ptr e 0, pl x] Hin (fun res H => res = .tuple [.list 1 (l.map pl), pint .i64 r] ∧ IsEnd e s' H) := by
  have := in_c G e s x hx hs Hin hH
  rwa [h] at this
theorem out_k (G : Globs) {e : Int} {s s' : LE} {l : List (List UInt8)} {Hin : Heap} (h : outL s = (l, s')) (hH : IsEnd e s Hin) (hs : OkE s) (hwin : s.win ≤ 1000) (hW : ∀ b ∈ s.wait, b.length ≤ 65536) :
    PCalls Try.prog G 13 [.ptr e 0] Hin (fun res H => res = .list 1 (l.map pl) ∧ IsEnd e s' H) := by
  have := out_c G e s hs hwin hW Hin hH
  rwa [h] at this
set_option maxRecDepth 100000 in
set_option maxHeartbeats 8000000 in
theorem lives_c (G : Globs) : PCalls Try.prog G 23 [] [] (fun res H => res = pbool true ∧ H = []) := by
  have n1 := new_ok G 2 9 (by omega)
  have n1 : PCalls Try.prog G 28 [.val (.int .i64 2), .val (.int .u64 9)] [] (fun res H => ∃ e, res = .tuple [.ptr e 0, pint .i64 0] ∧ IsEnd e (newL 2 9) H) := n1
  (refine PCalls_f Try.func23 rfl Try.ntmps23 Try.results23 (by simp) fun fin hfin => ?_; have hnm : True := trivial; simp (maxSteps := 2000000) (disch := omega) only [evb, evd, pbuiltin, constPV, pnck, seqK, blockK, scopeK, pbin, pun, ppick, plen, piaddr, pindex, pfield, pslice, pbound, pconv, pelems, pextract, pmm, PV.mem?, PV.one, PV.cells, pageq, peqs, peq1, pmakes, pstore, pbytes, pmark, psrc, pkey, pnile, pcap, pgrow, List.set, Value.cells, ↓popG_eq, ↓pop.eq_1, ↓List.getElem?_map, ↓List.getElem?_cons_zero, ↓List.getElem?_cons_succ, Value.oneCell', Nat.reduceAdd, Nat.reduceMul, Nat.reduceSub, Nat.reduceLeDiff, Nat.reduceEqDiff, ↓reduceIte, ne_eq, reduceCtorEq, forall_const, exists_and_left, exists_eq_left', eq_self, Nat.reduceLT, Int.reduceLT, Int.reduceLE, Int.reduceToNat, Int.reduceAdd, Int.reduceSub, Int.reduceNeg, hnm, Try.tf0, Try.tf1, Try.tf3, Try.tf4, Try.tf5, Try.tf9, Try.tf22, Try.tf28, Try.tf33, Try.tf34, Try.tf35, Try.tf43, Try.tf44, Try.tf53, Try.tf65, Try.teq79, Try.call11, Try.call13, Try.call17, Try.call18, Try.call19, Try.call21, Try.call22, Try.call28, Try.call29])
  repeat' (first
    | (with_reducible apply W_seq_k; intro nx hnx)
    | (with_reducible first | apply W_block | apply W_scope)
    | (with_reducible refine W_prune 14335 ?_; simp only [prb, Nat.reducePow, Nat.reduceDiv, Nat.reduceMod, Nat.reduceBEq]; with_reducible apply W_region_l)
    | (with_reducible refine WL_born (by simp) rfl (by simp) ?_; simp only [elemsOf, nl, List.map_cons, List.map_nil, Nat.reduceEqDiff, ↓reduceIte, List.take_succ_cons, List.take_zero, List.range_succ, List.range_zero, List.nil_append, List.cons_append, List.map_append, List.drop_succ_cons, List.drop_zero, Nat.reduceMul, Nat.zero_mul, Nat.one_mul, Nat.reduceAdd])
    | ((first | (with_reducible apply WL_op; intro nx hnx) | with_reducible refine Ev_out ?_ | (with_reducible refine pfresh_k hnm fun nm hnm => ?_; (try simp only [fmb] at hnm)) | (with_reducible refine pborn_im ?_; simp only [elemsOf, nl, List.map_cons, List.map_nil, Nat.reduceEqDiff, ↓reduceIte, List.take_succ_cons, List.take_zero, List.range_succ, List.range_zero, List.nil_append, List.cons_append, List.map_append, List.drop_succ_cons, List.drop_zero, Nat.reduceMul, Nat.zero_mul, Nat.one_mul, Nat.reduceAdd])); try (simp (maxSteps := 2000000) (disch := omega) only [evb, evd, pbuiltin, constPV, pnck, seqK, blockK, scopeK, pbin, pun, ppick, plen, piaddr, pindex, pfield, pslice, pbound, pconv, pelems, pextract, pmm, PV.mem?, PV.one, PV.cells, pageq, peqs, peq1, pmakes, pstore, pbytes, pmark, psrc, pkey, pnile, pcap, pgrow, List.set, Value.cells, ↓popG_eq, ↓pop.eq_1, ↓List.getElem?_map, ↓List.getElem?_cons_zero, ↓List.getElem?_cons_succ, Value.oneCell', Nat.reduceAdd, Nat.reduceMul, Nat.reduceSub, Nat.reduceLeDiff, Nat.reduceEqDiff, ↓reduceIte, ne_eq, reduceCtorEq, forall_const, exists_and_left, exists_eq_left', eq_self, Nat.reduceLT, Int.reduceLT, Int.reduceLE, Int.reduceToNat, Int.reduceAdd, Int.reduceSub, Int.reduceNeg, hnm, Try.tf0, Try.tf1, Try.tf3, Try.tf4, Try.tf5, Try.tf9, Try.tf22, Try.tf28, Try.tf33, Try.tf34, Try.tf35, Try.tf43, Try.tf44, Try.tf53, Try.tf65, Try.teq79, Try.call11, Try.call13, Try.call17, Try.call18, Try.call19, Try.call21, Try.call22, Try.call28, Try.call29]); repeat (refine And.intro (by omega) ?_))
    | ((with_reducible first | apply WL_nil | apply W_label | apply W_skip | apply W_exit | apply W_ret); try simp only [seqK, blockK, scopeK, ↓reduceIte, Nat.reduceEqDiff])
    | (with_reducible apply pguard_intro <;> (intro hc; (try simp only [hcb, reduceCtorEq, forall_const, ne_eq] at hc); first | (exfalso; omega) | (exfalso; exact hc trivial) | refine Ev_in ?_))
    | (with_reducible apply W_cond_k; intro _ _ ea eb; (simp only [condK, cob, opnd, constPV, Nat.reduceEqDiff, Nat.reduceLT, ↓reduceIte, hcb, reduceCtorEq, forall_const, ne_eq]); subst ea eb; first | (refine ⟨fun hc => ?_, fun hc => ?_⟩ <;> first | (exfalso; omega) | (exfalso; exact hc trivial) | skip) | skip)
    | (with_reducible apply hnx; clear hnx nx)
    | (with_reducible refine And.intro (by omega) ?_)
    | (with_reducible refine And.intro ?_ ?_)
    | (clear hnx nx; with_reducible apply hnx; clear hnx nx)
    | (clear hnx nx; clear hnx nx; with_reducible apply hnx; clear hnx nx)
    | (clear hnx nx; clear hnx nx; clear hnx nx; with_reducible apply hnx; clear hnx nx))
  refine pcall_k n1 ?_
  rintro _ Ha ⟨a, rfl, hEa⟩ -
  refine Ev_in ?_
  repeat' (first
    | (with_reducible apply W_seq_k; intro nx hnx)
    | (with_reducible first | apply W_block | apply W_scope)
    | (with_reducible refine W_prune 14335 ?_; simp only [prb, Nat.reducePow, Nat.reduceDiv, Nat.reduceMod, Nat.reduceBEq]; with_reducible apply W_region_l)
    | (with_reducible refine WL_born (by simp) rfl (by simp) ?_; simp only [elemsOf, nl, List.map_cons, List.map_nil, Nat.reduceEqDiff, ↓reduceIte, List.take_succ_cons, List.take_zero, List.range_succ, List.range_zero, List.nil_append, List.cons_append, List.map_append, List.drop_succ_cons, List.drop_zero, Nat.reduceMul, Nat.zero_mul, Nat.one_mul, Nat.reduceAdd])
    | ((first | (with_reducible apply WL_op; intro nx hnx) | with_reducible refine Ev_out ?_ | (with_reducible refine pfresh_k hnm fun nm hnm => ?_; (try simp only [fmb] at hnm)) | (with_reducible refine pborn_im ?_; simp only [elemsOf, nl, List.map_cons, List.map_nil, Nat.reduceEqDiff, ↓reduceIte, List.take_succ_cons, List.take_zero, List.range_succ, List.range_zero, List.nil_append, List.cons_append, List.map_append, List.drop_succ_cons, List.drop_zero, Nat.reduceMul, Nat.zero_mul, Nat.one_mul, Nat.reduceAdd])); try (simp (maxSteps := 2000000) (disch := omega) only [evb, evd, pbuiltin, constPV, pnck, seqK, blockK, scopeK, pbin, pun, ppick, plen, piaddr, pindex, pfield, pslice, pbound, pconv, pelems, pextract, pmm, PV.mem?, PV.one, PV.cells, pageq, peqs, peq1, pmakes, pstore, pbytes, pmark, psrc, pkey, pnile, pcap, pgrow, List.set, Value.cells, ↓popG_eq, ↓pop.eq_1, ↓List.getElem?_map, ↓List.getElem?_cons_zero, ↓List.getElem?_cons_succ, Value.oneCell', Nat.reduceAdd, Nat.reduceMul, Nat.reduceSub, Nat.reduceLeDiff, Nat.reduceEqDiff, ↓reduceIte, ne_eq, reduceCtorEq, forall_const, exists_and_left, exists_eq_left', eq_self, Nat.reduceLT, Int.reduceLT, Int.reduceLE, Int.reduceToNat, Int.reduceAdd, Int.reduceSub, Int.reduceNeg, hnm, Try.tf0, Try.tf1, Try.tf3, Try.tf4, Try.tf5, Try.tf9, Try.tf22, Try.tf28, Try.tf33, Try.tf34, Try.tf35, Try.tf43, Try.tf44, Try.tf53, Try.tf65, Try.teq79, Try.call11, Try.call13, Try.call17, Try.call18, Try.call19, Try.call21, Try.call22, Try.call28, Try.call29]); repeat (refine And.intro (by omega) ?_))
    | ((with_reducible first | apply WL_nil | apply W_label | apply W_skip | apply W_exit | apply W_ret); try simp only [seqK, blockK, scopeK, ↓reduceIte, Nat.reduceEqDiff])
    | (with_reducible apply pguard_intro <;> (intro hc; (try simp only [hcb, reduceCtorEq, forall_const, ne_eq] at hc); first | (exfalso; omega) | (exfalso; exact hc trivial) | refine Ev_in ?_))
    | (with_reducible apply W_cond_k; intro _ _ ea eb; (simp only [condK, cob, opnd, constPV, Nat.reduceEqDiff, Nat.reduceLT, ↓reduceIte, hcb, reduceCtorEq, forall_const, ne_eq]); subst ea eb; first | (refine ⟨fun hc => ?_, fun hc => ?_⟩ <;> first | (exfalso; omega) | (exfalso; exact hc trivial) | skip) | skip)
    | (with_reducible apply hnx; clear hnx nx)
    | (with_reducible refine And.intro (by omega) ?_)
    | (with_reducible refine And.intro ?_ ?_)
    | (clear hnx nx; with_reducible apply hnx; clear hnx nx)
    | (clear hnx nx; clear hnx nx; with_reducible apply hnx; clear hnx nx)
    | (clear hnx nx; clear hnx nx; clear hnx nx; with_reducible apply hnx; clear hnx nx))
  refine pcall_k n1 ?_
  rintro _ Hb ⟨b, rfl, hEb⟩ -
  refine Ev_in ?_
  repeat' (first
    | (with_reducible first | apply W_block | apply W_scope)
    | (with_reducible refine W_prune 14335 ?_; simp only [prb, Nat.reducePow, Nat.reduceDiv, Nat.reduceMod, Nat.reduceBEq]; with_reducible apply W_region_l)
    | ((first | (with_reducible apply WL_op; intro nx hnx) | with_reducible refine Ev_out ?_ | (with_reducible refine pfresh_k hnm fun nm hnm => ?_; (try simp only [fmb] at hnm)) | (with_reducible refine pborn_mu hnm fun nm hnm => ?_; (try simp only [fmb] at hnm))); try (simp (maxSteps := 2000000) (disch := omega) only [evb, evd, pbuiltin, constPV, pnck, seqK, blockK, scopeK, pbin, pun, ppick, plen, piaddr, pindex, pfield, pslice, pbound, pconv, pelems, pextract, pmm, PV.mem?, PV.one, PV.cells, pageq, peqs, peq1, pmakes, pstore, pbytes, pmark, psrc, pkey, pnile, pcap, pgrow, List.set, Value.cells, ↓popG_eq, ↓pop.eq_1, ↓List.getElem?_map, ↓List.getElem?_cons_zero, ↓List.getElem?_cons_succ, Value.oneCell', Nat.reduceAdd, Nat.reduceMul, Nat.reduceSub, Nat.reduceLeDiff, Nat.reduceEqDiff, ↓reduceIte, ne_eq, reduceCtorEq, forall_const, exists_and_left, exists_eq_left', eq_self, Nat.reduceLT, Int.reduceLT, Int.reduceLE, Int.reduceToNat, Int.reduceAdd, Int.reduceSub, Int.reduceNeg, hnm, Try.tf0, Try.tf1, Try.tf3, Try.tf4, Try.tf5, Try.tf9, Try.tf22, Try.tf28, Try.tf33, Try.tf34, Try.tf35, Try.tf43, Try.tf44, Try.tf53, Try.tf65, Try.teq79, Try.call11, Try.call13, Try.call17, Try.call18, Try.call19, Try.call21, Try.call22, Try.call28, Try.call29]); repeat (refine And.intro (by omega) ?_))
    | ((with_reducible first | apply WL_nil | apply W_label | apply W_skip | apply W_exit | apply W_ret); try simp only [seqK, blockK, scopeK, ↓reduceIte, Nat.reduceEqDiff])
    | (with_reducible apply pguard_intro <;> (intro hc; (try simp only [hcb, reduceCtorEq, forall_const, ne_eq] at hc); first | (exfalso; omega) | (exfalso; exact hc trivial) | refine Ev_in ?_))
    | (with_reducible apply W_cond_k; intro _ _ ea eb; (simp only [condK, cob, opnd, constPV, Nat.reduceEqDiff, Nat.reduceLT, ↓reduceIte, hcb, reduceCtorEq, forall_const, ne_eq]); subst ea eb; first | (refine ⟨fun hc => ?_, fun hc => ?_⟩ <;> first | (exfalso; omega) | (exfalso; exact hc trivial) | skip) | skip)
    | (with_reducible apply hnx; clear hnx nx)
    | (with_reducible refine And.intro (by omega) ?_)
    | (with_reducible refine And.intro ?_ ?_)
    | (clear hnx nx; with_reducible apply hnx; clear hnx nx)
    | (clear hnx nx; clear hnx nx; with_reducible apply hnx; clear hnx nx)
    | (clear hnx nx; clear hnx nx; clear hnx nx; with_reducible apply hnx; clear hnx nx))
  with_reducible apply W_seq_k
  intro nx hnx
  repeat' (first
    | (with_reducible first | apply W_block | apply W_scope)
    | (with_reducible refine W_prune 14335 ?_; simp only [prb, Nat.reducePow, Nat.reduceDiv, Nat.reduceMod, Nat.reduceBEq]; with_reducible apply W_region_l)
    | ((first | (with_reducible apply WL_op; intro nx hnx) | with_reducible refine Ev_out ?_ | (with_reducible refine pfresh_k hnm fun nm hnm => ?_; (try simp only [fmb] at hnm)) | (with_reducible refine pborn_mu hnm fun nm hnm => ?_; (try simp only [fmb] at hnm))); try (simp (maxSteps := 2000000) (disch := omega) only [evb, evd, pbuiltin, constPV, pnck, seqK, blockK, scopeK, pbin, pun, ppick, plen, piaddr, pindex, pfield, pslice, pbound, pconv, pelems, pextract, pmm, PV.mem?, PV.one, PV.cells, pageq, peqs, peq1, pmakes, pstore, pbytes, pmark, psrc, pkey, pnile, pcap, pgrow, List.set, Value.cells, ↓popG_eq, ↓pop.eq_1, ↓List.getElem?_map, ↓List.getElem?_cons_zero, ↓List.getElem?_cons_succ, Value.oneCell', Nat.reduceAdd, Nat.reduceMul, Nat.reduceSub, Nat.reduceLeDiff, Nat.reduceEqDiff, ↓reduceIte, ne_eq, reduceCtorEq, forall_const, exists_and_left, exists_eq_left', eq_self, Nat.reduceLT, Int.reduceLT, Int.reduceLE, Int.reduceToNat, Int.reduceAdd, Int.reduceSub, Int.reduceNeg, hnm, Try.tf0, Try.tf1, Try.tf3, Try.tf4, Try.tf5, Try.tf9, Try.tf22, Try.tf28, Try.tf33, Try.tf34, Try.tf35, Try.tf43, Try.tf44, Try.tf53, Try.tf65, Try.teq79, Try.call11, Try.call13, Try.call17, Try.call18, Try.call19, Try.call21, Try.call22, Try.call28, Try.call29]); repeat (refine And.intro (by omega) ?_))
    | ((with_reducible first | apply WL_nil | apply W_label | apply W_skip | apply W_exit | apply W_ret); try simp only [seqK, blockK, scopeK, ↓reduceIte, Nat.reduceEqDiff])
    | (with_reducible apply pguard_intro <;> (intro hc; (try simp only [hcb, reduceCtorEq, forall_const, ne_eq] at hc); first | (exfalso; omega) | (exfalso; exact hc trivial) | refine Ev_in ?_))
    | (with_reducible apply W_cond_k; intro _ _ ea eb; (simp only [condK, cob, opnd, constPV, Nat.reduceEqDiff, Nat.reduceLT, ↓reduceIte, hcb, reduceCtorEq, forall_const, ne_eq]); subst ea eb; first | (refine ⟨fun hc => ?_, fun hc => ?_⟩ <;> first | (exfalso; omega) | (exfalso; exact hc trivial) | skip) | skip)
    | (with_reducible apply hnx; clear hnx nx)
    | (with_reducible refine And.intro (by omega) ?_)
    | (with_reducible refine And.intro ?_ ?_)
    | (clear hnx nx; with_reducible apply hnx; clear hnx nx)
    | (clear hnx nx; clear hnx nx; with_reducible apply hnx; clear hnx nx)
    | (clear hnx nx; clear hnx nx; clear hnx nx; with_reducible apply hnx; clear hnx nx))
  all_goals first
    | exact absurd trivial hc
    | skip
  with_reducible apply W_seq_k
  intro nx hnx
  repeat' (first
    | (with_reducible first | apply W_block | apply W_scope)
    | (with_reducible refine W_prune 14335 ?_; simp only [prb, Nat.reducePow, Nat.reduceDiv, Nat.reduceMod, Nat.reduceBEq]; with_reducible apply W_region_l)
    | ((first | (with_reducible apply WL_op; intro nx hnx) | with_reducible refine Ev_out ?_ | (with_reducible refine pfresh_k hnm fun nm hnm => ?_; (try simp only [fmb] at hnm)) | (with_reducible refine pborn_mu hnm fun nm hnm => ?_; (try simp only [fmb] at hnm))); try (simp (maxSteps := 2000000) (disch := omega) only [evb, evd, pbuiltin, constPV, pnck, seqK, blockK, scopeK, pbin, pun, ppick, plen, piaddr, pindex, pfield, pslice, pbound, pconv, pelems, pextract, pmm, PV.mem?, PV.one, PV.cells, pageq, peqs, peq1, pmakes, pstore, pbytes, pmark, psrc, pkey, pnile, pcap, pgrow, List.set, Value.cells, ↓popG_eq, ↓pop.eq_1, ↓List.getElem?_map, ↓List.getElem?_cons_zero, ↓List.getElem?_cons_succ, Value.oneCell', Nat.reduceAdd, Nat.reduceMul, Nat.reduceSub, Nat.reduceLeDiff, Nat.reduceEqDiff, ↓reduceIte, ne_eq, reduceCtorEq, forall_const, exists_and_left, exists_eq_left', eq_self, Nat.reduceLT, Int.reduceLT, Int.reduceLE, Int.reduceToNat, Int.reduceAdd, Int.reduceSub, Int.reduceNeg, hnm, Try.tf0, Try.tf1, Try.tf3, Try.tf4, Try.tf5, Try.tf9, Try.tf22, Try.tf28, Try.tf33, Try.tf34, Try.tf35, Try.tf43, Try.tf44, Try.tf53, Try.tf65, Try.teq79, Try.call11, Try.call13, Try.call17, Try.call18, Try.call19, Try.call21, Try.call22, Try.call28, Try.call29]); repeat (refine And.intro (by omega) ?_))
    | ((with_reducible first | apply WL_nil | apply W_label | apply W_skip | apply W_exit | apply W_ret); try simp only [seqK, blockK, scopeK, ↓reduceIte, Nat.reduceEqDiff])
    | (with_reducible apply pguard_intro <;> (intro hc; (try simp only [hcb, reduceCtorEq, forall_const, ne_eq] at hc); first | (exfalso; omega) | (exfalso; exact hc trivial) | refine Ev_in ?_))
    | (with_reducible apply W_cond_k; intro _ _ ea eb; (simp only [condK, cob, opnd, constPV, Nat.reduceEqDiff, Nat.reduceLT, ↓reduceIte, hcb, reduceCtorEq, forall_const, ne_eq]); subst ea eb; first | (refine ⟨fun hc => ?_, fun hc => ?_⟩ <;> first | (exfalso; omega) | (exfalso; exact hc trivial) | skip) | skip)
    | (with_reducible apply hnx; clear hnx nx)
    | (with_reducible refine And.intro (by omega) ?_)
    | (with_reducible refine And.intro ?_ ?_)
    | (clear hnx nx; with_reducible apply hnx; clear hnx nx)
    | (clear hnx nx; clear hnx nx; with_reducible apply hnx; clear hnx nx)
    | (clear hnx nx; clear hnx nx; clear hnx nx; with_reducible apply hnx; clear hnx nx))
  all_goals first
    | exact absurd trivial hc
    | skip
  with_reducible apply W_seq_k
  intro nx hnx
  iterate 8 (first
    | (with_reducible apply W_seq_k; intro nx hnx)
    | (with_reducible first | apply W_block | apply W_scope)
    | (with_reducible refine W_prune 14335 ?_; simp only [prb, Nat.reducePow, Nat.reduceDiv, Nat.reduceMod, Nat.reduceBEq]; with_reducible apply W_region_l)
    | ((first | (with_reducible apply WL_op; intro nx hnx) | with_reducible refine Ev_out ?_ | (with_reducible refine pfresh_k hnm fun nm hnm => ?_; (try simp only [fmb] at hnm)) | (with_reducible refine pborn_mu hnm fun nm hnm => ?_; (try simp only [fmb] at hnm))); try (simp (maxSteps := 2000000) (disch := omega) only [evb, evd, pbuiltin, constPV, pnck, seqK, blockK, scopeK, pbin, pun, ppick, plen, piaddr, pindex, pfield, pslice, pbound, pconv, pelems, pextract, pmm, PV.mem?, PV.one, PV.cells, pageq, peqs, peq1, pmakes, pstore, pbytes, pmark, psrc, pkey, pnile, pcap, pgrow, List.set, Value.cells, ↓popG_eq, ↓pop.eq_1, ↓List.getElem?_map, ↓List.getElem?_cons_zero, ↓List.getElem?_cons_succ, Value.oneCell', Nat.reduceAdd, Nat.reduceMul, Nat.reduceSub, Nat.reduceLeDiff, Nat.reduceEqDiff, ↓reduceIte, ne_eq, reduceCtorEq, forall_const, exists_and_left, exists_eq_left', eq_self, Nat.reduceLT, Int.reduceLT, Int.reduceLE, Int.reduceToNat, Int.reduceAdd, Int.reduceSub, Int.reduceNeg, hnm, Try.tf0, Try.tf1, Try.tf3, Try.tf4, Try.tf5, Try.tf9, Try.tf22, Try.tf28, Try.tf33, Try.tf34, Try.tf35, Try.tf43, Try.tf44, Try.tf53, Try.tf65, Try.teq79, Try.call11, Try.call13, Try.call17, Try.call18, Try.call19, Try.call21, Try.call22, Try.call28, Try.call29]); repeat (refine And.intro (by omega) ?_))
    | ((with_reducible first | apply WL_nil | apply W_label | apply W_skip | apply W_exit | apply W_ret); try simp only [seqK, blockK, scopeK, ↓reduceIte, Nat.reduceEqDiff])
    | (with_reducible apply pguard_intro <;> (intro hc; (try simp only [hcb, reduceCtorEq, forall_const, ne_eq] at hc); first | (exfalso; omega) | (exfalso; exact hc trivial) | refine Ev_in ?_))
    | (with_reducible apply W_cond_k; intro _ _ ea eb; (simp only [condK, cob, opnd, constPV, Nat.reduceEqDiff, Nat.reduceLT, ↓reduceIte, hcb, reduceCtorEq, forall_const, ne_eq]); subst ea eb; first | (refine ⟨fun hc => ?_, fun hc => ?_⟩ <;> first | (exfalso; omega) | (exfalso; exact hc trivial) | skip) | skip)
    | (with_reducible apply hnx; clear hnx nx)
    | (with_reducible refine And.intro (by omega) ?_)
    | (with_reducible refine And.intro ?_ ?_)
    | (clear hnx nx; with_reducible apply hnx; clear hnx nx)
    | (clear hnx nx; clear hnx nx; with_reducible apply hnx; clear hnx nx)
    | (clear hnx nx; clear hnx nx; clear hnx nx; with_reducible apply hnx; clear hnx nx))
  · rfl
  with_reducible apply hnx
  clear hnx nx
  refine WL_nd fun nd => ?_
  have hne := two_ne hEb hEa nd
  refine WL_mark (by simp) rfl (by simp [frz, frz1, hne]) (two_frz _ hEb hEa nd) ?_
  clear nd hne
  have s1 : PCalls Try.prog G 11 [.ptr a 0, .list 1 [.val (.int .u8 97)]] Ha _ := send_k G lv1 hEa (by simp) (by simp [newL])
  repeat' (first
    | (with_reducible first | apply W_block | apply W_scope)
    | (with_reducible refine W_prune 14335 ?_; simp only [prb, Nat.reducePow, Nat.reduceDiv, Nat.reduceMod, Nat.reduceBEq]; with_reducible apply W_region_l)
    | ((first | (with_reducible apply WL_op; intro nx hnx) | with_reducible refine Ev_out ?_ | (with_reducible refine pfresh_k hnm fun nm hnm => ?_; (try simp only [fmb] at hnm)) | (with_reducible refine pborn_mu hnm fun nm hnm => ?_; (try simp only [fmb] at hnm))); try (simp (maxSteps := 2000000) (disch := omega) only [evb, evd, pbuiltin, constPV, pnck, seqK, blockK, scopeK, pbin, pun, ppick, plen, piaddr, pindex, pfield, pslice, pbound, pconv, pelems, pextract, pmm, PV.mem?, PV.one, PV.cells, pageq, peqs, peq1, pmakes, pstore, pbytes, pmark, psrc, pkey, pnile, pcap, pgrow, List.set, Value.cells, ↓popG_eq, ↓pop.eq_1, ↓List.getElem?_map, ↓List.getElem?_cons_zero, ↓List.getElem?_cons_succ, Value.oneCell', Nat.reduceAdd, Nat.reduceMul, Nat.reduceSub, Nat.reduceLeDiff, Nat.reduceEqDiff, ↓reduceIte, ne_eq, reduceCtorEq, forall_const, exists_and_left, exists_eq_left', eq_self, Nat.reduceLT, Int.reduceLT, Int.reduceLE, Int.reduceToNat, Int.reduceAdd, Int.reduceSub, Int.reduceNeg, hnm, Try.tf0, Try.tf1, Try.tf3, Try.tf4, Try.tf5, Try.tf9, Try.tf22, Try.tf28, Try.tf33, Try.tf34, Try.tf35, Try.tf43, Try.tf44, Try.tf53, Try.tf65, Try.teq79, Try.call11, Try.call13, Try.call17, Try.call18, Try.call19, Try.call21, Try.call22, Try.call28, Try.call29]); repeat (refine And.intro (by omega) ?_))
    | ((with_reducible first | apply WL_nil | apply W_label | apply W_skip | apply W_exit | apply W_ret); try simp only [seqK, blockK, scopeK, ↓reduceIte, Nat.reduceEqDiff])
    | (with_reducible apply pguard_intro <;> (intro hc; (try simp only [hcb, reduceCtorEq, forall_const, ne_eq] at hc); first | (exfalso; omega) | (exfalso; exact hc trivial) | refine Ev_in ?_))
    | (with_reducible apply W_cond_k; intro _ _ ea eb; (simp only [condK, cob, opnd, constPV, Nat.reduceEqDiff, Nat.reduceLT, ↓reduceIte, hcb, reduceCtorEq, forall_const, ne_eq]); subst ea eb; first | (refine ⟨fun hc => ?_, fun hc => ?_⟩ <;> first | (exfalso; omega) | (exfalso; exact hc trivial) | skip) | skip)
    | (with_reducible apply hnx; clear hnx nx)
    | (with_reducible refine And.intro (by omega) ?_)
    | (with_reducible refine And.intro ?_ ?_)
    | ((refine pcall_mid Hb Ha [] (by simp) s1 ?_; rintro _ Ha1 ⟨rfl, hEa1⟩; refine Ev_in ?_))
    | (clear hnx nx; with_reducible apply hnx; clear hnx nx)
    | (clear hnx nx; clear hnx nx; with_reducible apply hnx; clear hnx nx)
    | (clear hnx nx; clear hnx nx; clear hnx nx; with_reducible apply hnx; clear hnx nx))
  clear hEa s1
  with_reducible apply W_seq_k
  intro nx hnx
  iterate 8 (first
    | (with_reducible apply W_seq_k; intro nx hnx)
    | (with_reducible first | apply W_block | apply W_scope)
    | (with_reducible refine W_prune 14335 ?_; simp only [prb, Nat.reducePow, Nat.reduceDiv, Nat.reduceMod, Nat.reduceBEq]; with_reducible apply W_region_l)
    | ((first | (with_reducible apply WL_op; intro nx hnx) | with_reducible refine Ev_out ?_ | (with_reducible refine pfresh_k hnm fun nm hnm => ?_; (try simp only [fmb] at hnm)) | (with_reducible refine pborn_mu hnm fun nm hnm => ?_; (try simp only [fmb] at hnm))); try (simp (maxSteps := 2000000) (disch := omega) only [evb, evd, pbuiltin, constPV, pnck, seqK, blockK, scopeK, pbin, pun, ppick, plen, piaddr, pindex, pfield, pslice, pbound, pconv, pelems, pextract, pmm, PV.mem?, PV.one, PV.cells, pageq, peqs, peq1, pmakes, pstore, pbytes, pmark, psrc, pkey, pnile, pcap, pgrow, List.set, Value.cells, ↓popG_eq, ↓pop.eq_1, ↓List.getElem?_map, ↓List.getElem?_cons_zero, ↓List.getElem?_cons_succ, Value.oneCell', Nat.reduceAdd, Nat.reduceMul, Nat.reduceSub, Nat.reduceLeDiff, Nat.reduceEqDiff, ↓reduceIte, ne_eq, reduceCtorEq, forall_const, exists_and_left, exists_eq_left', eq_self, Nat.reduceLT, Int.reduceLT, Int.reduceLE, Int.reduceToNat, Int.reduceAdd, Int.reduceSub, Int.reduceNeg, hnm, Try.tf0, Try.tf1, Try.tf3, Try.tf4, Try.tf5, Try.tf9, Try.tf22, Try.tf28, Try.tf33, Try.tf34, Try.tf35, Try.tf43, Try.tf44, Try.tf53, Try.tf65, Try.teq79, Try.call11, Try.call13, Try.call17, Try.call18, Try.call19, Try.call21, Try.call22, Try.call28, Try.call29]); repeat (refine And.intro (by omega) ?_))
    | ((with_reducible first | apply WL_nil | apply W_label | apply W_skip | apply W_exit | apply W_ret); try simp only [seqK, blockK, scopeK, ↓reduceIte, Nat.reduceEqDiff])
    | (with_reducible apply pguard_intro <;> (intro hc; (try simp only [hcb, reduceCtorEq, forall_const, ne_eq] at hc); first | (exfalso; omega) | (exfalso; exact hc trivial) | refine Ev_in ?_))
    | (with_reducible apply W_cond_k; intro _ _ ea eb; (simp only [condK, cob, opnd, constPV, Nat.reduceEqDiff, Nat.reduceLT, ↓reduceIte, hcb, reduceCtorEq, forall_const, ne_eq]); subst ea eb; first | (refine ⟨fun hc => ?_, fun hc => ?_⟩ <;> first | (exfalso; omega) | (exfalso; exact hc trivial) | skip) | skip)
    | (with_reducible apply hnx; clear hnx nx)
    | (with_reducible refine And.intro (by omega) ?_)
    | (with_reducible refine And.intro ?_ ?_)
    | (clear hnx nx; with_reducible apply hnx; clear hnx nx)
    | (clear hnx nx; clear hnx nx; with_reducible apply hnx; clear hnx nx)
    | (clear hnx nx; clear hnx nx; clear hnx nx; with_reducible apply hnx; clear hnx nx))
  · rfl
  with_reducible apply hnx
  clear hnx nx
  refine WL_nd fun nd => ?_
  have hne := two_ne hEb hEa1 nd
  refine WL_mark (by simp) rfl (by simp [frz, frz1, hne]) (two_frz _ hEb hEa1 nd) ?_
  clear nd hne
  have s2 : PCalls Try.prog G 11 [.ptr a 0, .list 1 [.val (.int .u8 98)]] Ha1 _ := send_k G lv2 hEa1 (by simp) (by simp [newL])
  repeat' (first
    | (with_reducible first | apply W_block | apply W_scope)
    | (with_reducible refine W_prune 14335 ?_; simp only [prb, Nat.reducePow, Nat.reduceDiv, Nat.reduceMod, Nat.reduceBEq]; with_reducible apply W_region_l)
    | ((first | (with_reducible apply WL_op; intro nx hnx) | with_reducible refine Ev_out ?_ | (with_reducible refine pfresh_k hnm fun nm hnm => ?_; (try simp only [fmb] at hnm)) | (with_reducible refine pborn_mu hnm fun nm hnm => ?_; (try simp only [fmb] at hnm))); try (simp (maxSteps := 2000000) (disch := omega) only [evb, evd, pbuiltin, constPV, pnck, seqK, blockK, scopeK, pbin, pun, ppick, plen, piaddr, pindex, pfield, pslice, pbound, pconv, pelems, pextract, pmm, PV.mem?, PV.one, PV.cells, pageq, peqs, peq1, pmakes, pstore, pbytes, pmark, psrc, pkey, pnile, pcap, pgrow, List.set, Value.cells, ↓popG_eq, ↓pop.eq_1, ↓List.getElem?_map, ↓List.getElem?_cons_zero, ↓List.getElem?_cons_succ, Value.oneCell', Nat.reduceAdd, Nat.reduceMul, Nat.reduceSub, Nat.reduceLeDiff, Nat.reduceEqDiff, ↓reduceIte, ne_eq, reduceCtorEq, forall_const, exists_and_left, exists_eq_left', eq_self, Nat.reduceLT, Int.reduceLT, Int.reduceLE, Int.reduceToNat, Int.reduceAdd, Int.reduceSub, Int.reduceNeg, hnm, Try.tf0, Try.tf1, Try.tf3, Try.tf4, Try.tf5, Try.tf9, Try.tf22, Try.tf28, Try.tf33, Try.tf34, Try.tf35, Try.tf43, Try.tf44, Try.tf53, Try.tf65, Try.teq79, Try.call11, Try.call13, Try.call17, Try.call18, Try.call19, Try.call21, Try.call22, Try.call28, Try.call29]); repeat (refine And.intro (by omega) ?_))
    | ((with_reducible first | apply WL_nil | apply W_label | apply W_skip | apply W_exit | apply W_ret); try simp only [seqK, blockK, scopeK, ↓reduceIte, Nat.reduceEqDiff])
    | (with_reducible apply pguard_intro <;> (intro hc; (try simp only [hcb, reduceCtorEq, forall_const, ne_eq] at hc); first | (exfalso; omega) | (exfalso; exact hc trivial) | refine Ev_in ?_))
    | (with_reducible apply W_cond_k; intro _ _ ea eb; (simp only [condK, cob, opnd, constPV, Nat.reduceEqDiff, Nat.reduceLT, ↓reduceIte, hcb, reduceCtorEq, forall_const, ne_eq]); subst ea eb; first | (refine ⟨fun hc => ?_, fun hc => ?_⟩ <;> first | (exfalso; omega) | (exfalso; exact hc trivial) | skip) | skip)
    | (with_reducible apply hnx; clear hnx nx)
    | (with_reducible refine And.intro (by omega) ?_)
    | (with_reducible refine And.intro ?_ ?_)
    | ((refine pcall_mid Hb Ha1 [] (by simp) s2 ?_; rintro _ Ha2 ⟨rfl, hEa2⟩; refine Ev_in ?_))
    | (clear hnx nx; with_reducible apply hnx; clear hnx nx)
    | (clear hnx nx; clear hnx nx; with_reducible apply hnx; clear hnx nx)
    | (clear hnx nx; clear hnx nx; clear hnx nx; with_reducible apply hnx; clear hnx nx))
  clear hEa1 s2
  with_reducible apply W_seq_k
  intro nx hnx
  iterate 8 (first
    | (with_reducible apply W_seq_k; intro nx hnx)
    | (with_reducible first | apply W_block | apply W_scope)
    | (with_reducible refine W_prune 14335 ?_; simp only [prb, Nat.reducePow, Nat.reduceDiv, Nat.reduceMod, Nat.reduceBEq]; with_reducible apply W_region_l)
    | ((first | (with_reducible apply WL_op; intro nx hnx) | with_reducible refine Ev_out ?_ | (with_reducible refine pfresh_k hnm fun nm hnm => ?_; (try simp only [fmb] at hnm)) | (with_reducible refine pborn_mu hnm fun nm hnm => ?_; (try simp only [fmb] at hnm))); try (simp (maxSteps := 2000000) (disch := omega) only [evb, evd, pbuiltin, constPV, pnck, seqK, blockK, scopeK, pbin, pun, ppick, plen, piaddr, pindex, pfield, pslice, pbound, pconv, pelems, pextract, pmm, PV.mem?, PV.one, PV.cells, pageq, peqs, peq1, pmakes, pstore, pbytes, pmark, psrc, pkey, pnile, pcap, pgrow, List.set, Value.cells, ↓popG_eq, ↓pop.eq_1, ↓List.getElem?_map, ↓List.getElem?_cons_zero, ↓List.getElem?_cons_succ, Value.oneCell', Nat.reduceAdd, Nat.reduceMul, Nat.reduceSub, Nat.reduceLeDiff, Nat.reduceEqDiff, ↓reduceIte, ne_eq, reduceCtorEq, forall_const, exists_and_left, exists_eq_left', eq_self, Nat.reduceLT, Int.reduceLT, Int.reduceLE, Int.reduceToNat, Int.reduceAdd, Int.reduceSub, Int.reduceNeg, hnm, Try.tf0, Try.tf1, Try.tf3, Try.tf4, Try.tf5, Try.tf9, Try.tf22, Try.tf28, Try.tf33, Try.tf34, Try.tf35, Try.tf43, Try.tf44, Try.tf53, Try.tf65, Try.teq79, Try.call11, Try.call13, Try.call17, Try.call18, Try.call19, Try.call21, Try.call22, Try.call28, Try.call29]); repeat (refine And.intro (by omega) ?_))
    | ((with_reducible first | apply WL_nil | apply W_label | apply W_skip | apply W_exit | apply W_ret); try simp only [seqK, blockK, scopeK, ↓reduceIte, Nat.reduceEqDiff])
    | (with_reducible apply pguard_intro <;> (intro hc; (try simp only [hcb, reduceCtorEq, forall_const, ne_eq] at hc); first | (exfalso; omega) | (exfalso; exact hc trivial) | refine Ev_in ?_))
    | (with_reducible apply W_cond_k; intro _ _ ea eb; (simp only [condK, cob, opnd, constPV, Nat.reduceEqDiff, Nat.reduceLT, ↓reduceIte, hcb, reduceCtorEq, forall_const, ne_eq]); subst ea eb; first | (refine ⟨fun hc => ?_, fun hc => ?_⟩ <;> first | (exfalso; omega) | (exfalso; exact hc trivial) | skip) | skip)
    | (with_reducible apply hnx; clear hnx nx)
    | (with_reducible refine And.intro (by omega) ?_)
    | (with_reducible refine And.intro ?_ ?_)
    | (clear hnx nx; with_reducible apply hnx; clear hnx nx)
    | (clear hnx nx; clear hnx nx; with_reducible apply hnx; clear hnx nx)
    | (clear hnx nx; clear hnx nx; clear hnx nx; with_reducible apply hnx; clear hnx nx))
  · rfl
  with_reducible apply hnx
  clear hnx nx
  refine WL_nd fun nd => ?_
  have hne := two_ne hEb hEa2 nd
  refine WL_mark (by simp) rfl (by simp [frz, frz1, hne]) (two_frz _ hEb hEa2 nd) ?_
  clear nd hne
  have s3 : PCalls Try.prog G 11 [.ptr a 0, .list 1 [.val (.int .u8 99)]] Ha2 _ := send_k G lv3 hEa2 (by simp) (by simp [newL])
  repeat' (first
    | (with_reducible first | apply W_block | apply W_scope)
    | (with_reducible refine W_prune 14335 ?_; simp only [prb, Nat.reducePow, Nat.reduceDiv, Nat.reduceMod, Nat.reduceBEq]; with_reducible apply W_region_l)
    | ((first | (with_reducible apply WL_op; intro nx hnx) | with_reducible refine Ev_out ?_ | (with_reducible refine pfresh_k hnm fun nm hnm => ?_; (try simp only [fmb] at hnm)) | (with_reducible refine pborn_mu hnm fun nm hnm => ?_; (try simp only [fmb] at hnm))); try (simp (maxSteps := 2000000) (disch := omega) only [evb, evd, pbuiltin, constPV, pnck, seqK, blockK, scopeK, pbin, pun, ppick, plen, piaddr, pindex, pfield, pslice, pbound, pconv, pelems, pextract, pmm, PV.mem?, PV.one, PV.cells, pageq, peqs, peq1, pmakes, pstore, pbytes, pmark, psrc, pkey, pnile, pcap, pgrow, List.set, Value.cells, ↓popG_eq, ↓pop.eq_1, ↓List.getElem?_map, ↓List.getElem?_cons_zero, ↓List.getElem?_cons_succ, Value.oneCell', Nat.reduceAdd, Nat.reduceMul, Nat.reduceSub, Nat.reduceLeDiff, Nat.reduceEqDiff, ↓reduceIte, ne_eq, reduceCtorEq, forall_const, exists_and_left, exists_eq_left', eq_self, Nat.reduceLT, Int.reduceLT, Int.reduceLE, Int.reduceToNat, Int.reduceAdd, Int.reduceSub, Int.reduceNeg, hnm, Try.tf0, Try.tf1, Try.tf3, Try.tf4, Try.tf5, Try.tf9, Try.tf22, Try.tf28, Try.tf33, Try.tf34, Try.tf35, Try.tf43, Try.tf44, Try.tf53, Try.tf65, Try.teq79, Try.call11, Try.call13, Try.call17, Try.call18, Try.call19, Try.call21, Try.call22, Try.call28, Try.call29]); repeat (refine And.intro (by omega) ?_))
    | ((with_reducible first | apply WL_nil | apply W_label | apply W_skip | apply W_exit | apply W_ret); try simp only [seqK, blockK, scopeK, ↓reduceIte, Nat.reduceEqDiff])
    | (with_reducible apply pguard_intro <;> (intro hc; (try simp only [hcb, reduceCtorEq, forall_const, ne_eq] at hc); first | (exfalso; omega) | (exfalso; exact hc trivial) | refine Ev_in ?_))
    | (with_reducible apply W_cond_k; intro _ _ ea eb; (simp only [condK, cob, opnd, constPV, Nat.reduceEqDiff, Nat.reduceLT, ↓reduceIte, hcb, reduceCtorEq, forall_const, ne_eq]); subst ea eb; first | (refine ⟨fun hc => ?_, fun hc => ?_⟩ <;> first | (exfalso; omega) | (exfalso; exact hc trivial) | skip) | skip)
    | (with_reducible apply hnx; clear hnx nx)
    | (with_reducible refine And.intro (by omega) ?_)
    | (with_reducible refine And.intro ?_ ?_)
    | ((refine pcall_mid Hb Ha2 [] (by simp) s3 ?_; rintro _ Ha3 ⟨rfl, hEa3⟩; refine Ev_in ?_))
    | (clear hnx nx; with_reducible apply hnx; clear hnx nx)
    | (clear hnx nx; clear hnx nx; with_reducible apply hnx; clear hnx nx)
    | (clear hnx nx; clear hnx nx; clear hnx nx; with_reducible apply hnx; clear hnx nx))
  clear hEa2 s3
  have o1 := out_k G lv4 hEa3 ⟨by decide, by decide, by decide, by decide⟩ (by decide) (by decide)
  simp only [List.map_cons, List.map_nil] at o1
  have q1 := sealP_len 9 1 0 [97] ⟨by omega, by omega⟩ ⟨by omega, by omega⟩ (by simp)
  have q2 := sealP_len 9 2 0 [98] ⟨by omega, by omega⟩ ⟨by omega, by omega⟩ (by simp)
  have q3 := sealP_len 9 0 2 [] ⟨by omega, by omega⟩ ⟨by omega, by omega⟩ (by simp)
  have q4 := sealP_len 9 3 0 [99] ⟨by omega, by omega⟩ ⟨by omega, by omega⟩ (by simp)
  have i1 := in_k G lv5 hEb (by omega) ⟨by decide, by decide, by decide, by decide⟩
  have l6 := lv6
  have l7 := lv7
  have l8 := lv8
  have l9 := lv9
  have w1 := rbytesP_c G 3 0 [99] ⟨by omega, by omega⟩ ⟨by omega, by omega⟩ (by simp)
  have w2 := rseal_c G 9 (packB 3 0 [99]) (by have := packB_len 3 0 [99] ⟨by omega, by omega⟩ ⟨by omega, by omega⟩ (by simp); omega)
  rw [← sealP] at w2
  generalize sealP 9 1 0 [97] = x1 at *
  generalize sealP 9 2 0 [98] = x2 at *
  generalize sealP 9 0 2 [] = x3 at *
  generalize sealP 9 3 0 [99] = x4 at *
  generalize packB 3 0 [99] = x5 at *
  repeat' (first
    | (with_reducible apply W_seq_k; intro nx hnx)
    | (with_reducible first | apply W_block | apply W_scope)
    | (with_reducible refine W_prune 14335 ?_; simp only [prb, Nat.reducePow, Nat.reduceDiv, Nat.reduceMod, Nat.reduceBEq]; with_reducible apply W_region_l)
    | ((first | (with_reducible apply WL_op; intro nx hnx) | with_reducible refine Ev_out ?_ | (with_reducible refine pfresh_k hnm fun nm hnm => ?_; (try simp only [fmb] at hnm)) | (with_reducible refine pborn_mu hnm fun nm hnm => ?_; (try simp only [fmb] at hnm))); try (simp (maxSteps := 2000000) (disch := omega) only [evb, evd, pbuiltin, constPV, pnck, seqK, blockK, scopeK, pbin, pun, ppick, plen, piaddr, pindex, pfield, pslice, pbound, pconv, pelems, pextract, pmm, PV.mem?, PV.one, PV.cells, pageq, peqs, peq1, pmakes, pstore, pbytes, pmark, psrc, pkey, pnile, pcap, pgrow, List.set, Value.cells, ↓popG_eq, ↓pop.eq_1, ↓List.getElem?_map, ↓List.getElem?_cons_zero, ↓List.getElem?_cons_succ, Value.oneCell', Nat.reduceAdd, Nat.reduceMul, Nat.reduceSub, Nat.reduceLeDiff, Nat.reduceEqDiff, ↓reduceIte, ne_eq, reduceCtorEq, forall_const, exists_and_left, exists_eq_left', eq_self, Nat.reduceLT, Int.reduceLT, Int.reduceLE, Int.reduceToNat, Int.reduceAdd, Int.reduceSub, Int.reduceNeg, hnm, Try.tf0, Try.tf1, Try.tf3, Try.tf4, Try.tf5, Try.tf9, Try.tf22, Try.tf28, Try.tf33, Try.tf34, Try.tf35, Try.tf43, Try.tf44, Try.tf53, Try.tf65, Try.teq79, Try.call11, Try.call13, Try.call17, Try.call18, Try.call19, Try.call21, Try.call22, Try.call28, Try.call29]); repeat (refine And.intro (by omega) ?_))
    | ((with_reducible first | apply WL_nil | apply W_label | apply W_skip | apply W_exit | apply W_ret); try simp only [seqK, blockK, scopeK, ↓reduceIte, Nat.reduceEqDiff])
    | (with_reducible apply pguard_intro <;> (intro hc; (try simp only [hcb, reduceCtorEq, forall_const, ne_eq] at hc); first | (exfalso; omega) | (exfalso; exact hc trivial) | refine Ev_in ?_))
    | (with_reducible apply W_cond_k; intro _ _ ea eb; (simp only [condK, cob, opnd, constPV, Nat.reduceEqDiff, Nat.reduceLT, ↓reduceIte, hcb, reduceCtorEq, forall_const, ne_eq]); subst ea eb; first | (refine ⟨fun hc => ?_, fun hc => ?_⟩ <;> first | (exfalso; omega) | (exfalso; exact hc trivial) | skip) | skip)
    | (with_reducible apply hnx; clear hnx nx)
    | (with_reducible refine And.intro (by omega) ?_)
    | (with_reducible refine And.intro ?_ ?_)
    | ((refine pcall_mid Hb Ha3 [] (by simp) o1 ?_; rintro _ Ha4 ⟨rfl, hEa4⟩; refine Ev_in ?_))
    | (clear hnx nx; with_reducible apply hnx; clear hnx nx)
    | (clear hnx nx; clear hnx nx; with_reducible apply hnx; clear hnx nx)
    | (clear hnx nx; clear hnx nx; clear hnx nx; with_reducible apply hnx; clear hnx nx))
  all_goals first
    | (exfalso
       omega)
    | skip
  refine pcall_mid [] Hb Ha4 rfl i1 ?_
  rintro _ Hb1 ⟨rfl, hEHb1⟩
  refine Ev_in ?_
  have i2 := in_k G l6 hEHb1 (by omega) ⟨by decide, by decide, by decide, by decide⟩
  repeat' (first
    | (with_reducible apply W_seq_k; intro nx hnx)
    | (with_reducible first | apply W_block | apply W_scope)
    | (with_reducible refine W_prune 14335 ?_; simp only [prb, Nat.reducePow, Nat.reduceDiv, Nat.reduceMod, Nat.reduceBEq]; with_reducible apply W_region_l)
    | ((first | (with_reducible apply WL_op; intro nx hnx) | with_reducible refine Ev_out ?_ | (with_reducible refine pfresh_k hnm fun nm hnm => ?_; (try simp only [fmb] at hnm)) | (with_reducible refine pborn_mu hnm fun nm hnm => ?_; (try simp only [fmb] at hnm))); try (simp (maxSteps := 2000000) (disch := omega) only [evb, evd, pbuiltin, constPV, pnck, seqK, blockK, scopeK, pbin, pun, ppick, plen, piaddr, pindex, pfield, pslice, pbound, pconv, pelems, pextract, pmm, PV.mem?, PV.one, PV.cells, pageq, peqs, peq1, pmakes, pstore, pbytes, pmark, psrc, pkey, pnile, pcap, pgrow, List.set, Value.cells, ↓popG_eq, ↓pop.eq_1, ↓List.getElem?_map, ↓List.getElem?_cons_zero, ↓List.getElem?_cons_succ, Value.oneCell', Nat.reduceAdd, Nat.reduceMul, Nat.reduceSub, Nat.reduceLeDiff, Nat.reduceEqDiff, ↓reduceIte, ne_eq, reduceCtorEq, forall_const, exists_and_left, exists_eq_left', eq_self, Nat.reduceLT, Int.reduceLT, Int.reduceLE, Int.reduceToNat, Int.reduceAdd, Int.reduceSub, Int.reduceNeg, hnm, Try.tf0, Try.tf1, Try.tf3, Try.tf4, Try.tf5, Try.tf9, Try.tf22, Try.tf28, Try.tf33, Try.tf34, Try.tf35, Try.tf43, Try.tf44, Try.tf53, Try.tf65, Try.teq79, Try.call11, Try.call13, Try.call17, Try.call18, Try.call19, Try.call21, Try.call22, Try.call28, Try.call29]); repeat (refine And.intro (by omega) ?_))
    | ((with_reducible first | apply WL_nil | apply W_label | apply W_skip | apply W_exit | apply W_ret); try simp only [seqK, blockK, scopeK, ↓reduceIte, Nat.reduceEqDiff])
    | (with_reducible apply pguard_intro <;> (intro hc; (try simp only [hcb, reduceCtorEq, forall_const, ne_eq] at hc); first | (exfalso; omega) | (exfalso; exact hc trivial) | refine Ev_in ?_))
    | (with_reducible apply W_cond_k; intro _ _ ea eb; (simp only [condK, cob, opnd, constPV, Nat.reduceEqDiff, Nat.reduceLT, ↓reduceIte, hcb, reduceCtorEq, forall_const, ne_eq]); subst ea eb; first | (refine ⟨fun hc => ?_, fun hc => ?_⟩ <;> first | (exfalso; omega) | (exfalso; exact hc trivial) | skip) | skip)
    | (with_reducible apply hnx; clear hnx nx)
    | (with_reducible refine And.intro (by omega) ?_)
    | (with_reducible refine And.intro ?_ ?_)
    | (clear hnx nx; with_reducible apply hnx; clear hnx nx)
    | (clear hnx nx; clear hnx nx; with_reducible apply hnx; clear hnx nx)
    | (clear hnx nx; clear hnx nx; clear hnx nx; with_reducible apply hnx; clear hnx nx))
  refine pcall_mid [] Hb1 Ha4 rfl i2 ?_
  rintro _ Hb2 ⟨rfl, hEHb2⟩
  refine Ev_in ?_
  have o2 := out_k G l7 hEHb2 ⟨by decide, by decide, by decide, by decide⟩ (by decide) (by decide)
  repeat' (first
    | (with_reducible apply W_seq_k; intro nx hnx)
    | (with_reducible first | apply W_block | apply W_scope)
    | (with_reducible refine W_prune 14335 ?_; simp only [prb, Nat.reducePow, Nat.reduceDiv, Nat.reduceMod, Nat.reduceBEq]; with_reducible apply W_region_l)
    | ((first | (with_reducible apply WL_op; intro nx hnx) | with_reducible refine Ev_out ?_ | (with_reducible refine pfresh_k hnm fun nm hnm => ?_; (try simp only [fmb] at hnm)) | (with_reducible refine pborn_mu hnm fun nm hnm => ?_; (try simp only [fmb] at hnm))); try (simp (maxSteps := 2000000) (disch := omega) only [evb, evd, pbuiltin, constPV, pnck, seqK, blockK, scopeK, pbin, pun, ppick, plen, piaddr, pindex, pfield, pslice, pbound, pconv, pelems, pextract, pmm, PV.mem?, PV.one, PV.cells, pageq, peqs, peq1, pmakes, pstore, pbytes, pmark, psrc, pkey, pnile, pcap, pgrow, List.set, Value.cells, ↓popG_eq, ↓pop.eq_1, ↓List.getElem?_map, ↓List.getElem?_cons_zero, ↓List.getElem?_cons_succ, Value.oneCell', Nat.reduceAdd, Nat.reduceMul, Nat.reduceSub, Nat.reduceLeDiff, Nat.reduceEqDiff, ↓reduceIte, ne_eq, reduceCtorEq, forall_const, exists_and_left, exists_eq_left', eq_self, Nat.reduceLT, Int.reduceLT, Int.reduceLE, Int.reduceToNat, Int.reduceAdd, Int.reduceSub, Int.reduceNeg, hnm, Try.tf0, Try.tf1, Try.tf3, Try.tf4, Try.tf5, Try.tf9, Try.tf22, Try.tf28, Try.tf33, Try.tf34, Try.tf35, Try.tf43, Try.tf44, Try.tf53, Try.tf65, Try.teq79, Try.call11, Try.call13, Try.call17, Try.call18, Try.call19, Try.call21, Try.call22, Try.call28, Try.call29]); repeat (refine And.intro (by omega) ?_))
    | ((with_reducible first | apply WL_nil | apply W_label | apply W_skip | apply W_exit | apply W_ret); try simp only [seqK, blockK, scopeK, ↓reduceIte, Nat.reduceEqDiff])
    | (with_reducible apply pguard_intro <;> (intro hc; (try simp only [hcb, reduceCtorEq, forall_const, ne_eq] at hc); first | (exfalso; omega) | (exfalso; exact hc trivial) | refine Ev_in ?_))
    | (with_reducible apply W_cond_k; intro _ _ ea eb; (simp only [condK, cob, opnd, constPV, Nat.reduceEqDiff, Nat.reduceLT, ↓reduceIte, hcb, reduceCtorEq, forall_const, ne_eq]); subst ea eb; first | (refine ⟨fun hc => ?_, fun hc => ?_⟩ <;> first | (exfalso; omega) | (exfalso; exact hc trivial) | skip) | skip)
    | (with_reducible apply hnx; clear hnx nx)
    | (with_reducible refine And.intro (by omega) ?_)
    | (with_reducible refine And.intro ?_ ?_)
    | (clear hnx nx; with_reducible apply hnx; clear hnx nx)
    | (clear hnx nx; clear hnx nx; with_reducible apply hnx; clear hnx nx)
    | (clear hnx nx; clear hnx nx; clear hnx nx; with_reducible apply hnx; clear hnx nx))
  refine pcall_mid [] Hb2 Ha4 rfl o2 ?_
  rintro _ Hb3 ⟨rfl, hEHb3⟩
  refine Ev_in ?_
  have i3 := in_k G l8 hEa4 (by omega) ⟨by decide, by decide, by decide, by decide⟩
  repeat' (first
    | (with_reducible apply W_seq_k; intro nx hnx)
    | (with_reducible first | apply W_block | apply W_scope)
    | (with_reducible refine W_prune 14335 ?_; simp only [prb, Nat.reducePow, Nat.reduceDiv, Nat.reduceMod, Nat.reduceBEq]; with_reducible apply W_region_l)
    | ((first | (with_reducible apply WL_op; intro nx hnx) | with_reducible refine Ev_out ?_ | (with_reducible refine pfresh_k hnm fun nm hnm => ?_; (try simp only [fmb] at hnm)) | (with_reducible refine pborn_mu hnm fun nm hnm => ?_; (try simp only [fmb] at hnm))); try (simp (maxSteps := 2000000) (disch := omega) only [evb, evd, pbuiltin, constPV, pnck, seqK, blockK, scopeK, pbin, pun, ppick, plen, piaddr, pindex, pfield, pslice, pbound, pconv, pelems, pextract, pmm, PV.mem?, PV.one, PV.cells, pageq, peqs, peq1, pmakes, pstore, pbytes, pmark, psrc, pkey, pnile, pcap, pgrow, List.set, Value.cells, ↓popG_eq, ↓pop.eq_1, ↓List.getElem?_map, ↓List.getElem?_cons_zero, ↓List.getElem?_cons_succ, Value.oneCell', Nat.reduceAdd, Nat.reduceMul, Nat.reduceSub, Nat.reduceLeDiff, Nat.reduceEqDiff, ↓reduceIte, ne_eq, reduceCtorEq, forall_const, exists_and_left, exists_eq_left', eq_self, Nat.reduceLT, Int.reduceLT, Int.reduceLE, Int.reduceToNat, Int.reduceAdd, Int.reduceSub, Int.reduceNeg, hnm, Try.tf0, Try.tf1, Try.tf3, Try.tf4, Try.tf5, Try.tf9, Try.tf22, Try.tf28, Try.tf33, Try.tf34, Try.tf35, Try.tf43, Try.tf44, Try.tf53, Try.tf65, Try.teq79, Try.call11, Try.call13, Try.call17, Try.call18, Try.call19, Try.call21, Try.call22, Try.call28, Try.call29]); repeat (refine And.intro (by omega) ?_))
    | ((with_reducible first | apply WL_nil | apply W_label | apply W_skip | apply W_exit | apply W_ret); try simp only [seqK, blockK, scopeK, ↓reduceIte, Nat.reduceEqDiff])
    | (with_reducible apply pguard_intro <;> (intro hc; (try simp only [hcb, reduceCtorEq, forall_const, ne_eq] at hc); first | (exfalso; omega) | (exfalso; exact hc trivial) | refine Ev_in ?_))
    | (with_reducible apply W_cond_k; intro _ _ ea eb; (simp only [condK, cob, opnd, constPV, Nat.reduceEqDiff, Nat.reduceLT, ↓reduceIte, hcb, reduceCtorEq, forall_const, ne_eq]); subst ea eb; first | (refine ⟨fun hc => ?_, fun hc => ?_⟩ <;> first | (exfalso; omega) | (exfalso; exact hc trivial) | skip) | skip)
    | (with_reducible apply hnx; clear hnx nx)
    | (with_reducible refine And.intro (by omega) ?_)
    | (with_reducible refine And.intro ?_ ?_)
    | (clear hnx nx; with_reducible apply hnx; clear hnx nx)
    | (clear hnx nx; clear hnx nx; with_reducible apply hnx; clear hnx nx)
    | (clear hnx nx; clear hnx nx; clear hnx nx; with_reducible apply hnx; clear hnx nx))
  all_goals first
    | exact absurd trivial hc
    | exact isByte_pbyte _
    | exact (rfl : Try.prog.underlying 5 = some (TypeDesc.int IntKind.u8))
    | (exfalso
       omega)
    | (exfalso
       revert hc
       decide)
    | skip
  refine pcall_mid Hb3 Ha4 [] (by simp) i3 ?_
  rintro _ Ha5 ⟨rfl, hEa5⟩
  refine Ev_in ?_
  have o3 := out_k G l9 hEa5 ⟨by decide, by decide, by decide, by decide⟩ (by decide) (by decide)
  repeat' (first
    | (with_reducible apply W_seq_k; intro nx hnx)
    | (with_reducible first | apply W_block | apply W_scope)
    | (with_reducible refine W_prune 14335 ?_; simp only [prb, Nat.reducePow, Nat.reduceDiv, Nat.reduceMod, Nat.reduceBEq]; with_reducible apply W_region_l)
    | ((first | (with_reducible apply WL_op; intro nx hnx) | with_reducible refine Ev_out ?_ | (with_reducible refine pfresh_k hnm fun nm hnm => ?_; (try simp only [fmb] at hnm)) | (with_reducible refine pborn_mu hnm fun nm hnm => ?_; (try simp only [fmb] at hnm))); try (simp (maxSteps := 2000000) (disch := omega) only [evb, evd, pbuiltin, constPV, pnck, seqK, blockK, scopeK, pbin, pun, ppick, plen, piaddr, pindex, pfield, pslice, pbound, pconv, pelems, pextract, pmm, PV.mem?, PV.one, PV.cells, pageq, peqs, peq1, pmakes, pstore, pbytes, pmark, psrc, pkey, pnile, pcap, pgrow, List.set, Value.cells, ↓popG_eq, ↓pop.eq_1, ↓List.getElem?_map, ↓List.getElem?_cons_zero, ↓List.getElem?_cons_succ, Value.oneCell', Nat.reduceAdd, Nat.reduceMul, Nat.reduceSub, Nat.reduceLeDiff, Nat.reduceEqDiff, ↓reduceIte, ne_eq, reduceCtorEq, forall_const, exists_and_left, exists_eq_left', eq_self, Nat.reduceLT, Int.reduceLT, Int.reduceLE, Int.reduceToNat, Int.reduceAdd, Int.reduceSub, Int.reduceNeg, hnm, Try.tf0, Try.tf1, Try.tf3, Try.tf4, Try.tf5, Try.tf9, Try.tf22, Try.tf28, Try.tf33, Try.tf34, Try.tf35, Try.tf43, Try.tf44, Try.tf53, Try.tf65, Try.teq79, Try.call11, Try.call13, Try.call17, Try.call18, Try.call19, Try.call21, Try.call22, Try.call28, Try.call29]); repeat (refine And.intro (by omega) ?_))
    | ((with_reducible first | apply WL_nil | apply W_label | apply W_skip | apply W_exit | apply W_ret); try simp only [seqK, blockK, scopeK, ↓reduceIte, Nat.reduceEqDiff])
    | (with_reducible apply pguard_intro <;> (intro hc; (try simp only [hcb, reduceCtorEq, forall_const, ne_eq] at hc); first | (exfalso; omega) | (exfalso; exact hc trivial) | refine Ev_in ?_))
    | (with_reducible apply W_cond_k; intro _ _ ea eb; (simp only [condK, cob, opnd, constPV, Nat.reduceEqDiff, Nat.reduceLT, ↓reduceIte, hcb, reduceCtorEq, forall_const, ne_eq]); subst ea eb; first | (refine ⟨fun hc => ?_, fun hc => ?_⟩ <;> first | (exfalso; omega) | (exfalso; exact hc trivial) | skip) | skip)
    | (with_reducible apply hnx; clear hnx nx)
    | (with_reducible refine And.intro (by omega) ?_)
    | (with_reducible refine And.intro ?_ ?_)
    | (clear hnx nx; with_reducible apply hnx; clear hnx nx)
    | (clear hnx nx; clear hnx nx; with_reducible apply hnx; clear hnx nx)
    | (clear hnx nx; clear hnx nx; clear hnx nx; with_reducible apply hnx; clear hnx nx))
  refine pcall_mid Hb3 Ha5 [] (by simp) o3 ?_
  rintro _ Ha6 ⟨rfl, hEa6⟩
  refine Ev_in ?_
  repeat' (first
    | (with_reducible first | apply W_block | apply W_scope)
    | (with_reducible refine W_prune 14335 ?_; simp only [prb, Nat.reducePow, Nat.reduceDiv, Nat.reduceMod, Nat.reduceBEq]; with_reducible apply W_region_l)
    | ((first | (with_reducible apply WL_op; intro nx hnx) | with_reducible refine Ev_out ?_ | (with_reducible refine pfresh_k hnm fun nm hnm => ?_; (try simp only [fmb] at hnm)) | (with_reducible refine pborn_mu hnm fun nm hnm => ?_; (try simp only [fmb] at hnm))); try (simp (maxSteps := 2000000) (disch := omega) only [evb, evd, pbuiltin, constPV, pnck, seqK, blockK, scopeK, pbin, pun, ppick, plen, piaddr, pindex, pfield, pslice, pbound, pconv, pelems, pextract, pmm, PV.mem?, PV.one, PV.cells, pageq, peqs, peq1, pmakes, pstore, pbytes, pmark, psrc, pkey, pnile, pcap, pgrow, List.set, Value.cells, ↓popG_eq, ↓pop.eq_1, ↓List.getElem?_map, ↓List.getElem?_cons_zero, ↓List.getElem?_cons_succ, Value.oneCell', Nat.reduceAdd, Nat.reduceMul, Nat.reduceSub, Nat.reduceLeDiff, Nat.reduceEqDiff, ↓reduceIte, ne_eq, reduceCtorEq, forall_const, exists_and_left, exists_eq_left', eq_self, Nat.reduceLT, Int.reduceLT, Int.reduceLE, Int.reduceToNat, Int.reduceAdd, Int.reduceSub, Int.reduceNeg, hnm, Try.tf0, Try.tf1, Try.tf3, Try.tf4, Try.tf5, Try.tf9, Try.tf22, Try.tf28, Try.tf33, Try.tf34, Try.tf35, Try.tf43, Try.tf44, Try.tf53, Try.tf65, Try.teq79, Try.call11, Try.call13, Try.call17, Try.call18, Try.call19, Try.call21, Try.call22, Try.call28, Try.call29]); repeat (refine And.intro (by omega) ?_))
    | ((with_reducible first | apply WL_nil | apply W_label | apply W_skip | apply W_exit | apply W_ret); try simp only [seqK, blockK, scopeK, ↓reduceIte, Nat.reduceEqDiff])
    | (with_reducible apply pguard_intro <;> (intro hc; (try simp only [hcb, reduceCtorEq, forall_const, ne_eq] at hc); first | (exfalso; omega) | (exfalso; exact hc trivial) | refine Ev_in ?_))
    | (with_reducible apply W_cond_k; intro _ _ ea eb; (simp only [condK, cob, opnd, constPV, Nat.reduceEqDiff, Nat.reduceLT, ↓reduceIte, hcb, reduceCtorEq, forall_const, ne_eq]); subst ea eb; first | (refine ⟨fun hc => ?_, fun hc => ?_⟩ <;> first | (exfalso; omega) | (exfalso; exact hc trivial) | skip) | skip)
    | (with_reducible apply hnx; clear hnx nx)
    | (with_reducible refine And.intro (by omega) ?_)
    | (with_reducible refine And.intro ?_ ?_)
    | (clear hnx nx; with_reducible apply hnx; clear hnx nx)
    | (clear hnx nx; clear hnx nx; with_reducible apply hnx; clear hnx nx)
    | (clear hnx nx; clear hnx nx; clear hnx nx; with_reducible apply hnx; clear hnx nx))
  with_reducible apply W_seq_k
  intro nx hnx
  iterate 6 (first
    | (with_reducible apply W_seq_k; intro nx hnx)
    | (with_reducible first | apply W_block | apply W_scope)
    | (with_reducible refine W_prune 14335 ?_; simp only [prb, Nat.reducePow, Nat.reduceDiv, Nat.reduceMod, Nat.reduceBEq]; with_reducible apply W_region_l)
    | ((first | (with_reducible apply WL_op; intro nx hnx) | with_reducible refine Ev_out ?_ | (with_reducible refine pfresh_k hnm fun nm hnm => ?_; (try simp only [fmb] at hnm)) | (with_reducible refine pborn_mu hnm fun nm hnm => ?_; (try simp only [fmb] at hnm))); try (simp (maxSteps := 2000000) (disch := omega) only [evb, evd, pbuiltin, constPV, pnck, seqK, blockK, scopeK, pbin, pun, ppick, plen, piaddr, pindex, pfield, pslice, pbound, pconv, pelems, pextract, pmm, PV.mem?, PV.one, PV.cells, pageq, peqs, peq1, pmakes, pstore, pbytes, pmark, psrc, pkey, pnile, pcap, pgrow, List.set, Value.cells, ↓popG_eq, ↓pop.eq_1, ↓List.getElem?_map, ↓List.getElem?_cons_zero, ↓List.getElem?_cons_succ, Value.oneCell', Nat.reduceAdd, Nat.reduceMul, Nat.reduceSub, Nat.reduceLeDiff, Nat.reduceEqDiff, ↓reduceIte, ne_eq, reduceCtorEq, forall_const, exists_and_left, exists_eq_left', eq_self, Nat.reduceLT, Int.reduceLT, Int.reduceLE, Int.reduceToNat, Int.reduceAdd, Int.reduceSub, Int.reduceNeg, hnm, Try.tf0, Try.tf1, Try.tf3, Try.tf4, Try.tf5, Try.tf9, Try.tf22, Try.tf28, Try.tf33, Try.tf34, Try.tf35, Try.tf43, Try.tf44, Try.tf53, Try.tf65, Try.teq79, Try.call11, Try.call13, Try.call17, Try.call18, Try.call19, Try.call21, Try.call22, Try.call28, Try.call29]); repeat (refine And.intro (by omega) ?_))
    | ((with_reducible first | apply WL_nil | apply W_label | apply W_skip | apply W_exit | apply W_ret); try simp only [seqK, blockK, scopeK, ↓reduceIte, Nat.reduceEqDiff])
    | (with_reducible apply pguard_intro <;> (intro hc; (try simp only [hcb, reduceCtorEq, forall_const, ne_eq] at hc); first | (exfalso; omega) | (exfalso; exact hc trivial) | refine Ev_in ?_))
    | (with_reducible apply W_cond_k; intro _ _ ea eb; (simp only [condK, cob, opnd, constPV, Nat.reduceEqDiff, Nat.reduceLT, ↓reduceIte, hcb, reduceCtorEq, forall_const, ne_eq]); subst ea eb; first | (refine ⟨fun hc => ?_, fun hc => ?_⟩ <;> first | (exfalso; omega) | (exfalso; exact hc trivial) | skip) | skip)
    | (with_reducible apply hnx; clear hnx nx)
    | (with_reducible refine And.intro (by omega) ?_)
    | (with_reducible refine And.intro ?_ ?_)
    | (clear hnx nx; with_reducible apply hnx; clear hnx nx)
    | (clear hnx nx; clear hnx nx; with_reducible apply hnx; clear hnx nx)
    | (clear hnx nx; clear hnx nx; clear hnx nx; with_reducible apply hnx; clear hnx nx))
  · rfl
  with_reducible apply hnx
  clear hnx nx
  refine WL_nd fun nd => ?_
  have hne := two_ne hEHb3 hEa6 nd
  refine WL_mark (by simp) rfl (by simp [frz, frz1, hne]) (two_frz _ hEHb3 hEa6 nd) ?_
  clear nd hne
  have w1 : PCalls Try.prog G 18 [.agg [.val (.int .i64 3), .val (.int .i64 0), .list 1 [.val (.int .u8 99)]]] [] _ := w1
  have w2 : PCalls Try.prog G 17 [.val (.int .u64 9), pl x5] [] _ := w2
  have m1 := same_c G x4 x4 (by omega)
  rw [decide_eq_true rfl] at m1
  have wt := waiting_c G a _ Ha6 hEa6
  have wf := forged_c G a _ Ha6 hEa6
  simp only [List.length_cons, List.length_nil] at wt wf
  repeat' (first
    | (with_reducible apply W_seq_k; intro nx hnx)
    | (with_reducible first | apply W_block | apply W_scope)
    | (with_reducible refine W_prune 14335 ?_; simp only [prb, Nat.reducePow, Nat.reduceDiv, Nat.reduceMod, Nat.reduceBEq]; with_reducible apply W_region_l)
    | ((first | (with_reducible apply WL_op; intro nx hnx) | with_reducible refine Ev_out ?_ | (with_reducible refine pfresh_k hnm fun nm hnm => ?_; (try simp only [fmb] at hnm)) | (with_reducible refine pborn_mu hnm fun nm hnm => ?_; (try simp only [fmb] at hnm))); try (simp (maxSteps := 2000000) (disch := omega) only [evb, evd, pbuiltin, constPV, pnck, seqK, blockK, scopeK, pbin, pun, ppick, plen, piaddr, pindex, pfield, pslice, pbound, pconv, pelems, pextract, pmm, PV.mem?, PV.one, PV.cells, pageq, peqs, peq1, pmakes, pstore, pbytes, pmark, psrc, pkey, pnile, pcap, pgrow, List.set, Value.cells, ↓popG_eq, ↓pop.eq_1, ↓List.getElem?_map, ↓List.getElem?_cons_zero, ↓List.getElem?_cons_succ, Value.oneCell', Nat.reduceAdd, Nat.reduceMul, Nat.reduceSub, Nat.reduceLeDiff, Nat.reduceEqDiff, ↓reduceIte, ne_eq, reduceCtorEq, forall_const, exists_and_left, exists_eq_left', eq_self, Nat.reduceLT, Int.reduceLT, Int.reduceLE, Int.reduceToNat, Int.reduceAdd, Int.reduceSub, Int.reduceNeg, hnm, Try.tf0, Try.tf1, Try.tf3, Try.tf4, Try.tf5, Try.tf9, Try.tf22, Try.tf28, Try.tf33, Try.tf34, Try.tf35, Try.tf43, Try.tf44, Try.tf53, Try.tf65, Try.teq79, Try.call11, Try.call13, Try.call17, Try.call18, Try.call19, Try.call21, Try.call22, Try.call28, Try.call29]); repeat (refine And.intro (by omega) ?_))
    | ((with_reducible first | apply WL_nil | apply W_label | apply W_skip | apply W_exit | apply W_ret); try simp only [seqK, blockK, scopeK, ↓reduceIte, Nat.reduceEqDiff])
    | (with_reducible apply pguard_intro <;> (intro hc; (try simp only [hcb, reduceCtorEq, forall_const, ne_eq] at hc); first | (exfalso; omega) | (exfalso; exact hc trivial) | refine Ev_in ?_))
    | (with_reducible apply W_cond_k; intro _ _ ea eb; (simp only [condK, cob, opnd, constPV, Nat.reduceEqDiff, Nat.reduceLT, ↓reduceIte, hcb, reduceCtorEq, forall_const, ne_eq]); subst ea eb; first | (refine ⟨fun hc => ?_, fun hc => ?_⟩ <;> first | (exfalso; omega) | (exfalso; exact hc trivial) | skip) | skip)
    | (with_reducible apply hnx; clear hnx nx)
    | (with_reducible refine And.intro (by omega) ?_)
    | (with_reducible refine And.intro ?_ ?_)
    | (with_reducible refine pcall_k (w1) ?_; rintro _ _ ⟨rfl, rfl⟩ -; refine Ev_in ?_)
    | (with_reducible refine pcall_k (w2) ?_; rintro _ _ ⟨rfl, rfl⟩ -; refine Ev_in ?_)
    | (with_reducible refine pcall_k (m1) ?_; rintro _ _ ⟨rfl, rfl⟩ -; refine Ev_in ?_)
    | (((with_reducible refine pcall_mid Hb3 Ha6 [] ?_ wt ?_); (· simp); rintro _ H' ⟨rfl, hq⟩; rw [hq]; clear hq; refine Ev_in ?_))
    | (((with_reducible refine pcall_mid Hb3 Ha6 [] ?_ wf ?_); (· simp); rintro _ H' ⟨rfl, hq⟩; rw [hq]; clear hq; refine Ev_in ?_))
    | (clear hnx nx; with_reducible apply hnx; clear hnx nx)
    | (clear hnx nx; clear hnx nx; with_reducible apply hnx; clear hnx nx)
    | (clear hnx nx; clear hnx nx; clear hnx nx; with_reducible apply hnx; clear hnx nx))
  all_goals first
    | exact absurd trivial hc
    | (exfalso
       revert hc
       decide)
    | (refine hfin _ _ (Fin_ret1 rfl (Sub_nil _) ?_); simp only [List.getD_cons_zero, List.getD_cons_succ, fr_getD_cons, fr_getD_nil, Nat.reduceEqDiff, Nat.reduceLT, ↓reduceIte]; first | trivial | exact ⟨rfl, by trivial⟩ | (simp; done) | (simp; omega))
end Go.PM

namespace Go.PM
open Go.Proofs
attribute [local irreducible] W PCalls pcall pcallI WL
end Go.PM

namespace Go.PM
open Go.Proofs
section
variable {P : Program} {G : Globs} {I : List Int}
/-- The one heap is in the other, in whatever order. -/
def Hs (H' H : Heap) : Prop := ∃ r, H.Perm (H' ++ r)
theorem Hs.refl (H : Heap) : Hs H H := ⟨[], by simp⟩
theorem Hs.sub {H' H : Heap} (h : Hs H' H) (nd : (names H).Nodup) : Sub H' H := by
  obtain ⟨r, hr⟩ := h
  have h2 : (names (H' ++ r)).Nodup := (List.Perm.nodup_iff (List.Perm.map _ hr)).1 nd
  simp only [names, List.map_append] at h2
  exact ⟨fun x hx => hr.mem_iff.2 (List.mem_append_left _ hx), (List.nodup_append.1 h2).1⟩
theorem Hs.skip {H' H : Heap} (x : Int × PObj) (h : Hs H' H) : Hs H' (x :: H) := by
  obtain ⟨r, hr⟩ := h
  exact ⟨x :: r, (List.Perm.cons x hr).trans List.perm_middle.symm⟩
theorem Hs.cons {H' H : Heap} (x : Int × PObj) (h : Hs H' H) : Hs (x :: H') (x :: H) := by
  obtain ⟨r, hr⟩ := h
  exact ⟨r, List.Perm.cons x hr⟩
theorem Hs.perm {H' H : Heap} (h : H.Perm H') : Hs H' H := ⟨[], by simpa using h⟩
/-- The frame says what is asked, and the heap is the one, in whatever order, perhaps with more. -/
def At (σ τ : PState) : Prop := wkF σ.frame τ.frame ∧ Hs τ.heap σ.heap
theorem At.wk {σ τ : PState} (h : At σ τ) (nd : (names σ.heap).Nodup) : Wk σ τ := ⟨h.1, h.2.sub nd⟩
theorem W_at {c : Code} {K : Exit → PState → Prop} {σ τ : PState} (h : At σ τ) (hw : W P G I c τ K) : W P G I c σ K := W_nd fun nd => W_wk (h.wk nd) hw
theorem At_fr {n : Nat} {l l' : List (Nat × PV)} {H H' : Heap} (h : ∀ x ∈ l', (fr n l).getD x.1 .junk = x.2) (hs : Hs H' H) : At ⟨fr n l, H⟩ ⟨fr n l', H'⟩ := ⟨wkF_fr h, hs⟩
theorem W_loop_at {c : Code} {K : Exit → PState → Prop} {σ : PState} (R : Nat → PState → Prop) (n0 : Nat) (τ0 : PState) (hw : At σ τ0) (h0 : R n0 τ0)
    (round : ∀ n τ, R n τ → ∀ lp : PState → Prop, (∀ σ'' n' τ', n' < n → At σ'' τ' → R n' τ' → lp σ'') → W P G I c τ (seqK lp K)) : W P G I (.loop c) σ K := by
  refine W_at hw (W_loop (fun n σ' => ∃ τ, At σ' τ ∧ R n τ) n0 ⟨τ0, ⟨wkF_refl _, Hs.refl _⟩, h0⟩ ?_)
  rintro n σ' ⟨τ, ha, hr⟩
  exact W_at ha (round n τ hr _ fun σ'' n' τ' hlt ha' hr' => ⟨n', hlt, τ', ha', hr'⟩)
end
section
variable {P : Program} {G : Globs} {f : List PV} {x y : Int × PObj} {A B C D : Heap} {fn : FuncId} {args : List PV} {R : PV → Heap → Prop} {d : Option Tmp} {K : PState → Prop}
end
structure RunI (i : Nat) (key : UInt64) (ra rb : RE) (sent : List (List UInt8)) (to : List Nat) : Prop where
  a : RunE i key ra
  b : RunE i key rb
  len : sent.length ≤ 16 * i
  tolen : to.length = sent.length
  pk : ∀ p ∈ sent, 12 ≤ p.length ∧ p.length ≤ 200000
  two : ∀ t ∈ to, t < 2
@[reducible] def pn (k : Nat) : PV := pint .i64 k
attribute [local irreducible] W PCalls pcall pcallI WL
end Go.PM

namespace Go.PM
open Go.Proofs
/-- The messages. -/
def msgN (n : Nat) : List (List UInt8) := (List.range n).map fun j => [UInt8.ofNat j]
theorem msgN_succ (n : Nat) : msgN (n + 1) = msgN n ++ [[UInt8.ofNat n]] := by simp [msgN, List.range_succ]
theorem msgN_len (n : Nat) : (msgN n).length = n := by simp [msgN]
theorem msgN_get {n j : Nat} (h : j < n) : (msgN n)[j]? = some [UInt8.ofNat j] := by simp [msgN, h]
/-- An end that has sent its messages. -/
@[reducible] def stI (win : Nat) (key : UInt64) (n : Nat) : LE := ⟨win, key, msgN n, 0, 0, [], false, 0⟩
theorem stI_send (win : Nat) (key : UInt64) (n : Nat) (h : n < 1000) : sendL (stI win key n) [UInt8.ofNat n] = (0, stI win key (n + 1)) := by
  unfold sendL
  rw [if_neg (by simp [msgN_len]; omega)]
  simp only [stI, msgN_succ]
theorem stI_ok (win : Nat) (key : UInt64) (n : Nat) (h : n ≤ 1000) : OkE (stI win key n) := by
  refine ⟨?_, ?_, ?_, ?_⟩
  · simp [msgN_len]; omega
  · simp [msgN_len]; omega
  · simp
  · simp
theorem u8_small (j : Nat) (h : j < 256) : IntKind.u8.wrap (j : Int) = ((UInt8.ofNat j).toNat : Int) := by
  have h1 : IntKind.u8.wrap (j : Int) = (j : Int) % 256 := by
    simp [IntKind.wrap, IntKind.bits, IntKind.signed]
  rw [h1, UInt8.toNat_ofNat']
  omega
attribute [local irreducible] W PCalls pcall pcallI WL
section
variable {P : Program} {G : Globs} {f : List PV} {A B : Heap} {fn : FuncId} {args : List PV} {R : PV → Heap → Prop} {d : Option Tmp} {K : PState → Prop}
theorem pcall_b (hc : PCalls P G fn args B R) (hk : ∀ res H, R res H → K (PState.put ⟨f, H ++ A⟩ d res)) : @pcallI false P G ⟨f, B ++ A⟩ d fn args ⟨K⟩ :=
  pcall_mid [] B A rfl hc hk
theorem pcall_a (hc : PCalls P G fn args A R) (hk : ∀ res H, R res H → K (PState.put ⟨f, B ++ H⟩ d res)) : @pcallI false P G ⟨f, B ++ A⟩ d fn args ⟨K⟩ :=
  pcall_mid B A [] (by simp) hc (fun res H h => by simpa using hk res H h)
end
set_option maxRecDepth 100000 in
set_option maxHeartbeats 8000000 in
theorem prog_send (G : Globs) (key : UInt64) (lost : Int) (a b : Int) (wa wb m0 m1 : Nat) (hm0 : m0 ≤ 31) (hm1 : m1 ≤ 31) (Ha Hb : Heap) (hA : IsEnd a (stI wa key 0) Ha) (hB : IsEnd b (stI wb key 0) Hb)
    (K : Exit → PState → Prop) (hK : ∀ σ' Ha Hb, IsEnd a (stI wa key m0) Ha → IsEnd b (stI wb key m1) Hb → At σ' ⟨fr 176 [(11, .list 1 [.ptr a 0, .ptr b 0]), (12, .list 1 [pn m0, pn m1]), (4, pint .i64 lost)], Hb ++ Ha⟩ → K .normal σ') :
    W Try.prog G [] (nav (Try.f6.body.getD .skip) [1, 1, 1, 1, 0]) ⟨fr 176 [(11, .list 1 [.ptr a 0, .ptr b 0]), (12, .list 1 [pn m0, pn m1]), (4, pint .i64 lost)], Hb ++ Ha⟩ K := by
  have hnm : True := trivial
  simp only [Try.f6, nav, Option.getD_some]
  repeat' (first
    | (with_reducible apply W_seq_k; intro nx hnx)
    | (with_reducible first | apply W_block | apply W_scope)
    | (with_reducible refine W_prune 16776223 ?_; simp only [prb, Nat.reducePow, Nat.reduceDiv, Nat.reduceMod, Nat.reduceBEq]; first | (with_reducible apply W_region_l) | with_reducible refine W_region_draw (id := 19) 1 (.op 0 true (.op 1 true (.op 2 true (.op 3 true (.op 4 true (.op 5 true (.op 6 true (.op 7 true (.op 8 true (.done)))))))))) (by kernel_rfl) ?_ | with_reducible refine W_region_draw (id := 28) 3 (.op 0 true (.op 1 true (.op 2 true (.op 3 true (.op 4 true (.op 5 true (.op 6 true (.op 7 true (.op 8 true (.op 9 false (.op 10 true (.op 11 true (.op 12 true (.op 13 true (.op 14 true (.done)))))))))))))))) (by kernel_rfl) ?_ | with_reducible refine W_region_draw (id := 34) 1 (.op 0 true (.op 1 true (.op 2 true (.op 3 true (.op 4 true (.op 5 true (.op 6 true (.op 7 true (.op 8 true (.op 9 true (.op 10 true (.op 11 true (.op 12 true (.op 13 true (.op 14 true (.op 15 true (.op 16 true (.op 17 true (.op 18 true (.op 19 true (.op 20 true (.done)))))))))))))))))))))) (by kernel_rfl) ?_ | with_reducible refine W_region_draw (id := 37) 9 (.op 0 true (.op 1 true (.op 2 true (.op 3 true (.op 4 true (.op 5 true (.op 6 true (.op 7 true (.op 8 true (.op 9 true (.op 10 true (.op 11 true (.op 12 true (.op 13 true (.op 14 true (.op 15 true (.op 16 true (.op 17 true (.op 18 true (.op 19 true (.op 20 false (.op 21 true (.op 22 true (.op 23 true (.op 24 true (.op 25 true (.op 26 true (.op 27 false (.op 28 true (.op 29 true (.op 30 true (.op 31 false (.op 32 true (.op 33 true (.done))))))))))))))))))))))))))))))))))) (by kernel_rfl) ?_)
    | ((first | (with_reducible apply WL_op; intro nx hnx) | with_reducible refine Ev_out ?_ | (with_reducible apply popsD_op; intro nx hnx) | (with_reducible refine popsD_alt ?_ ?_; intro nx hnx) | (with_reducible refine pfresh_k hnm fun nm hnm => ?_; (try simp only [fmb] at hnm)) | (with_reducible refine pborn_mu hnm fun nm hnm => ?_; (try simp only [fmb] at hnm)) | (with_reducible refine pmaybe_k ?_; intro bn hbn)); try (simp (maxSteps := 2000000) (disch := omega) only [evb, evd, pbuiltin, constPV, pnck, seqK, blockK, scopeK, pbin, pun, ppick, plen, piaddr, pindex, pfield, pslice, pbound, pconv, pelems, pextract, pmm, PV.mem?, PV.one, PV.cells, pageq, peqs, peq1, pmakes, pstore, pbytes, pmark, psrc, pkey, pnile, pcap, pgrow, List.set, Value.cells, ↓popG_eq, ↓pop.eq_1, ↓List.getElem?_map, ↓List.getElem?_cons_zero, ↓List.getElem?_cons_succ, Value.oneCell', Nat.reduceAdd, Nat.reduceMul, Nat.reduceSub, Nat.reduceLeDiff, Nat.reduceEqDiff, ↓reduceIte, ne_eq, reduceCtorEq, forall_const, exists_and_left, exists_eq_left', eq_self, Nat.reduceLT, Int.reduceLT, Int.reduceLE, Int.reduceToNat, Int.reduceAdd, Int.reduceSub, Int.reduceNeg, hnm, Try.tf0, Try.tf1, Try.tf2, Try.tf3, Try.tf4, Try.tf5, Try.tf22, Try.tf23, Try.tf24, Try.tf28, Try.tf33, Try.tf34, Try.tf35, Try.tf44, Try.tf65, Try.teq79, Try.call9, Try.call10, Try.call11, Try.call13, Try.call19, Try.call21, Try.call23]); repeat (refine And.intro (by omega) ?_))
    | ((with_reducible first | apply WL_nil | apply W_label | apply W_skip | apply W_exit | apply W_ret | apply popsD_done); try simp only [seqK, blockK, scopeK, ↓reduceIte, Nat.reduceEqDiff])
    | with_reducible exact popsD_stop
    | (with_reducible apply pguard_intro <;> (intro hc; (try simp only [hcb, reduceCtorEq, forall_const, ne_eq] at hc); first | (exfalso; omega) | (exfalso; exact hc trivial) | refine Ev_in ?_))
    | (with_reducible apply W_cond_k; intro _ _ ea eb; (simp only [condK, cob, opnd, constPV, Nat.reduceEqDiff, Nat.reduceLT, ↓reduceIte, hcb, reduceCtorEq, forall_const, ne_eq]); subst ea eb; first | (refine ⟨fun hc => ?_, fun hc => ?_⟩ <;> first | (exfalso; omega) | (exfalso; exact hc trivial) | skip) | skip)
    | (with_reducible apply hnx; clear hnx nx)
    | (with_reducible refine And.intro (by omega) ?_)
    | (with_reducible refine And.intro ?_ ?_)
    | (clear hnx nx; with_reducible apply hnx; clear hnx nx)
    | (clear hnx nx; clear hnx nx; with_reducible apply hnx; clear hnx nx)
    | (clear hnx nx; clear hnx nx; clear hnx nx; with_reducible apply hnx; clear hnx nx))
  refine W_loop_at (fun z τ => ∃ (k : Nat) (Ha Hb : Heap), k ≤ 2 ∧ z = 2 - k ∧ IsEnd a (stI wa key (if 0 < k then m0 else 0)) Ha ∧ IsEnd b (stI wb key (if 1 < k then m1 else 0)) Hb ∧
      τ = ⟨fr 176 [(13, pn k), (11, .list 1 [.ptr a 0, .ptr b 0]), (12, .list 1 [pn m0, pn m1]), (4, pint .i64 lost)], Hb ++ Ha⟩) 2
    ⟨fr 176 [(13, pn 0), (11, .list 1 [.ptr a 0, .ptr b 0]), (12, .list 1 [pn m0, pn m1]), (4, pint .i64 lost)], Hb ++ Ha⟩ (by
    refine At_fr (by simp only [wkb, Nat.reduceEqDiff, Nat.reduceLT, ↓reduceIte, pn]) ?_
    exact Hs.refl _) ⟨0, Ha, Hb, by omega, by omega, hA, hB, rfl⟩ ?_
  clear hA hB
  rintro z τ ⟨k, Ha, Hb, hk, rfl, hA, hB, rfl⟩ lp hlp
  have hk3 : k = 0 ∨ k = 1 ∨ k = 2 := by omega
  rcases hk3 with rfl | rfl | rfl
  · simp only [Nat.lt_irrefl, if_false, Nat.not_lt_zero] at hA hB
    repeat' (first
    | (with_reducible apply W_seq_k; intro nx hnx)
    | (with_reducible first | apply W_block | apply W_scope)
    | (with_reducible refine W_prune 16776223 ?_; simp only [prb, Nat.reducePow, Nat.reduceDiv, Nat.reduceMod, Nat.reduceBEq]; first | (with_reducible apply W_region_l) | with_reducible refine W_region_draw (id := 19) 1 (.op 0 true (.op 1 true (.op 2 true (.op 3 true (.op 4 true (.op 5 true (.op 6 true (.op 7 true (.op 8 true (.done)))))))))) (by kernel_rfl) ?_ | with_reducible refine W_region_draw (id := 28) 3 (.op 0 true (.op 1 true (.op 2 true (.op 3 true (.op 4 true (.op 5 true (.op 6 true (.op 7 true (.op 8 true (.op 9 false (.op 10 true (.op 11 true (.op 12 true (.op 13 true (.op 14 true (.done)))))))))))))))) (by kernel_rfl) ?_ | with_reducible refine W_region_draw (id := 34) 1 (.op 0 true (.op 1 true (.op 2 true (.op 3 true (.op 4 true (.op 5 true (.op 6 true (.op 7 true (.op 8 true (.op 9 true (.op 10 true (.op 11 true (.op 12 true (.op 13 true (.op 14 true (.op 15 true (.op 16 true (.op 17 true (.op 18 true (.op 19 true (.op 20 true (.done)))))))))))))))))))))) (by kernel_rfl) ?_ | with_reducible refine W_region_draw (id := 37) 9 (.op 0 true (.op 1 true (.op 2 true (.op 3 true (.op 4 true (.op 5 true (.op 6 true (.op 7 true (.op 8 true (.op 9 true (.op 10 true (.op 11 true (.op 12 true (.op 13 true (.op 14 true (.op 15 true (.op 16 true (.op 17 true (.op 18 true (.op 19 true (.op 20 false (.op 21 true (.op 22 true (.op 23 true (.op 24 true (.op 25 true (.op 26 true (.op 27 false (.op 28 true (.op 29 true (.op 30 true (.op 31 false (.op 32 true (.op 33 true (.done))))))))))))))))))))))))))))))))))) (by kernel_rfl) ?_)
    | ((first | (with_reducible apply WL_op; intro nx hnx) | with_reducible refine Ev_out ?_ | (with_reducible apply popsD_op; intro nx hnx) | (with_reducible refine popsD_alt ?_ ?_; intro nx hnx) | (with_reducible refine pfresh_k hnm fun nm hnm => ?_; (try simp only [fmb] at hnm)) | (with_reducible refine pborn_mu hnm fun nm hnm => ?_; (try simp only [fmb] at hnm)) | (with_reducible refine pmaybe_k ?_; intro bn hbn)); try (simp (maxSteps := 2000000) (disch := omega) only [evb, evd, pbuiltin, constPV, pnck, seqK, blockK, scopeK, pbin, pun, ppick, plen, piaddr, pindex, pfield, pslice, pbound, pconv, pelems, pextract, pmm, PV.mem?, PV.one, PV.cells, pageq, peqs, peq1, pmakes, pstore, pbytes, pmark, psrc, pkey, pnile, pcap, pgrow, List.set, Value.cells, ↓popG_eq, ↓pop.eq_1, ↓List.getElem?_map, ↓List.getElem?_cons_zero, ↓List.getElem?_cons_succ, Value.oneCell', Nat.reduceAdd, Nat.reduceMul, Nat.reduceSub, Nat.reduceLeDiff, Nat.reduceEqDiff, ↓reduceIte, ne_eq, reduceCtorEq, forall_const, exists_and_left, exists_eq_left', eq_self, Nat.reduceLT, Int.reduceLT, Int.reduceLE, Int.reduceToNat, Int.reduceAdd, Int.reduceSub, Int.reduceNeg, hnm, Try.tf0, Try.tf1, Try.tf2, Try.tf3, Try.tf4, Try.tf5, Try.tf22, Try.tf23, Try.tf24, Try.tf28, Try.tf33, Try.tf34, Try.tf35, Try.tf44, Try.tf65, Try.teq79, Try.call9, Try.call10, Try.call11, Try.call13, Try.call19, Try.call21, Try.call23]); repeat (refine And.intro (by omega) ?_))
    | ((with_reducible first | apply WL_nil | apply W_label | apply W_skip | apply W_exit | apply W_ret | apply popsD_done); try simp only [seqK, blockK, scopeK, ↓reduceIte, Nat.reduceEqDiff])
    | with_reducible exact popsD_stop
    | (with_reducible apply pguard_intro <;> (intro hc; (try simp only [hcb, reduceCtorEq, forall_const, ne_eq] at hc); first | (exfalso; omega) | (exfalso; exact hc trivial) | refine Ev_in ?_))
    | (with_reducible apply W_cond_k; intro _ _ ea eb; (simp only [condK, cob, opnd, constPV, Nat.reduceEqDiff, Nat.reduceLT, ↓reduceIte, hcb, reduceCtorEq, forall_const, ne_eq]); subst ea eb; first | (refine ⟨fun hc => ?_, fun hc => ?_⟩ <;> first | (exfalso; omega) | (exfalso; exact hc trivial) | skip) | skip)
    | (with_reducible apply hnx; clear hnx nx)
    | (with_reducible refine And.intro (by omega) ?_)
    | (with_reducible refine And.intro ?_ ?_)
    | (clear hnx nx; with_reducible apply hnx; clear hnx nx)
    | (clear hnx nx; clear hnx nx; with_reducible apply hnx; clear hnx nx)
    | (clear hnx nx; clear hnx nx; clear hnx nx; with_reducible apply hnx; clear hnx nx))
    all_goals first
      | exact absurd trivial hc
      | (exfalso
         omega)
      | skip
    refine W_loop_at (fun z τ => ∃ (j : Nat) (Ha : Heap), j ≤ m0 ∧ z = m0 - j ∧ IsEnd a (stI wa key j) Ha ∧
        τ = ⟨fr 176 [(14, pn j), (13, pn 0), (11, .list 1 [.ptr a 0, .ptr b 0]), (12, .list 1 [pn m0, pn m1]), (4, pint .i64 lost)], Hb ++ Ha⟩) m0
      ⟨fr 176 [(14, pn 0), (13, pn 0), (11, .list 1 [.ptr a 0, .ptr b 0]), (12, .list 1 [pn m0, pn m1]), (4, pint .i64 lost)], Hb ++ Ha⟩ (by
      refine At_fr (by simp only [wkb, Nat.reduceEqDiff, Nat.reduceLT, ↓reduceIte, pn]) ?_
      exact Hs.refl _) ⟨0, Ha, by omega, by omega, hA, rfl⟩ ?_
    clear hA
    rintro z τ ⟨j, Ha, hj, rfl, hA, rfl⟩ lp2 hlp2
    by_cases hjm : j < m0
    · have hu := u8_small j (by omega)
      have c1 := send_c G a (stI wa key j) [UInt8.ofNat j] (by simp) (by simp [msgN_len]; omega) Ha hA
      rw [stI_send wa key j (by omega)] at c1
      have c1 : PCalls Try.prog G 11 [.ptr a 0, .list 1 [.val (.int .u8 (UInt8.ofNat j).toNat)]] Ha _ := c1
      repeat' (first
    | (with_reducible apply W_seq_k; intro nx hnx)
    | (with_reducible first | apply W_block | apply W_scope)
    | (with_reducible refine W_prune 16776223 ?_; simp only [prb, Nat.reducePow, Nat.reduceDiv, Nat.reduceMod, Nat.reduceBEq]; first | (with_reducible apply W_region_l) | with_reducible refine W_region_draw (id := 19) 1 (.op 0 true (.op 1 true (.op 2 true (.op 3 true (.op 4 true (.op 5 true (.op 6 true (.op 7 true (.op 8 true (.done)))))))))) (by kernel_rfl) ?_ | with_reducible refine W_region_draw (id := 28) 3 (.op 0 true (.op 1 true (.op 2 true (.op 3 true (.op 4 true (.op 5 true (.op 6 true (.op 7 true (.op 8 true (.op 9 false (.op 10 true (.op 11 true (.op 12 true (.op 13 true (.op 14 true (.done)))))))))))))))) (by kernel_rfl) ?_ | with_reducible refine W_region_draw (id := 34) 1 (.op 0 true (.op 1 true (.op 2 true (.op 3 true (.op 4 true (.op 5 true (.op 6 true (.op 7 true (.op 8 true (.op 9 true (.op 10 true (.op 11 true (.op 12 true (.op 13 true (.op 14 true (.op 15 true (.op 16 true (.op 17 true (.op 18 true (.op 19 true (.op 20 true (.done)))))))))))))))))))))) (by kernel_rfl) ?_ | with_reducible refine W_region_draw (id := 37) 9 (.op 0 true (.op 1 true (.op 2 true (.op 3 true (.op 4 true (.op 5 true (.op 6 true (.op 7 true (.op 8 true (.op 9 true (.op 10 true (.op 11 true (.op 12 true (.op 13 true (.op 14 true (.op 15 true (.op 16 true (.op 17 true (.op 18 true (.op 19 true (.op 20 false (.op 21 true (.op 22 true (.op 23 true (.op 24 true (.op 25 true (.op 26 true (.op 27 false (.op 28 true (.op 29 true (.op 30 true (.op 31 false (.op 32 true (.op 33 true (.done))))))))))))))))))))))))))))))))))) (by kernel_rfl) ?_)
    | (with_reducible refine WL_born (by simp) rfl (by simp) ?_; simp only [elemsOf, nl, List.map_cons, List.map_nil, Nat.reduceEqDiff, ↓reduceIte, List.take_succ_cons, List.take_zero, List.range_succ, List.range_zero, List.nil_append, List.cons_append, List.map_append, List.drop_succ_cons, List.drop_zero, Nat.reduceMul, Nat.zero_mul, Nat.one_mul, Nat.reduceAdd])
    | ((first | (with_reducible apply WL_op; intro nx hnx) | with_reducible refine Ev_out ?_ | (with_reducible apply popsD_op; intro nx hnx) | (with_reducible refine popsD_alt ?_ ?_; intro nx hnx) | (with_reducible refine pfresh_k hnm fun nm hnm => ?_; (try simp only [fmb] at hnm)) | (with_reducible refine pborn_im ?_; simp only [elemsOf, nl, List.map_cons, List.map_nil, Nat.reduceEqDiff, ↓reduceIte, List.take_succ_cons, List.take_zero, List.range_succ, List.range_zero, List.nil_append, List.cons_append, List.map_append, List.drop_succ_cons, List.drop_zero, Nat.reduceMul, Nat.zero_mul, Nat.one_mul, Nat.reduceAdd]) | (with_reducible refine pmaybe_k ?_; intro bn hbn)); try (simp (maxSteps := 2000000) (disch := omega) only [evb, evd, pbuiltin, constPV, pnck, seqK, blockK, scopeK, pbin, pun, ppick, plen, piaddr, pindex, pfield, pslice, pbound, pconv, pelems, pextract, pmm, PV.mem?, PV.one, PV.cells, pageq, peqs, peq1, pmakes, pstore, pbytes, pmark, psrc, pkey, pnile, pcap, pgrow, List.set, Value.cells, ↓popG_eq, ↓pop.eq_1, ↓List.getElem?_map, ↓List.getElem?_cons_zero, ↓List.getElem?_cons_succ, Value.oneCell', Nat.reduceAdd, Nat.reduceMul, Nat.reduceSub, Nat.reduceLeDiff, Nat.reduceEqDiff, ↓reduceIte, ne_eq, reduceCtorEq, forall_const, exists_and_left, exists_eq_left', eq_self, Nat.reduceLT, Int.reduceLT, Int.reduceLE, Int.reduceToNat, Int.reduceAdd, Int.reduceSub, Int.reduceNeg, hnm, Try.tf0, Try.tf1, Try.tf2, Try.tf3, Try.tf4, Try.tf5, Try.tf22, Try.tf23, Try.tf24, Try.tf28, Try.tf33, Try.tf34, Try.tf35, Try.tf44, Try.tf65, Try.teq79, Try.call9, Try.call10, Try.call11, Try.call13, Try.call19, Try.call21, Try.call23, hu]); repeat (refine And.intro (by omega) ?_))
    | ((with_reducible first | apply WL_nil | apply W_label | apply W_skip | apply W_exit | apply W_ret | apply popsD_done); try simp only [seqK, blockK, scopeK, ↓reduceIte, Nat.reduceEqDiff])
    | with_reducible exact popsD_stop
    | (with_reducible apply pguard_intro <;> (intro hc; (try simp only [hcb, reduceCtorEq, forall_const, ne_eq] at hc); first | (exfalso; omega) | (exfalso; exact hc trivial) | refine Ev_in ?_))
    | (with_reducible apply W_cond_k; intro _ _ ea eb; (simp only [condK, cob, opnd, constPV, Nat.reduceEqDiff, Nat.reduceLT, ↓reduceIte, hcb, reduceCtorEq, forall_const, ne_eq]); subst ea eb; first | (refine ⟨fun hc => ?_, fun hc => ?_⟩ <;> first | (exfalso; omega) | (exfalso; exact hc trivial) | skip) | skip)
    | (with_reducible apply hnx; clear hnx nx)
    | (with_reducible refine And.intro (by omega) ?_)
    | (with_reducible refine And.intro ?_ ?_)
    | (((with_reducible refine pcall_a c1 ?_); rintro _ Ha' ⟨rfl, hA'⟩; refine Ev_in ?_))
    | (clear hnx nx; with_reducible apply hnx; clear hnx nx)
    | (clear hnx nx; clear hnx nx; with_reducible apply hnx; clear hnx nx)
    | (clear hnx nx; clear hnx nx; clear hnx nx; with_reducible apply hnx; clear hnx nx))
      all_goals first
        | exact absurd trivial hc
        | (exfalso
           omega)
        | skip
      refine hlp2 _ (m0 - (j + 1)) _ (by omega) ?_ ⟨j + 1, Ha', by omega, rfl, hA', rfl⟩
      refine At_fr (by simp only [wkb, Nat.reduceEqDiff, Nat.reduceLT, ↓reduceIte, pn]) ?_
      exact Hs.refl _
    · have hj2 : j = m0 := by omega
      subst hj2
      repeat' (first
    | (with_reducible apply W_seq_k; intro nx hnx)
    | (with_reducible first | apply W_block | apply W_scope)
    | (with_reducible refine W_prune 16776223 ?_; simp only [prb, Nat.reducePow, Nat.reduceDiv, Nat.reduceMod, Nat.reduceBEq]; first | (with_reducible apply W_region_l) | with_reducible refine W_region_draw (id := 19) 1 (.op 0 true (.op 1 true (.op 2 true (.op 3 true (.op 4 true (.op 5 true (.op 6 true (.op 7 true (.op 8 true (.done)))))))))) (by kernel_rfl) ?_ | with_reducible refine W_region_draw (id := 28) 3 (.op 0 true (.op 1 true (.op 2 true (.op 3 true (.op 4 true (.op 5 true (.op 6 true (.op 7 true (.op 8 true (.op 9 false (.op 10 true (.op 11 true (.op 12 true (.op 13 true (.op 14 true (.done)))))))))))))))) (by kernel_rfl) ?_ | with_reducible refine W_region_draw (id := 34) 1 (.op 0 true (.op 1 true (.op 2 true (.op 3 true (.op 4 true (.op 5 true (.op 6 true (.op 7 true (.op 8 true (.op 9 true (.op 10 true (.op 11 true (.op 12 true (.op 13 true (.op 14 true (.op 15 true (.op 16 true (.op 17 true (.op 18 true (.op 19 true (.op 20 true (.done)))))))))))))))))))))) (by kernel_rfl) ?_ | with_reducible refine W_region_draw (id := 37) 9 (.op 0 true (.op 1 true (.op 2 true (.op 3 true (.op 4 true (.op 5 true (.op 6 true (.op 7 true (.op 8 true (.op 9 true (.op 10 true (.op 11 true (.op 12 true (.op 13 true (.op 14 true (.op 15 true (.op 16 true (.op 17 true (.op 18 true (.op 19 true (.op 20 false (.op 21 true (.op 22 true (.op 23 true (.op 24 true (.op 25 true (.op 26 true (.op 27 false (.op 28 true (.op 29 true (.op 30 true (.op 31 false (.op 32 true (.op 33 true (.done))))))))))))))))))))))))))))))))))) (by kernel_rfl) ?_)
    | ((first | (with_reducible apply WL_op; intro nx hnx) | with_reducible refine Ev_out ?_ | (with_reducible apply popsD_op; intro nx hnx) | (with_reducible refine popsD_alt ?_ ?_; intro nx hnx) | (with_reducible refine pfresh_k hnm fun nm hnm => ?_; (try simp only [fmb] at hnm)) | (with_reducible refine pborn_mu hnm fun nm hnm => ?_; (try simp only [fmb] at hnm)) | (with_reducible refine pmaybe_k ?_; intro bn hbn)); try (simp (maxSteps := 2000000) (disch := omega) only [evb, evd, pbuiltin, constPV, pnck, seqK, blockK, scopeK, pbin, pun, ppick, plen, piaddr, pindex, pfield, pslice, pbound, pconv, pelems, pextract, pmm, PV.mem?, PV.one, PV.cells, pageq, peqs, peq1, pmakes, pstore, pbytes, pmark, psrc, pkey, pnile, pcap, pgrow, List.set, Value.cells, ↓popG_eq, ↓pop.eq_1, ↓List.getElem?_map, ↓List.getElem?_cons_zero, ↓List.getElem?_cons_succ, Value.oneCell', Nat.reduceAdd, Nat.reduceMul, Nat.reduceSub, Nat.reduceLeDiff, Nat.reduceEqDiff, ↓reduceIte, ne_eq, reduceCtorEq, forall_const, exists_and_left, exists_eq_left', eq_self, Nat.reduceLT, Int.reduceLT, Int.reduceLE, Int.reduceToNat, Int.reduceAdd, Int.reduceSub, Int.reduceNeg, hnm, Try.tf0, Try.tf1, Try.tf2, Try.tf3, Try.tf4, Try.tf5, Try.tf22, Try.tf23, Try.tf24, Try.tf28, Try.tf33, Try.tf34, Try.tf35, Try.tf44, Try.tf65, Try.teq79, Try.call9, Try.call10, Try.call11, Try.call13, Try.call19, Try.call21, Try.call23]); repeat (refine And.intro (by omega) ?_))
    | ((with_reducible first | apply WL_nil | apply W_label | apply W_skip | apply W_exit | apply W_ret | apply popsD_done); try simp only [seqK, blockK, scopeK, ↓reduceIte, Nat.reduceEqDiff])
    | with_reducible exact popsD_stop
    | (with_reducible apply pguard_intro <;> (intro hc; (try simp only [hcb, reduceCtorEq, forall_const, ne_eq] at hc); first | (exfalso; omega) | (exfalso; exact hc trivial) | refine Ev_in ?_))
    | (with_reducible apply W_cond_k; intro _ _ ea eb; (simp only [condK, cob, opnd, constPV, Nat.reduceEqDiff, Nat.reduceLT, ↓reduceIte, hcb, reduceCtorEq, forall_const, ne_eq]); subst ea eb; first | (refine ⟨fun hc => ?_, fun hc => ?_⟩ <;> first | (exfalso; omega) | (exfalso; exact hc trivial) | skip) | skip)
    | (with_reducible apply hnx; clear hnx nx)
    | (with_reducible refine And.intro (by omega) ?_)
    | (with_reducible refine And.intro ?_ ?_)
    | (clear hnx nx; with_reducible apply hnx; clear hnx nx)
    | (clear hnx nx; clear hnx nx; with_reducible apply hnx; clear hnx nx)
    | (clear hnx nx; clear hnx nx; clear hnx nx; with_reducible apply hnx; clear hnx nx))
      all_goals first
        | exact absurd trivial hc
        | (exfalso
           omega)
        | skip
      refine hlp _ 1 _ (by omega) ?_ ⟨1, Ha, Hb, by omega, by omega, by simpa using hA, by simpa using hB, rfl⟩
      refine At_fr (by simp only [wkb, Nat.reduceEqDiff, Nat.reduceLT, ↓reduceIte, pn]) ?_
      exact Hs.refl _
  · simp only [Nat.lt_irrefl, if_false, Nat.zero_lt_one, if_true] at hA hB
    repeat' (first
    | (with_reducible apply W_seq_k; intro nx hnx)
    | (with_reducible first | apply W_block | apply W_scope)
    | (with_reducible refine W_prune 16776223 ?_; simp only [prb, Nat.reducePow, Nat.reduceDiv, Nat.reduceMod, Nat.reduceBEq]; first | (with_reducible apply W_region_l) | with_reducible refine W_region_draw (id := 19) 1 (.op 0 true (.op 1 true (.op 2 true (.op 3 true (.op 4 true (.op 5 true (.op 6 true (.op 7 true (.op 8 true (.done)))))))))) (by kernel_rfl) ?_ | with_reducible refine W_region_draw (id := 28) 3 (.op 0 true (.op 1 true (.op 2 true (.op 3 true (.op 4 true (.op 5 true (.op 6 true (.op 7 true (.op 8 true (.op 9 false (.op 10 true (.op 11 true (.op 12 true (.op 13 true (.op 14 true (.done)))))))))))))))) (by kernel_rfl) ?_ | with_reducible refine W_region_draw (id := 34) 1 (.op 0 true (.op 1 true (.op 2 true (.op 3 true (.op 4 true (.op 5 true (.op 6 true (.op 7 true (.op 8 true (.op 9 true (.op 10 true (.op 11 true (.op 12 true (.op 13 true (.op 14 true (.op 15 true (.op 16 true (.op 17 true (.op 18 true (.op 19 true (.op 20 true (.done)))))))))))))))))))))) (by kernel_rfl) ?_ | with_reducible refine W_region_draw (id := 37) 9 (.op 0 true (.op 1 true (.op 2 true (.op 3 true (.op 4 true (.op 5 true (.op 6 true (.op 7 true (.op 8 true (.op 9 true (.op 10 true (.op 11 true (.op 12 true (.op 13 true (.op 14 true (.op 15 true (.op 16 true (.op 17 true (.op 18 true (.op 19 true (.op 20 false (.op 21 true (.op 22 true (.op 23 true (.op 24 true (.op 25 true (.op 26 true (.op 27 false (.op 28 true (.op 29 true (.op 30 true (.op 31 false (.op 32 true (.op 33 true (.done))))))))))))))))))))))))))))))))))) (by kernel_rfl) ?_)
    | ((first | (with_reducible apply WL_op; intro nx hnx) | with_reducible refine Ev_out ?_ | (with_reducible apply popsD_op; intro nx hnx) | (with_reducible refine popsD_alt ?_ ?_; intro nx hnx) | (with_reducible refine pfresh_k hnm fun nm hnm => ?_; (try simp only [fmb] at hnm)) | (with_reducible refine pborn_mu hnm fun nm hnm => ?_; (try simp only [fmb] at hnm)) | (with_reducible refine pmaybe_k ?_; intro bn hbn)); try (simp (maxSteps := 2000000) (disch := omega) only [evb, evd, pbuiltin, constPV, pnck, seqK, blockK, scopeK, pbin, pun, ppick, plen, piaddr, pindex, pfield, pslice, pbound, pconv, pelems, pextract, pmm, PV.mem?, PV.one, PV.cells, pageq, peqs, peq1, pmakes, pstore, pbytes, pmark, psrc, pkey, pnile, pcap, pgrow, List.set, Value.cells, ↓popG_eq, ↓pop.eq_1, ↓List.getElem?_map, ↓List.getElem?_cons_zero, ↓List.getElem?_cons_succ, Value.oneCell', Nat.reduceAdd, Nat.reduceMul, Nat.reduceSub, Nat.reduceLeDiff, Nat.reduceEqDiff, ↓reduceIte, ne_eq, reduceCtorEq, forall_const, exists_and_left, exists_eq_left', eq_self, Nat.reduceLT, Int.reduceLT, Int.reduceLE, Int.reduceToNat, Int.reduceAdd, Int.reduceSub, Int.reduceNeg, hnm, Try.tf0, Try.tf1, Try.tf2, Try.tf3, Try.tf4, Try.tf5, Try.tf22, Try.tf23, Try.tf24, Try.tf28, Try.tf33, Try.tf34, Try.tf35, Try.tf44, Try.tf65, Try.teq79, Try.call9, Try.call10, Try.call11, Try.call13, Try.call19, Try.call21, Try.call23]); repeat (refine And.intro (by omega) ?_))
    | ((with_reducible first | apply WL_nil | apply W_label | apply W_skip | apply W_exit | apply W_ret | apply popsD_done); try simp only [seqK, blockK, scopeK, ↓reduceIte, Nat.reduceEqDiff])
    | with_reducible exact popsD_stop
    | (with_reducible apply pguard_intro <;> (intro hc; (try simp only [hcb, reduceCtorEq, forall_const, ne_eq] at hc); first | (exfalso; omega) | (exfalso; exact hc trivial) | refine Ev_in ?_))
    | (with_reducible apply W_cond_k; intro _ _ ea eb; (simp only [condK, cob, opnd, constPV, Nat.reduceEqDiff, Nat.reduceLT, ↓reduceIte, hcb, reduceCtorEq, forall_const, ne_eq]); subst ea eb; first | (refine ⟨fun hc => ?_, fun hc => ?_⟩ <;> first | (exfalso; omega) | (exfalso; exact hc trivial) | skip) | skip)
    | (with_reducible apply hnx; clear hnx nx)
    | (with_reducible refine And.intro (by omega) ?_)
    | (with_reducible refine And.intro ?_ ?_)
    | (clear hnx nx; with_reducible apply hnx; clear hnx nx)
    | (clear hnx nx; clear hnx nx; with_reducible apply hnx; clear hnx nx)
    | (clear hnx nx; clear hnx nx; clear hnx nx; with_reducible apply hnx; clear hnx nx))
    all_goals first
      | exact absurd trivial hc
      | (exfalso
         omega)
      | skip
    refine W_loop_at (fun z τ => ∃ (j : Nat) (Hb : Heap), j ≤ m1 ∧ z = m1 - j ∧ IsEnd b (stI wb key j) Hb ∧
        τ = ⟨fr 176 [(14, pn j), (13, pn 1), (11, .list 1 [.ptr a 0, .ptr b 0]), (12, .list 1 [pn m0, pn m1]), (4, pint .i64 lost)], Hb ++ Ha⟩) m1
      ⟨fr 176 [(14, pn 0), (13, pn 1), (11, .list 1 [.ptr a 0, .ptr b 0]), (12, .list 1 [pn m0, pn m1]), (4, pint .i64 lost)], Hb ++ Ha⟩ (by
      refine At_fr (by simp only [wkb, Nat.reduceEqDiff, Nat.reduceLT, ↓reduceIte, pn]) ?_
      exact Hs.refl _) ⟨0, Hb, by omega, by omega, hB, rfl⟩ ?_
    clear hB
    rintro z τ ⟨j, Hb, hj, rfl, hB, rfl⟩ lp2 hlp2
    by_cases hjm : j < m1
    · have hu := u8_small j (by omega)
      have c1 := send_c G b (stI wb key j) [UInt8.ofNat j] (by simp) (by simp [msgN_len]; omega) Hb hB
      rw [stI_send wb key j (by omega)] at c1
      have c1 : PCalls Try.prog G 11 [.ptr b 0, .list 1 [.val (.int .u8 (UInt8.ofNat j).toNat)]] Hb _ := c1
      repeat' (first
    | (with_reducible apply W_seq_k; intro nx hnx)
    | (with_reducible first | apply W_block | apply W_scope)
    | (with_reducible refine W_prune 16776223 ?_; simp only [prb, Nat.reducePow, Nat.reduceDiv, Nat.reduceMod, Nat.reduceBEq]; first | (with_reducible apply W_region_l) | with_reducible refine W_region_draw (id := 19) 1 (.op 0 true (.op 1 true (.op 2 true (.op 3 true (.op 4 true (.op 5 true (.op 6 true (.op 7 true (.op 8 true (.done)))))))))) (by kernel_rfl) ?_ | with_reducible refine W_region_draw (id := 28) 3 (.op 0 true (.op 1 true (.op 2 true (.op 3 true (.op 4 true (.op 5 true (.op 6 true (.op 7 true (.op 8 true (.op 9 false (.op 10 true (.op 11 true (.op 12 true (.op 13 true (.op 14 true (.done)))))))))))))))) (by kernel_rfl) ?_ | with_reducible refine W_region_draw (id := 34) 1 (.op 0 true (.op 1 true (.op 2 true (.op 3 true (.op 4 true (.op 5 true (.op 6 true (.op 7 true (.op 8 true (.op 9 true (.op 10 true (.op 11 true (.op 12 true (.op 13 true (.op 14 true (.op 15 true (.op 16 true (.op 17 true (.op 18 true (.op 19 true (.op 20 true (.done)))))))))))))))))))))) (by kernel_rfl) ?_ | with_reducible refine W_region_draw (id := 37) 9 (.op 0 true (.op 1 true (.op 2 true (.op 3 true (.op 4 true (.op 5 true (.op 6 true (.op 7 true (.op 8 true (.op 9 true (.op 10 true (.op 11 true (.op 12 true (.op 13 true (.op 14 true (.op 15 true (.op 16 true (.op 17 true (.op 18 true (.op 19 true (.op 20 false (.op 21 true (.op 22 true (.op 23 true (.op 24 true (.op 25 true (.op 26 true (.op 27 false (.op 28 true (.op 29 true (.op 30 true (.op 31 false (.op 32 true (.op 33 true (.done))))))))))))))))))))))))))))))))))) (by kernel_rfl) ?_)
    | (with_reducible refine WL_born (by simp) rfl (by simp) ?_; simp only [elemsOf, nl, List.map_cons, List.map_nil, Nat.reduceEqDiff, ↓reduceIte, List.take_succ_cons, List.take_zero, List.range_succ, List.range_zero, List.nil_append, List.cons_append, List.map_append, List.drop_succ_cons, List.drop_zero, Nat.reduceMul, Nat.zero_mul, Nat.one_mul, Nat.reduceAdd])
    | ((first | (with_reducible apply WL_op; intro nx hnx) | with_reducible refine Ev_out ?_ | (with_reducible apply popsD_op; intro nx hnx) | (with_reducible refine popsD_alt ?_ ?_; intro nx hnx) | (with_reducible refine pfresh_k hnm fun nm hnm => ?_; (try simp only [fmb] at hnm)) | (with_reducible refine pborn_im ?_; simp only [elemsOf, nl, List.map_cons, List.map_nil, Nat.reduceEqDiff, ↓reduceIte, List.take_succ_cons, List.take_zero, List.range_succ, List.range_zero, List.nil_append, List.cons_append, List.map_append, List.drop_succ_cons, List.drop_zero, Nat.reduceMul, Nat.zero_mul, Nat.one_mul, Nat.reduceAdd]) | (with_reducible refine pmaybe_k ?_; intro bn hbn)); try (simp (maxSteps := 2000000) (disch := omega) only [evb, evd, pbuiltin, constPV, pnck, seqK, blockK, scopeK, pbin, pun, ppick, plen, piaddr, pindex, pfield, pslice, pbound, pconv, pelems, pextract, pmm, PV.mem?, PV.one, PV.cells, pageq, peqs, peq1, pmakes, pstore, pbytes, pmark, psrc, pkey, pnile, pcap, pgrow, List.set, Value.cells, ↓popG_eq, ↓pop.eq_1, ↓List.getElem?_map, ↓List.getElem?_cons_zero, ↓List.getElem?_cons_succ, Value.oneCell', Nat.reduceAdd, Nat.reduceMul, Nat.reduceSub, Nat.reduceLeDiff, Nat.reduceEqDiff, ↓reduceIte, ne_eq, reduceCtorEq, forall_const, exists_and_left, exists_eq_left', eq_self, Nat.reduceLT, Int.reduceLT, Int.reduceLE, Int.reduceToNat, Int.reduceAdd, Int.reduceSub, Int.reduceNeg, hnm, Try.tf0, Try.tf1, Try.tf2, Try.tf3, Try.tf4, Try.tf5, Try.tf22, Try.tf23, Try.tf24, Try.tf28, Try.tf33, Try.tf34, Try.tf35, Try.tf44, Try.tf65, Try.teq79, Try.call9, Try.call10, Try.call11, Try.call13, Try.call19, Try.call21, Try.call23, hu]); repeat (refine And.intro (by omega) ?_))
    | ((with_reducible first | apply WL_nil | apply W_label | apply W_skip | apply W_exit | apply W_ret | apply popsD_done); try simp only [seqK, blockK, scopeK, ↓reduceIte, Nat.reduceEqDiff])
    | with_reducible exact popsD_stop
    | (with_reducible apply pguard_intro <;> (intro hc; (try simp only [hcb, reduceCtorEq, forall_const, ne_eq] at hc); first | (exfalso; omega) | (exfalso; exact hc trivial) | refine Ev_in ?_))
    | (with_reducible apply W_cond_k; intro _ _ ea eb; (simp only [condK, cob, opnd, constPV, Nat.reduceEqDiff, Nat.reduceLT, ↓reduceIte, hcb, reduceCtorEq, forall_const, ne_eq]); subst ea eb; first | (refine ⟨fun hc => ?_, fun hc => ?_⟩ <;> first | (exfalso; omega) | (exfalso; exact hc trivial) | skip) | skip)
    | (with_reducible apply hnx; clear hnx nx)
    | (with_reducible refine And.intro (by omega) ?_)
    | (with_reducible refine And.intro ?_ ?_)
    | (((with_reducible refine pcall_b c1 ?_); rintro _ Hb' ⟨rfl, hB'⟩; refine Ev_in ?_))
    | (clear hnx nx; with_reducible apply hnx; clear hnx nx)
    | (clear hnx nx; clear hnx nx; with_reducible apply hnx; clear hnx nx)
    | (clear hnx nx; clear hnx nx; clear hnx nx; with_reducible apply hnx; clear hnx nx))
      all_goals first
        | exact absurd trivial hc
        | (exfalso
           omega)
        | skip
      refine hlp2 _ (m1 - (j + 1)) _ (by omega) ?_ ⟨j + 1, Hb', by omega, rfl, hB', rfl⟩
      refine At_fr (by simp only [wkb, Nat.reduceEqDiff, Nat.reduceLT, ↓reduceIte, pn]) ?_
      exact Hs.refl _
    · have hj2 : j = m1 := by omega
      subst hj2
      repeat' (first
    | (with_reducible apply W_seq_k; intro nx hnx)
    | (with_reducible first | apply W_block | apply W_scope)
    | (with_reducible refine W_prune 16776223 ?_; simp only [prb, Nat.reducePow, Nat.reduceDiv, Nat.reduceMod, Nat.reduceBEq]; first | (with_reducible apply W_region_l) | with_reducible refine W_region_draw (id := 19) 1 (.op 0 true (.op 1 true (.op 2 true (.op 3 true (.op 4 true (.op 5 true (.op 6 true (.op 7 true (.op 8 true (.done)))))))))) (by kernel_rfl) ?_ | with_reducible refine W_region_draw (id := 28) 3 (.op 0 true (.op 1 true (.op 2 true (.op 3 true (.op 4 true (.op 5 true (.op 6 true (.op 7 true (.op 8 true (.op 9 false (.op 10 true (.op 11 true (.op 12 true (.op 13 true (.op 14 true (.done)))))))))))))))) (by kernel_rfl) ?_ | with_reducible refine W_region_draw (id := 34) 1 (.op 0 true (.op 1 true (.op 2 true (.op 3 true (.op 4 true (.op 5 true (.op 6 true (.op 7 true (.op 8 true (.op 9 true (.op 10 true (.op 11 true (.op 12 true (.op 13 true (.op 14 true (.op 15 true (.op 16 true (.op 17 true (.op 18 true (.op 19 true (.op 20 true (.done)))))))))))))))))))))) (by kernel_rfl) ?_ | with_reducible refine W_region_draw (id := 37) 9 (.op 0 true (.op 1 true (.op 2 true (.op 3 true (.op 4 true (.op 5 true (.op 6 true (.op 7 true (.op 8 true (.op 9 true (.op 10 true (.op 11 true (.op 12 true (.op 13 true (.op 14 true (.op 15 true (.op 16 true (.op 17 true (.op 18 true (.op 19 true (.op 20 false (.op 21 true (.op 22 true (.op 23 true (.op 24 true (.op 25 true (.op 26 true (.op 27 false (.op 28 true (.op 29 true (.op 30 true (.op 31 false (.op 32 true (.op 33 true (.done))))))))))))))))))))))))))))))))))) (by kernel_rfl) ?_)
    | ((first | (with_reducible apply WL_op; intro nx hnx) | with_reducible refine Ev_out ?_ | (with_reducible apply popsD_op; intro nx hnx) | (with_reducible refine popsD_alt ?_ ?_; intro nx hnx) | (with_reducible refine pfresh_k hnm fun nm hnm => ?_; (try simp only [fmb] at hnm)) | (with_reducible refine pborn_mu hnm fun nm hnm => ?_; (try simp only [fmb] at hnm)) | (with_reducible refine pmaybe_k ?_; intro bn hbn)); try (simp (maxSteps := 2000000) (disch := omega) only [evb, evd, pbuiltin, constPV, pnck, seqK, blockK, scopeK, pbin, pun, ppick, plen, piaddr, pindex, pfield, pslice, pbound, pconv, pelems, pextract, pmm, PV.mem?, PV.one, PV.cells, pageq, peqs, peq1, pmakes, pstore, pbytes, pmark, psrc, pkey, pnile, pcap, pgrow, List.set, Value.cells, ↓popG_eq, ↓pop.eq_1, ↓List.getElem?_map, ↓List.getElem?_cons_zero, ↓List.getElem?_cons_succ, Value.oneCell', Nat.reduceAdd, Nat.reduceMul, Nat.reduceSub, Nat.reduceLeDiff, Nat.reduceEqDiff, ↓reduceIte, ne_eq, reduceCtorEq, forall_const, exists_and_left, exists_eq_left', eq_self, Nat.reduceLT, Int.reduceLT, Int.reduceLE, Int.reduceToNat, Int.reduceAdd, Int.reduceSub, Int.reduceNeg, hnm, Try.tf0, Try.tf1, Try.tf2, Try.tf3, Try.tf4, Try.tf5, Try.tf22, Try.tf23, Try.tf24, Try.tf28, Try.tf33, Try.tf34, Try.tf35, Try.tf44, Try.tf65, Try.teq79, Try.call9, Try.call10, Try.call11, Try.call13, Try.call19, Try.call21, Try.call23]); repeat (refine And.intro (by omega) ?_))
    | ((with_reducible first | apply WL_nil | apply W_label | apply W_skip | apply W_exit | apply W_ret | apply popsD_done); try simp only [seqK, blockK, scopeK, ↓reduceIte, Nat.reduceEqDiff])
    | with_reducible exact popsD_stop
    | (with_reducible apply pguard_intro <;> (intro hc; (try simp only [hcb, reduceCtorEq, forall_const, ne_eq] at hc); first | (exfalso; omega) | (exfalso; exact hc trivial) | refine Ev_in ?_))
    | (with_reducible apply W_cond_k; intro _ _ ea eb; (simp only [condK, cob, opnd, constPV, Nat.reduceEqDiff, Nat.reduceLT, ↓reduceIte, hcb, reduceCtorEq, forall_const, ne_eq]); subst ea eb; first | (refine ⟨fun hc => ?_, fun hc => ?_⟩ <;> first | (exfalso; omega) | (exfalso; exact hc trivial) | skip) | skip)
    | (with_reducible apply hnx; clear hnx nx)
    | (with_reducible refine And.intro (by omega) ?_)
    | (with_reducible refine And.intro ?_ ?_)
    | (clear hnx nx; with_reducible apply hnx; clear hnx nx)
    | (clear hnx nx; clear hnx nx; with_reducible apply hnx; clear hnx nx)
    | (clear hnx nx; clear hnx nx; clear hnx nx; with_reducible apply hnx; clear hnx nx))
      all_goals first
        | exact absurd trivial hc
        | (exfalso
           omega)
        | skip
      refine hlp _ 0 _ (by omega) ?_ ⟨2, Ha, Hb, by omega, by omega, by simpa using hA, by simpa using hB, rfl⟩
      refine At_fr (by simp only [wkb, Nat.reduceEqDiff, Nat.reduceLT, ↓reduceIte, pn]) ?_
      exact Hs.refl _
  · have hA : IsEnd a (stI wa key m0) Ha := hA
    have hB : IsEnd b (stI wb key m1) Hb := hB
    repeat' (first
    | (with_reducible apply W_seq_k; intro nx hnx)
    | (with_reducible first | apply W_block | apply W_scope)
    | (with_reducible refine W_prune 16776223 ?_; simp only [prb, Nat.reducePow, Nat.reduceDiv, Nat.reduceMod, Nat.reduceBEq]; first | (with_reducible apply W_region_l) | with_reducible refine W_region_draw (id := 19) 1 (.op 0 true (.op 1 true (.op 2 true (.op 3 true (.op 4 true (.op 5 true (.op 6 true (.op 7 true (.op 8 true (.done)))))))))) (by kernel_rfl) ?_ | with_reducible refine W_region_draw (id := 28) 3 (.op 0 true (.op 1 true (.op 2 true (.op 3 true (.op 4 true (.op 5 true (.op 6 true (.op 7 true (.op 8 true (.op 9 false (.op 10 true (.op 11 true (.op 12 true (.op 13 true (.op 14 true (.done)))))))))))))))) (by kernel_rfl) ?_ | with_reducible refine W_region_draw (id := 34) 1 (.op 0 true (.op 1 true (.op 2 true (.op 3 true (.op 4 true (.op 5 true (.op 6 true (.op 7 true (.op 8 true (.op 9 true (.op 10 true (.op 11 true (.op 12 true (.op 13 true (.op 14 true (.op 15 true (.op 16 true (.op 17 true (.op 18 true (.op 19 true (.op 20 true (.done)))))))))))))))))))))) (by kernel_rfl) ?_ | with_reducible refine W_region_draw (id := 37) 9 (.op 0 true (.op 1 true (.op 2 true (.op 3 true (.op 4 true (.op 5 true (.op 6 true (.op 7 true (.op 8 true (.op 9 true (.op 10 true (.op 11 true (.op 12 true (.op 13 true (.op 14 true (.op 15 true (.op 16 true (.op 17 true (.op 18 true (.op 19 true (.op 20 false (.op 21 true (.op 22 true (.op 23 true (.op 24 true (.op 25 true (.op 26 true (.op 27 false (.op 28 true (.op 29 true (.op 30 true (.op 31 false (.op 32 true (.op 33 true (.done))))))))))))))))))))))))))))))))))) (by kernel_rfl) ?_)
    | ((first | (with_reducible apply WL_op; intro nx hnx) | with_reducible refine Ev_out ?_ | (with_reducible apply popsD_op; intro nx hnx) | (with_reducible refine popsD_alt ?_ ?_; intro nx hnx) | (with_reducible refine pfresh_k hnm fun nm hnm => ?_; (try simp only [fmb] at hnm)) | (with_reducible refine pborn_mu hnm fun nm hnm => ?_; (try simp only [fmb] at hnm)) | (with_reducible refine pmaybe_k ?_; intro bn hbn)); try (simp (maxSteps := 2000000) (disch := omega) only [evb, evd, pbuiltin, constPV, pnck, seqK, blockK, scopeK, pbin, pun, ppick, plen, piaddr, pindex, pfield, pslice, pbound, pconv, pelems, pextract, pmm, PV.mem?, PV.one, PV.cells, pageq, peqs, peq1, pmakes, pstore, pbytes, pmark, psrc, pkey, pnile, pcap, pgrow, List.set, Value.cells, ↓popG_eq, ↓pop.eq_1, ↓List.getElem?_map, ↓List.getElem?_cons_zero, ↓List.getElem?_cons_succ, Value.oneCell', Nat.reduceAdd, Nat.reduceMul, Nat.reduceSub, Nat.reduceLeDiff, Nat.reduceEqDiff, ↓reduceIte, ne_eq, reduceCtorEq, forall_const, exists_and_left, exists_eq_left', eq_self, Nat.reduceLT, Int.reduceLT, Int.reduceLE, Int.reduceToNat, Int.reduceAdd, Int.reduceSub, Int.reduceNeg, hnm, Try.tf0, Try.tf1, Try.tf2, Try.tf3, Try.tf4, Try.tf5, Try.tf22, Try.tf23, Try.tf24, Try.tf28, Try.tf33, Try.tf34, Try.tf35, Try.tf44, Try.tf65, Try.teq79, Try.call9, Try.call10, Try.call11, Try.call13, Try.call19, Try.call21, Try.call23]); repeat (refine And.intro (by omega) ?_))
    | ((with_reducible first | apply WL_nil | apply W_label | apply W_skip | apply W_exit | apply W_ret | apply popsD_done); try simp only [seqK, blockK, scopeK, ↓reduceIte, Nat.reduceEqDiff])
    | with_reducible exact popsD_stop
    | (with_reducible apply pguard_intro <;> (intro hc; (try simp only [hcb, reduceCtorEq, forall_const, ne_eq] at hc); first | (exfalso; omega) | (exfalso; exact hc trivial) | refine Ev_in ?_))
    | (with_reducible apply W_cond_k; intro _ _ ea eb; (simp only [condK, cob, opnd, constPV, Nat.reduceEqDiff, Nat.reduceLT, ↓reduceIte, hcb, reduceCtorEq, forall_const, ne_eq]); subst ea eb; first | (refine ⟨fun hc => ?_, fun hc => ?_⟩ <;> first | (exfalso; omega) | (exfalso; exact hc trivial) | skip) | skip)
    | (with_reducible apply hnx; clear hnx nx)
    | (with_reducible refine And.intro (by omega) ?_)
    | (with_reducible refine And.intro ?_ ?_)
    | (clear hnx nx; with_reducible apply hnx; clear hnx nx)
    | (clear hnx nx; clear hnx nx; with_reducible apply hnx; clear hnx nx)
    | (clear hnx nx; clear hnx nx; clear hnx nx; with_reducible apply hnx; clear hnx nx))
    all_goals first
      | exact absurd trivial hc
      | (exfalso
         omega)
      | skip
    refine hK _ Ha Hb hA hB ?_
    refine At_fr (by simp only [wkb, Nat.reduceEqDiff, Nat.reduceLT, ↓reduceIte]) ?_
    exact Hs.refl _
set_option maxRecDepth 100000 in
set_option maxHeartbeats 8000000 in
theorem prog_lost (G : Globs) (key : UInt64) (lost : Int) (hlr : inR lost) (a b : Int) (wa wb m0 m1 : Nat) (hwa : wa ≤ 16) (hwb : wb ≤ 16) (hm0 : m0 ≤ 31) (hm1 : m1 ≤ 31) (Ha Hb : Heap) (hA : IsEnd a (stI wa key m0) Ha) (hB : IsEnd b (stI wb key m1) Hb)
    (K : Exit → PState → Prop) (hK : ∀ σ' Ha Hb, IsEnd a (stI wa key m0) Ha → IsEnd b (stI wb key m1) Hb → At σ' ⟨fr 176 [(11, .list 1 [.ptr a 0, .ptr b 0]), (12, .list 1 [pn m0, pn m1])], Hb ++ Ha⟩ → K .normal σ') :
    W Try.prog G [] (nav (Try.f6.body.getD .skip) [1, 1, 1, 1, 1, 0]) ⟨fr 176 [(11, .list 1 [.ptr a 0, .ptr b 0]), (12, .list 1 [pn m0, pn m1]), (4, pint .i64 lost)], Hb ++ Ha⟩ K := by
  have hnm : True := trivial
  have a1 := around_c G lost 5 (by omega) (by omega) hlr
  have ha := arN_lt lost 5 (by omega)
  have a1 : PCalls Try.prog G 10 [pint .i64 lost, .val (.int .i64 5)] [] _ := a1
  generalize arN lost 5 = q at *
  have hmsg : ∀ n, ∀ b ∈ msgN n, b.length ≤ 65536 := by
    intro n b hb
    obtain ⟨j, _, rfl⟩ := List.mem_map.1 hb
    simp
  simp only [Try.f6, nav, Option.getD_some]
  repeat' (first
    | (with_reducible apply W_seq_k; intro nx hnx)
    | (with_reducible first | apply W_block | apply W_scope)
    | (with_reducible refine W_prune 16776223 ?_; simp only [prb, Nat.reducePow, Nat.reduceDiv, Nat.reduceMod, Nat.reduceBEq]; first | (with_reducible apply W_region_l) | with_reducible refine W_region_draw (id := 19) 1 (.op 0 true (.op 1 true (.op 2 true (.op 3 true (.op 4 true (.op 5 true (.op 6 true (.op 7 true (.op 8 true (.done)))))))))) (by kernel_rfl) ?_ | with_reducible refine W_region_draw (id := 28) 3 (.op 0 true (.op 1 true (.op 2 true (.op 3 true (.op 4 true (.op 5 true (.op 6 true (.op 7 true (.op 8 true (.op 9 false (.op 10 true (.op 11 true (.op 12 true (.op 13 true (.op 14 true (.done)))))))))))))))) (by kernel_rfl) ?_ | with_reducible refine W_region_draw (id := 34) 1 (.op 0 true (.op 1 true (.op 2 true (.op 3 true (.op 4 true (.op 5 true (.op 6 true (.op 7 true (.op 8 true (.op 9 true (.op 10 true (.op 11 true (.op 12 true (.op 13 true (.op 14 true (.op 15 true (.op 16 true (.op 17 true (.op 18 true (.op 19 true (.op 20 true (.done)))))))))))))))))))))) (by kernel_rfl) ?_ | with_reducible refine W_region_draw (id := 37) 9 (.op 0 true (.op 1 true (.op 2 true (.op 3 true (.op 4 true (.op 5 true (.op 6 true (.op 7 true (.op 8 true (.op 9 true (.op 10 true (.op 11 true (.op 12 true (.op 13 true (.op 14 true (.op 15 true (.op 16 true (.op 17 true (.op 18 true (.op 19 true (.op 20 false (.op 21 true (.op 22 true (.op 23 true (.op 24 true (.op 25 true (.op 26 true (.op 27 false (.op 28 true (.op 29 true (.op 30 true (.op 31 false (.op 32 true (.op 33 true (.done))))))))))))))))))))))))))))))))))) (by kernel_rfl) ?_)
    | ((first | (with_reducible apply WL_op; intro nx hnx) | with_reducible refine Ev_out ?_ | (with_reducible apply popsD_op; intro nx hnx) | (with_reducible refine popsD_alt ?_ ?_; intro nx hnx) | (with_reducible refine pfresh_k hnm fun nm hnm => ?_; (try simp only [fmb] at hnm)) | (with_reducible refine pborn_mu hnm fun nm hnm => ?_; (try simp only [fmb] at hnm)) | (with_reducible refine pmaybe_k ?_; intro bn hbn)); try (simp (maxSteps := 2000000) (disch := omega) only [evb, evd, pbuiltin, constPV, pnck, seqK, blockK, scopeK, pbin, pun, ppick, plen, piaddr, pindex, pfield, pslice, pbound, pconv, pelems, pextract, pmm, PV.mem?, PV.one, PV.cells, pageq, peqs, peq1, pmakes, pstore, pbytes, pmark, psrc, pkey, pnile, pcap, pgrow, List.set, Value.cells, ↓popG_eq, ↓pop.eq_1, ↓List.getElem?_map, ↓List.getElem?_cons_zero, ↓List.getElem?_cons_succ, Value.oneCell', Nat.reduceAdd, Nat.reduceMul, Nat.reduceSub, Nat.reduceLeDiff, Nat.reduceEqDiff, ↓reduceIte, ne_eq, reduceCtorEq, forall_const, exists_and_left, exists_eq_left', eq_self, Nat.reduceLT, Int.reduceLT, Int.reduceLE, Int.reduceToNat, Int.reduceAdd, Int.reduceSub, Int.reduceNeg, hnm, Try.tf0, Try.tf1, Try.tf2, Try.tf3, Try.tf4, Try.tf5, Try.tf22, Try.tf23, Try.tf24, Try.tf28, Try.tf33, Try.tf34, Try.tf35, Try.tf44, Try.tf65, Try.teq79, Try.call9, Try.call10, Try.call11, Try.call13, Try.call19, Try.call21, Try.call23]); repeat (refine And.intro (by omega) ?_))
    | ((with_reducible first | apply WL_nil | apply W_label | apply W_skip | apply W_exit | apply W_ret | apply popsD_done); try simp only [seqK, blockK, scopeK, ↓reduceIte, Nat.reduceEqDiff])
    | with_reducible exact popsD_stop
    | (with_reducible apply pguard_intro <;> (intro hc; (try simp only [hcb, reduceCtorEq, forall_const, ne_eq] at hc); first | (exfalso; omega) | (exfalso; exact hc trivial) | refine Ev_in ?_))
    | (with_reducible apply W_cond_k; intro _ _ ea eb; (simp only [condK, cob, opnd, constPV, Nat.reduceEqDiff, Nat.reduceLT, ↓reduceIte, hcb, reduceCtorEq, forall_const, ne_eq]); subst ea eb; first | (refine ⟨fun hc => ?_, fun hc => ?_⟩ <;> first | (exfalso; omega) | (exfalso; exact hc trivial) | skip) | skip)
    | (with_reducible apply hnx; clear hnx nx)
    | (with_reducible refine And.intro (by omega) ?_)
    | (with_reducible refine And.intro ?_ ?_)
    | (clear hnx nx; with_reducible apply hnx; clear hnx nx)
    | (clear hnx nx; clear hnx nx; with_reducible apply hnx; clear hnx nx)
    | (clear hnx nx; clear hnx nx; clear hnx nx; with_reducible apply hnx; clear hnx nx))
  refine W_loop_at (fun z τ => ∃ (i : Nat) (Ha Hb : Heap), i ≤ 5 ∧ z = 5 - i ∧ IsEnd a (stI wa key m0) Ha ∧ IsEnd b (stI wb key m1) Hb ∧
      τ = ⟨fr 176 [(15, pn i), (11, .list 1 [.ptr a 0, .ptr b 0]), (12, .list 1 [pn m0, pn m1]), (4, pint .i64 lost)], Hb ++ Ha⟩) 5
    ⟨fr 176 [(15, pn 0), (11, .list 1 [.ptr a 0, .ptr b 0]), (12, .list 1 [pn m0, pn m1]), (4, pint .i64 lost)], Hb ++ Ha⟩ (by
    refine At_fr (by simp only [wkb, Nat.reduceEqDiff, Nat.reduceLT, ↓reduceIte, pn]) ?_
    exact Hs.refl _) ⟨0, Ha, Hb, by omega, by omega, hA, hB, rfl⟩ ?_
  clear hA hB
  rintro z τ ⟨i, Ha, Hb, hi, rfl, hA, hB, rfl⟩ lp hlp
  by_cases hx : i < q
  · have r2 : Int.tmod (i : Int) 2 = ((i % 2 : Nat) : Int) := (Int.ofNat_tmod i 2).symm
    have hk : i % 2 < 2 := Nat.mod_lt _ (by omega)
    obtain ⟨k, hke⟩ : ∃ k, k = i % 2 := ⟨_, rfl⟩
    rw [← hke] at r2 hk
    clear hke
    have hk2 : k = 0 ∨ k = 1 := by omega
    rcases hk2 with rfl | rfl
    · have c1 := out_c G a (stI wa key m0) (stI_ok _ _ _ (by omega)) (by simp only; omega) (hmsg m0) Ha hA
      repeat' (first
    | (with_reducible apply W_seq_k; intro nx hnx)
    | (with_reducible first | apply W_block | apply W_scope)
    | (with_reducible refine W_prune 16776223 ?_; simp only [prb, Nat.reducePow, Nat.reduceDiv, Nat.reduceMod, Nat.reduceBEq]; first | (with_reducible apply W_region_l) | with_reducible refine W_region_draw (id := 19) 1 (.op 0 true (.op 1 true (.op 2 true (.op 3 true (.op 4 true (.op 5 true (.op 6 true (.op 7 true (.op 8 true (.done)))))))))) (by kernel_rfl) ?_ | with_reducible refine W_region_draw (id := 28) 3 (.op 0 true (.op 1 true (.op 2 true (.op 3 true (.op 4 true (.op 5 true (.op 6 true (.op 7 true (.op 8 true (.op 9 false (.op 10 true (.op 11 true (.op 12 true (.op 13 true (.op 14 true (.done)))))))))))))))) (by kernel_rfl) ?_ | with_reducible refine W_region_draw (id := 34) 1 (.op 0 true (.op 1 true (.op 2 true (.op 3 true (.op 4 true (.op 5 true (.op 6 true (.op 7 true (.op 8 true (.op 9 true (.op 10 true (.op 11 true (.op 12 true (.op 13 true (.op 14 true (.op 15 true (.op 16 true (.op 17 true (.op 18 true (.op 19 true (.op 20 true (.done)))))))))))))))))))))) (by kernel_rfl) ?_ | with_reducible refine W_region_draw (id := 37) 9 (.op 0 true (.op 1 true (.op 2 true (.op 3 true (.op 4 true (.op 5 true (.op 6 true (.op 7 true (.op 8 true (.op 9 true (.op 10 true (.op 11 true (.op 12 true (.op 13 true (.op 14 true (.op 15 true (.op 16 true (.op 17 true (.op 18 true (.op 19 true (.op 20 false (.op 21 true (.op 22 true (.op 23 true (.op 24 true (.op 25 true (.op 26 true (.op 27 false (.op 28 true (.op 29 true (.op 30 true (.op 31 false (.op 32 true (.op 33 true (.done))))))))))))))))))))))))))))))))))) (by kernel_rfl) ?_)
    | ((first | (with_reducible apply WL_op; intro nx hnx) | with_reducible refine Ev_out ?_ | (with_reducible apply popsD_op; intro nx hnx) | (with_reducible refine popsD_alt ?_ ?_; intro nx hnx) | (with_reducible refine pfresh_k hnm fun nm hnm => ?_; (try simp only [fmb] at hnm)) | (with_reducible refine pborn_mu hnm fun nm hnm => ?_; (try simp only [fmb] at hnm)) | (with_reducible refine pmaybe_k ?_; intro bn hbn)); try (simp (maxSteps := 2000000) (disch := omega) only [evb, evd, pbuiltin, constPV, pnck, seqK, blockK, scopeK, pbin, pun, ppick, plen, piaddr, pindex, pfield, pslice, pbound, pconv, pelems, pextract, pmm, PV.mem?, PV.one, PV.cells, pageq, peqs, peq1, pmakes, pstore, pbytes, pmark, psrc, pkey, pnile, pcap, pgrow, List.set, Value.cells, ↓popG_eq, ↓pop.eq_1, ↓List.getElem?_map, ↓List.getElem?_cons_zero, ↓List.getElem?_cons_succ, Value.oneCell', Nat.reduceAdd, Nat.reduceMul, Nat.reduceSub, Nat.reduceLeDiff, Nat.reduceEqDiff, ↓reduceIte, ne_eq, reduceCtorEq, forall_const, exists_and_left, exists_eq_left', eq_self, Nat.reduceLT, Int.reduceLT, Int.reduceLE, Int.reduceToNat, Int.reduceAdd, Int.reduceSub, Int.reduceNeg, hnm, Try.tf0, Try.tf1, Try.tf2, Try.tf3, Try.tf4, Try.tf5, Try.tf22, Try.tf23, Try.tf24, Try.tf28, Try.tf33, Try.tf34, Try.tf35, Try.tf44, Try.tf65, Try.teq79, Try.call9, Try.call10, Try.call11, Try.call13, Try.call19, Try.call21, Try.call23, r2]); repeat (refine And.intro (by omega) ?_))
    | ((with_reducible first | apply WL_nil | apply W_label | apply W_skip | apply W_exit | apply W_ret | apply popsD_done); try simp only [seqK, blockK, scopeK, ↓reduceIte, Nat.reduceEqDiff])
    | with_reducible exact popsD_stop
    | (with_reducible apply pguard_intro <;> (intro hc; (try simp only [hcb, reduceCtorEq, forall_const, ne_eq] at hc); first | (exfalso; omega) | (exfalso; exact hc trivial) | refine Ev_in ?_))
    | (with_reducible apply W_cond_k; intro _ _ ea eb; (simp only [condK, cob, opnd, constPV, Nat.reduceEqDiff, Nat.reduceLT, ↓reduceIte, hcb, reduceCtorEq, forall_const, ne_eq]); subst ea eb; first | (refine ⟨fun hc => ?_, fun hc => ?_⟩ <;> first | (exfalso; omega) | (exfalso; exact hc trivial) | skip) | skip)
    | (with_reducible apply hnx; clear hnx nx)
    | (with_reducible refine And.intro (by omega) ?_)
    | (with_reducible refine And.intro ?_ ?_)
    | (with_reducible refine pcall_k (a1) ?_; rintro _ _ ⟨rfl, rfl⟩ -; refine Ev_in ?_)
    | (((with_reducible refine pcall_a c1 ?_); rintro _ Ha' ⟨rfl, hA'⟩; refine Ev_in ?_))
    | (clear hnx nx; with_reducible apply hnx; clear hnx nx)
    | (clear hnx nx; clear hnx nx; with_reducible apply hnx; clear hnx nx)
    | (clear hnx nx; clear hnx nx; clear hnx nx; with_reducible apply hnx; clear hnx nx))
      all_goals first
        | exact absurd trivial hc
        | (exfalso
           omega)
        | skip
      refine hlp _ (5 - (i + 1)) _ (by omega) ?_ ⟨i + 1, Ha', Hb, by omega, rfl, hA', hB, rfl⟩
      refine At_fr (by simp only [wkb, Nat.reduceEqDiff, Nat.reduceLT, ↓reduceIte, pn]) ?_
      exact Hs.refl _
    · have c1 := out_c G b (stI wb key m1) (stI_ok _ _ _ (by omega)) (by simp only; omega) (hmsg m1) Hb hB
      repeat' (first
    | (with_reducible apply W_seq_k; intro nx hnx)
    | (with_reducible first | apply W_block | apply W_scope)
    | (with_reducible refine W_prune 16776223 ?_; simp only [prb, Nat.reducePow, Nat.reduceDiv, Nat.reduceMod, Nat.reduceBEq]; first | (with_reducible apply W_region_l) | with_reducible refine W_region_draw (id := 19) 1 (.op 0 true (.op 1 true (.op 2 true (.op 3 true (.op 4 true (.op 5 true (.op 6 true (.op 7 true (.op 8 true (.done)))))))))) (by kernel_rfl) ?_ | with_reducible refine W_region_draw (id := 28) 3 (.op 0 true (.op 1 true (.op 2 true (.op 3 true (.op 4 true (.op 5 true (.op 6 true (.op 7 true (.op 8 true (.op 9 false (.op 10 true (.op 11 true (.op 12 true (.op 13 true (.op 14 true (.done)))))))))))))))) (by kernel_rfl) ?_ | with_reducible refine W_region_draw (id := 34) 1 (.op 0 true (.op 1 true (.op 2 true (.op 3 true (.op 4 true (.op 5 true (.op 6 true (.op 7 true (.op 8 true (.op 9 true (.op 10 true (.op 11 true (.op 12 true (.op 13 true (.op 14 true (.op 15 true (.op 16 true (.op 17 true (.op 18 true (.op 19 true (.op 20 true (.done)))))))))))))))))))))) (by kernel_rfl) ?_ | with_reducible refine W_region_draw (id := 37) 9 (.op 0 true (.op 1 true (.op 2 true (.op 3 true (.op 4 true (.op 5 true (.op 6 true (.op 7 true (.op 8 true (.op 9 true (.op 10 true (.op 11 true (.op 12 true (.op 13 true (.op 14 true (.op 15 true (.op 16 true (.op 17 true (.op 18 true (.op 19 true (.op 20 false (.op 21 true (.op 22 true (.op 23 true (.op 24 true (.op 25 true (.op 26 true (.op 27 false (.op 28 true (.op 29 true (.op 30 true (.op 31 false (.op 32 true (.op 33 true (.done))))))))))))))))))))))))))))))))))) (by kernel_rfl) ?_)
    | ((first | (with_reducible apply WL_op; intro nx hnx) | with_reducible refine Ev_out ?_ | (with_reducible apply popsD_op; intro nx hnx) | (with_reducible refine popsD_alt ?_ ?_; intro nx hnx) | (with_reducible refine pfresh_k hnm fun nm hnm => ?_; (try simp only [fmb] at hnm)) | (with_reducible refine pborn_mu hnm fun nm hnm => ?_; (try simp only [fmb] at hnm)) | (with_reducible refine pmaybe_k ?_; intro bn hbn)); try (simp (maxSteps := 2000000) (disch := omega) only [evb, evd, pbuiltin, constPV, pnck, seqK, blockK, scopeK, pbin, pun, ppick, plen, piaddr, pindex, pfield, pslice, pbound, pconv, pelems, pextract, pmm, PV.mem?, PV.one, PV.cells, pageq, peqs, peq1, pmakes, pstore, pbytes, pmark, psrc, pkey, pnile, pcap, pgrow, List.set, Value.cells, ↓popG_eq, ↓pop.eq_1, ↓List.getElem?_map, ↓List.getElem?_cons_zero, ↓List.getElem?_cons_succ, Value.oneCell', Nat.reduceAdd, Nat.reduceMul, Nat.reduceSub, Nat.reduceLeDiff, Nat.reduceEqDiff, ↓reduceIte, ne_eq, reduceCtorEq, forall_const, exists_and_left, exists_eq_left', eq_self, Nat.reduceLT, Int.reduceLT, Int.reduceLE, Int.reduceToNat, Int.reduceAdd, Int.reduceSub, Int.reduceNeg, hnm, Try.tf0, Try.tf1, Try.tf2, Try.tf3, Try.tf4, Try.tf5, Try.tf22, Try.tf23, Try.tf24, Try.tf28, Try.tf33, Try.tf34, Try.tf35, Try.tf44, Try.tf65, Try.teq79, Try.call9, Try.call10, Try.call11, Try.call13, Try.call19, Try.call21, Try.call23, r2]); repeat (refine And.intro (by omega) ?_))
    | ((with_reducible first | apply WL_nil | apply W_label | apply W_skip | apply W_exit | apply W_ret | apply popsD_done); try simp only [seqK, blockK, scopeK, ↓reduceIte, Nat.reduceEqDiff])
    | with_reducible exact popsD_stop
    | (with_reducible apply pguard_intro <;> (intro hc; (try simp only [hcb, reduceCtorEq, forall_const, ne_eq] at hc); first | (exfalso; omega) | (exfalso; exact hc trivial) | refine Ev_in ?_))
    | (with_reducible apply W_cond_k; intro _ _ ea eb; (simp only [condK, cob, opnd, constPV, Nat.reduceEqDiff, Nat.reduceLT, ↓reduceIte, hcb, reduceCtorEq, forall_const, ne_eq]); subst ea eb; first | (refine ⟨fun hc => ?_, fun hc => ?_⟩ <;> first | (exfalso; omega) | (exfalso; exact hc trivial) | skip) | skip)
    | (with_reducible apply hnx; clear hnx nx)
    | (with_reducible refine And.intro (by omega) ?_)
    | (with_reducible refine And.intro ?_ ?_)
    | (with_reducible refine pcall_k (a1) ?_; rintro _ _ ⟨rfl, rfl⟩ -; refine Ev_in ?_)
    | (((with_reducible refine pcall_b c1 ?_); rintro _ Hb' ⟨rfl, hB'⟩; refine Ev_in ?_))
    | (clear hnx nx; with_reducible apply hnx; clear hnx nx)
    | (clear hnx nx; clear hnx nx; with_reducible apply hnx; clear hnx nx)
    | (clear hnx nx; clear hnx nx; clear hnx nx; with_reducible apply hnx; clear hnx nx))
      all_goals first
        | exact absurd trivial hc
        | (exfalso
           omega)
        | skip
      refine hlp _ (5 - (i + 1)) _ (by omega) ?_ ⟨i + 1, Ha, Hb', by omega, rfl, hA, hB', rfl⟩
      refine At_fr (by simp only [wkb, Nat.reduceEqDiff, Nat.reduceLT, ↓reduceIte, pn]) ?_
      exact Hs.refl _
  · repeat' (first
    | (with_reducible apply W_seq_k; intro nx hnx)
    | (with_reducible first | apply W_block | apply W_scope)
    | (with_reducible refine W_prune 16776223 ?_; simp only [prb, Nat.reducePow, Nat.reduceDiv, Nat.reduceMod, Nat.reduceBEq]; first | (with_reducible apply W_region_l) | with_reducible refine W_region_draw (id := 19) 1 (.op 0 true (.op 1 true (.op 2 true (.op 3 true (.op 4 true (.op 5 true (.op 6 true (.op 7 true (.op 8 true (.done)))))))))) (by kernel_rfl) ?_ | with_reducible refine W_region_draw (id := 28) 3 (.op 0 true (.op 1 true (.op 2 true (.op 3 true (.op 4 true (.op 5 true (.op 6 true (.op 7 true (.op 8 true (.op 9 false (.op 10 true (.op 11 true (.op 12 true (.op 13 true (.op 14 true (.done)))))))))))))))) (by kernel_rfl) ?_ | with_reducible refine W_region_draw (id := 34) 1 (.op 0 true (.op 1 true (.op 2 true (.op 3 true (.op 4 true (.op 5 true (.op 6 true (.op 7 true (.op 8 true (.op 9 true (.op 10 true (.op 11 true (.op 12 true (.op 13 true (.op 14 true (.op 15 true (.op 16 true (.op 17 true (.op 18 true (.op 19 true (.op 20 true (.done)))))))))))))))))))))) (by kernel_rfl) ?_ | with_reducible refine W_region_draw (id := 37) 9 (.op 0 true (.op 1 true (.op 2 true (.op 3 true (.op 4 true (.op 5 true (.op 6 true (.op 7 true (.op 8 true (.op 9 true (.op 10 true (.op 11 true (.op 12 true (.op 13 true (.op 14 true (.op 15 true (.op 16 true (.op 17 true (.op 18 true (.op 19 true (.op 20 false (.op 21 true (.op 22 true (.op 23 true (.op 24 true (.op 25 true (.op 26 true (.op 27 false (.op 28 true (.op 29 true (.op 30 true (.op 31 false (.op 32 true (.op 33 true (.done))))))))))))))))))))))))))))))))))) (by kernel_rfl) ?_)
    | ((first | (with_reducible apply WL_op; intro nx hnx) | with_reducible refine Ev_out ?_ | (with_reducible apply popsD_op; intro nx hnx) | (with_reducible refine popsD_alt ?_ ?_; intro nx hnx) | (with_reducible refine pfresh_k hnm fun nm hnm => ?_; (try simp only [fmb] at hnm)) | (with_reducible refine pborn_mu hnm fun nm hnm => ?_; (try simp only [fmb] at hnm)) | (with_reducible refine pmaybe_k ?_; intro bn hbn)); try (simp (maxSteps := 2000000) (disch := omega) only [evb, evd, pbuiltin, constPV, pnck, seqK, blockK, scopeK, pbin, pun, ppick, plen, piaddr, pindex, pfield, pslice, pbound, pconv, pelems, pextract, pmm, PV.mem?, PV.one, PV.cells, pageq, peqs, peq1, pmakes, pstore, pbytes, pmark, psrc, pkey, pnile, pcap, pgrow, List.set, Value.cells, ↓popG_eq, ↓pop.eq_1, ↓List.getElem?_map, ↓List.getElem?_cons_zero, ↓List.getElem?_cons_succ, Value.oneCell', Nat.reduceAdd, Nat.reduceMul, Nat.reduceSub, Nat.reduceLeDiff, Nat.reduceEqDiff, ↓reduceIte, ne_eq, reduceCtorEq, forall_const, exists_and_left, exists_eq_left', eq_self, Nat.reduceLT, Int.reduceLT, Int.reduceLE, Int.reduceToNat, Int.reduceAdd, Int.reduceSub, Int.reduceNeg, hnm, Try.tf0, Try.tf1, Try.tf2, Try.tf3, Try.tf4, Try.tf5, Try.tf22, Try.tf23, Try.tf24, Try.tf28, Try.tf33, Try.tf34, Try.tf35, Try.tf44, Try.tf65, Try.teq79, Try.call9, Try.call10, Try.call11, Try.call13, Try.call19, Try.call21, Try.call23]); repeat (refine And.intro (by omega) ?_))
    | ((with_reducible first | apply WL_nil | apply W_label | apply W_skip | apply W_exit | apply W_ret | apply popsD_done); try simp only [seqK, blockK, scopeK, ↓reduceIte, Nat.reduceEqDiff])
    | with_reducible exact popsD_stop
    | (with_reducible apply pguard_intro <;> (intro hc; (try simp only [hcb, reduceCtorEq, forall_const, ne_eq] at hc); first | (exfalso; omega) | (exfalso; exact hc trivial) | refine Ev_in ?_))
    | (with_reducible apply W_cond_k; intro _ _ ea eb; (simp only [condK, cob, opnd, constPV, Nat.reduceEqDiff, Nat.reduceLT, ↓reduceIte, hcb, reduceCtorEq, forall_const, ne_eq]); subst ea eb; first | (refine ⟨fun hc => ?_, fun hc => ?_⟩ <;> first | (exfalso; omega) | (exfalso; exact hc trivial) | skip) | skip)
    | (with_reducible apply hnx; clear hnx nx)
    | (with_reducible refine And.intro (by omega) ?_)
    | (with_reducible refine And.intro ?_ ?_)
    | (with_reducible refine pcall_k (a1) ?_; rintro _ _ ⟨rfl, rfl⟩ -; refine Ev_in ?_)
    | (clear hnx nx; with_reducible apply hnx; clear hnx nx)
    | (clear hnx nx; clear hnx nx; with_reducible apply hnx; clear hnx nx)
    | (clear hnx nx; clear hnx nx; clear hnx nx; with_reducible apply hnx; clear hnx nx))
    all_goals first
      | exact absurd trivial hc
      | (exfalso
         omega)
      | skip
    refine hK _ Ha Hb hA hB ?_
    refine At_fr (by simp only [wkb, Nat.reduceEqDiff, Nat.reduceLT, ↓reduceIte]) ?_
    exact Hs.refl _
end Go.PM

namespace Go.PM
open Go.Proofs
attribute [local irreducible] W PCalls pcall pcallI WL
section
variable {P : Program} {G : Globs} {f : List PV} {x : Int × PObj} {A B : Heap} {fn : FuncId} {args : List PV} {R : PV → Heap → Prop} {d : Option Tmp} {K : PState → Prop}
theorem pcall_xb (hc : PCalls P G fn args B R) (hk : ∀ res H, R res H → K (PState.put ⟨f, x :: (H ++ A)⟩ d res)) : @pcallI false P G ⟨f, x :: (B ++ A)⟩ d fn args ⟨K⟩ :=
  pcall_mid [x] B A rfl hc hk
theorem pcall_xa (hc : PCalls P G fn args A R) (hk : ∀ res H, R res H → K (PState.put ⟨f, x :: (B ++ H)⟩ d res)) : @pcallI false P G ⟨f, x :: (B ++ A)⟩ d fn args ⟨K⟩ :=
  pcall_mid (x :: B) A [] (by simp) hc (fun res H h => by simpa using hk res H h)
end
@[reducible] def proL (a b nG : Int) (m0 m1 n : Nat) : List (Nat × PV) := [(16, .row nG 1 2), (17, pn n), (11, .list 1 [.ptr a 0, .ptr b 0]), (12, .list 1 [pn m0, pn m1])]
@[reducible] def proO (nG : Int) (g0 g1 : Nat) (H : Heap) : Heap := (nG, ⟨3, true, 1, [pn g0, pn g1]⟩) :: H
set_option maxRecDepth 100000 in
set_option maxHeartbeats 8000000 in
theorem prog_msgs (G : Globs) (a b nG : Int) (m0 m1 n k j0 g0 g1 m : Nat) (hk : k < 2) (l p : List (List UInt8)) (g : Nat) (hg : g = if k = 0 then g1 else g0) (hgm : g + l.length ≤ m) (hm : m ≤ 31) (hl : l = ((msgN m).drop g).take l.length) (hl1 : l.length ≤ 1) (H : Heap)
    (K : Exit → PState → Prop) (hK : ∀ σ', At σ' ⟨fr 176 ((20, pn j0) :: (19, .list 1 (p.map pl)) :: (18, pn k) :: proL a b nG m0 m1 n), proO nG (if k = 0 then g0 else g0 + l.length) (if k = 0 then g1 + l.length else g1) H⟩ → K .normal σ') :
    W Try.prog G [] (nav (Try.f6.body.getD .skip) [1, 1, 1, 1, 1, 1, 1, 0, 1, 0, 0, 1, 0, 0, 1, 0, 0, 1, 0, 0, 1, 1, 0, 0, 1, 0, 0, 1, 1]) ⟨fr 176 ((21, .list 1 (l.map pl)) :: (20, pn j0) :: (19, .list 1 (p.map pl)) :: (18, pn k) :: proL a b nG m0 m1 n), proO nG g0 g1 H⟩ K := by
  have hnm : True := trivial
  simp only [Try.f6, nav, Option.getD_some]
  have hcase : l = [] ∨ l = [[UInt8.ofNat g]] := by
    match l, hl1, hl, hgm with
    | [], _, _, _ => exact .inl rfl
    | [y], _, hl, hgm =>
      right
      simp only [List.length_cons, List.length_nil, Nat.zero_add] at hl hgm
      have hlt : g < (msgN m).length := by rw [msgN_len]; omega
      rw [List.drop_eq_getElem_cons hlt] at hl
      simp only [List.take_succ_cons, List.take_zero] at hl
      rw [hl]
      have := msgN_get (n := m) (j := g) (by omega)
      rw [List.getElem?_eq_getElem hlt] at this
      simp only [Option.some.injEq] at this
      rw [this]
    | _ :: _ :: _, h, _, _ => simp at h
  repeat' (first
    | (with_reducible apply W_seq_k; intro nx hnx)
    | (with_reducible first | apply W_block | apply W_scope)
    | (with_reducible refine W_prune 16776223 ?_; simp only [prb, Nat.reducePow, Nat.reduceDiv, Nat.reduceMod, Nat.reduceBEq]; first | (with_reducible apply W_region_l) | with_reducible refine W_region_draw (id := 19) 1 (.op 0 true (.op 1 true (.op 2 true (.op 3 true (.op 4 true (.op 5 true (.op 6 true (.op 7 true (.op 8 true (.done)))))))))) (by kernel_rfl) ?_ | with_reducible refine W_region_draw (id := 28) 3 (.op 0 true (.op 1 true (.op 2 true (.op 3 true (.op 4 true (.op 5 true (.op 6 true (.op 7 true (.op 8 true (.op 9 false (.op 10 true (.op 11 true (.op 12 true (.op 13 true (.op 14 true (.done)))))))))))))))) (by kernel_rfl) ?_ | with_reducible refine W_region_draw (id := 34) 1 (.op 0 true (.op 1 true (.op 2 true (.op 3 true (.op 4 true (.op 5 true (.op 6 true (.op 7 true (.op 8 true (.op 9 true (.op 10 true (.op 11 true (.op 12 true (.op 13 true (.op 14 true (.op 15 true (.op 16 true (.op 17 true (.op 18 true (.op 19 true (.op 20 true (.done)))))))))))))))))))))) (by kernel_rfl) ?_ | with_reducible refine W_region_draw (id := 37) 9 (.op 0 true (.op 1 true (.op 2 true (.op 3 true (.op 4 true (.op 5 true (.op 6 true (.op 7 true (.op 8 true (.op 9 true (.op 10 true (.op 11 true (.op 12 true (.op 13 true (.op 14 true (.op 15 true (.op 16 true (.op 17 true (.op 18 true (.op 19 true (.op 20 false (.op 21 true (.op 22 true (.op 23 true (.op 24 true (.op 25 true (.op 26 true (.op 27 false (.op 28 true (.op 29 true (.op 30 true (.op 31 false (.op 32 true (.op 33 true (.done))))))))))))))))))))))))))))))))))) (by kernel_rfl) ?_)
    | ((first | (with_reducible apply WL_op; intro nx hnx) | with_reducible refine Ev_out ?_ | (with_reducible apply popsD_op; intro nx hnx) | (with_reducible refine popsD_alt ?_ ?_; intro nx hnx) | (with_reducible refine pfresh_k hnm fun nm hnm => ?_; (try simp only [fmb] at hnm)) | (with_reducible refine pborn_mu hnm fun nm hnm => ?_; (try simp only [fmb] at hnm)) | (with_reducible refine pmaybe_k ?_; intro bn hbn)); try (simp (maxSteps := 2000000) (disch := omega) only [evb, evd, pbuiltin, constPV, pnck, seqK, blockK, scopeK, pbin, pun, ppick, plen, piaddr, pindex, pfield, pslice, pbound, pconv, pelems, pextract, pmm, PV.mem?, PV.one, PV.cells, pageq, peqs, peq1, pmakes, pstore, pbytes, pmark, psrc, pkey, pnile, pcap, pgrow, List.set, Value.cells, ↓popG_eq, ↓pop.eq_1, ↓List.getElem?_map, ↓List.getElem?_cons_zero, ↓List.getElem?_cons_succ, Value.oneCell', Nat.reduceAdd, Nat.reduceMul, Nat.reduceSub, Nat.reduceLeDiff, Nat.reduceEqDiff, ↓reduceIte, ne_eq, reduceCtorEq, forall_const, exists_and_left, exists_eq_left', eq_self, Nat.reduceLT, Int.reduceLT, Int.reduceLE, Int.reduceToNat, Int.reduceAdd, Int.reduceSub, Int.reduceNeg, hnm, Try.tf0, Try.tf1, Try.tf2, Try.tf3, Try.tf4, Try.tf5, Try.tf22, Try.tf23, Try.tf24, Try.tf28, Try.tf33, Try.tf34, Try.tf35, Try.tf44, Try.tf65, Try.teq79, Try.call9, Try.call10, Try.call11, Try.call13, Try.call19, Try.call21, Try.call23]); repeat (refine And.intro (by omega) ?_))
    | ((with_reducible first | apply WL_nil | apply W_label | apply W_skip | apply W_exit | apply W_ret | apply popsD_done); try simp only [seqK, blockK, scopeK, ↓reduceIte, Nat.reduceEqDiff])
    | with_reducible exact popsD_stop
    | (with_reducible apply pguard_intro <;> (intro hc; (try simp only [hcb, reduceCtorEq, forall_const, ne_eq] at hc); first | (exfalso; omega) | (exfalso; exact hc trivial) | refine Ev_in ?_))
    | (with_reducible apply W_cond_k; intro _ _ ea eb; (simp only [condK, cob, opnd, constPV, Nat.reduceEqDiff, Nat.reduceLT, ↓reduceIte, hcb, reduceCtorEq, forall_const, ne_eq]); subst ea eb; first | (refine ⟨fun hc => ?_, fun hc => ?_⟩ <;> first | (exfalso; omega) | (exfalso; exact hc trivial) | skip) | skip)
    | (with_reducible apply hnx; clear hnx nx)
    | (with_reducible refine And.intro (by omega) ?_)
    | (with_reducible refine And.intro ?_ ?_)
    | (clear hnx nx; with_reducible apply hnx; clear hnx nx)
    | (clear hnx nx; clear hnx nx; with_reducible apply hnx; clear hnx nx)
    | (clear hnx nx; clear hnx nx; clear hnx nx; with_reducible apply hnx; clear hnx nx))
  refine W_loop_at (fun z τ => ∃ j : Nat, j ≤ l.length ∧ z = l.length - j ∧ τ = ⟨fr 176 ((23, pn j) :: (21, .list 1 (l.map pl)) :: (20, pn j0) :: (19, .list 1 (p.map pl)) :: (18, pn k) :: proL a b nG m0 m1 n), proO nG (if k = 0 then g0 else g0 + j) (if k = 0 then g1 + j else g1) H⟩) l.length
    ⟨fr 176 ((23, pn 0) :: (21, .list 1 (l.map pl)) :: (20, pn j0) :: (19, .list 1 (p.map pl)) :: (18, pn k) :: proL a b nG m0 m1 n), proO nG g0 g1 H⟩ (by
    refine At_fr (by simp only [wkb, Nat.reduceEqDiff, Nat.reduceLT, ↓reduceIte, pn]) ?_
    exact Hs.refl _) ⟨0, by omega, by omega, by simp⟩ ?_
  rintro z τ ⟨j, hj, rfl, rfl⟩ lp hlp
  by_cases hjl : j < l.length
  · have hj0 : j = 0 := by omega
    subst hj0
    rcases hcase with h0 | h0
    · rw [h0] at hjl
      simp at hjl
    have hll : l.length = 1 := by rw [h0]; rfl
    have hu : ((UInt8.ofNat g).toNat : Int) = (g : Int) := by
      rw [UInt8.toNat_ofNat']
      omega
    have hwr : IntKind.i64.wrap (g : Int) = (g : Int) := wr64 _ (by omega) (by omega)
    subst h0
    have hk2 : k = 0 ∨ k = 1 := by omega
    rcases hk2 with rfl | rfl
    · simp only [if_true, Nat.add_zero] at hg hlp ⊢
      subst hg
      repeat' (first
    | (with_reducible apply W_seq_k; intro nx hnx)
    | (with_reducible first | apply W_block | apply W_scope)
    | (with_reducible refine W_prune 16776223 ?_; simp only [prb, Nat.reducePow, Nat.reduceDiv, Nat.reduceMod, Nat.reduceBEq]; first | (with_reducible apply W_region_l) | with_reducible refine W_region_draw (id := 19) 1 (.op 0 true (.op 1 true (.op 2 true (.op 3 true (.op 4 true (.op 5 true (.op 6 true (.op 7 true (.op 8 true (.done)))))))))) (by kernel_rfl) ?_ | with_reducible refine W_region_draw (id := 28) 3 (.op 0 true (.op 1 true (.op 2 true (.op 3 true (.op 4 true (.op 5 true (.op 6 true (.op 7 true (.op 8 true (.op 9 false (.op 10 true (.op 11 true (.op 12 true (.op 13 true (.op 14 true (.done)))))))))))))))) (by kernel_rfl) ?_ | with_reducible refine W_region_draw (id := 34) 1 (.op 0 true (.op 1 true (.op 2 true (.op 3 true (.op 4 true (.op 5 true (.op 6 true (.op 7 true (.op 8 true (.op 9 true (.op 10 true (.op 11 true (.op 12 true (.op 13 true (.op 14 true (.op 15 true (.op 16 true (.op 17 true (.op 18 true (.op 19 true (.op 20 true (.done)))))))))))))))))))))) (by kernel_rfl) ?_ | with_reducible refine W_region_draw (id := 37) 9 (.op 0 true (.op 1 true (.op 2 true (.op 3 true (.op 4 true (.op 5 true (.op 6 true (.op 7 true (.op 8 true (.op 9 true (.op 10 true (.op 11 true (.op 12 true (.op 13 true (.op 14 true (.op 15 true (.op 16 true (.op 17 true (.op 18 true (.op 19 true (.op 20 false (.op 21 true (.op 22 true (.op 23 true (.op 24 true (.op 25 true (.op 26 true (.op 27 false (.op 28 true (.op 29 true (.op 30 true (.op 31 false (.op 32 true (.op 33 true (.done))))))))))))))))))))))))))))))))))) (by kernel_rfl) ?_)
    | ((first | (with_reducible apply WL_op; intro nx hnx) | with_reducible refine Ev_out ?_ | (with_reducible apply popsD_op; intro nx hnx) | (with_reducible refine popsD_alt ?_ ?_; intro nx hnx) | (with_reducible refine pfresh_k hnm fun nm hnm => ?_; (try simp only [fmb] at hnm)) | (with_reducible refine pborn_mu hnm fun nm hnm => ?_; (try simp only [fmb] at hnm)) | (with_reducible refine pmaybe_k ?_; intro bn hbn)); try (simp (maxSteps := 2000000) (disch := omega) only [evb, evd, pbuiltin, constPV, pnck, seqK, blockK, scopeK, pbin, pun, ppick, plen, piaddr, pindex, pfield, pslice, pbound, pconv, pelems, pextract, pmm, PV.mem?, PV.one, PV.cells, pageq, peqs, peq1, pmakes, pstore, pbytes, pmark, psrc, pkey, pnile, pcap, pgrow, List.set, Value.cells, ↓popG_eq, ↓pop.eq_1, ↓List.getElem?_map, ↓List.getElem?_cons_zero, ↓List.getElem?_cons_succ, Value.oneCell', Nat.reduceAdd, Nat.reduceMul, Nat.reduceSub, Nat.reduceLeDiff, Nat.reduceEqDiff, ↓reduceIte, ne_eq, reduceCtorEq, forall_const, exists_and_left, exists_eq_left', eq_self, Nat.reduceLT, Int.reduceLT, Int.reduceLE, Int.reduceToNat, Int.reduceAdd, Int.reduceSub, Int.reduceNeg, hnm, Try.tf0, Try.tf1, Try.tf2, Try.tf3, Try.tf4, Try.tf5, Try.tf22, Try.tf23, Try.tf24, Try.tf28, Try.tf33, Try.tf34, Try.tf35, Try.tf44, Try.tf65, Try.teq79, Try.call9, Try.call10, Try.call11, Try.call13, Try.call19, Try.call21, Try.call23, hu, hwr, pbyte]); repeat (refine And.intro (by omega) ?_))
    | ((with_reducible first | apply WL_nil | apply W_label | apply W_skip | apply W_exit | apply W_ret | apply popsD_done); try simp only [seqK, blockK, scopeK, ↓reduceIte, Nat.reduceEqDiff])
    | with_reducible exact popsD_stop
    | (with_reducible apply pguard_intro <;> (intro hc; (try simp only [hcb, reduceCtorEq, forall_const, ne_eq] at hc); first | (exfalso; omega) | (exfalso; exact hc trivial) | refine Ev_in ?_))
    | (with_reducible apply W_cond_k; intro _ _ ea eb; (simp only [condK, cob, opnd, constPV, Nat.reduceEqDiff, Nat.reduceLT, ↓reduceIte, hcb, reduceCtorEq, forall_const, ne_eq]); subst ea eb; first | (refine ⟨fun hc => ?_, fun hc => ?_⟩ <;> first | (exfalso; omega) | (exfalso; exact hc trivial) | skip) | skip)
    | (with_reducible apply hnx; clear hnx nx)
    | (with_reducible refine And.intro (by omega) ?_)
    | (with_reducible refine And.intro ?_ ?_)
    | (clear hnx nx; with_reducible apply hnx; clear hnx nx)
    | (clear hnx nx; clear hnx nx; with_reducible apply hnx; clear hnx nx)
    | (clear hnx nx; clear hnx nx; clear hnx nx; with_reducible apply hnx; clear hnx nx))
      all_goals first
        | exact absurd trivial hc
        | (exfalso
           omega)
        | skip
      refine hlp _ 0 _ (by omega) ?_ ⟨1, by simp, by simp, rfl⟩
      refine At_fr (by simp only [wkb, Nat.reduceEqDiff, Nat.reduceLT, ↓reduceIte, pn, List.map_cons, List.map_nil]) ?_
      refine Hs.perm ?_
      simp only [pn, Int.natCast_add, Int.cast_ofNat_Int]
      exact List.Perm.refl _
    · simp only [Nat.one_ne_zero, if_false, Nat.add_zero] at hg hlp ⊢
      subst hg
      repeat' (first
    | (with_reducible apply W_seq_k; intro nx hnx)
    | (with_reducible first | apply W_block | apply W_scope)
    | (with_reducible refine W_prune 16776223 ?_; simp only [prb, Nat.reducePow, Nat.reduceDiv, Nat.reduceMod, Nat.reduceBEq]; first | (with_reducible apply W_region_l) | with_reducible refine W_region_draw (id := 19) 1 (.op 0 true (.op 1 true (.op 2 true (.op 3 true (.op 4 true (.op 5 true (.op 6 true (.op 7 true (.op 8 true (.done)))))))))) (by kernel_rfl) ?_ | with_reducible refine W_region_draw (id := 28) 3 (.op 0 true (.op 1 true (.op 2 true (.op 3 true (.op 4 true (.op 5 true (.op 6 true (.op 7 true (.op 8 true (.op 9 false (.op 10 true (.op 11 true (.op 12 true (.op 13 true (.op 14 true (.done)))))))))))))))) (by kernel_rfl) ?_ | with_reducible refine W_region_draw (id := 34) 1 (.op 0 true (.op 1 true (.op 2 true (.op 3 true (.op 4 true (.op 5 true (.op 6 true (.op 7 true (.op 8 true (.op 9 true (.op 10 true (.op 11 true (.op 12 true (.op 13 true (.op 14 true (.op 15 true (.op 16 true (.op 17 true (.op 18 true (.op 19 true (.op 20 true (.done)))))))))))))))))))))) (by kernel_rfl) ?_ | with_reducible refine W_region_draw (id := 37) 9 (.op 0 true (.op 1 true (.op 2 true (.op 3 true (.op 4 true (.op 5 true (.op 6 true (.op 7 true (.op 8 true (.op 9 true (.op 10 true (.op 11 true (.op 12 true (.op 13 true (.op 14 true (.op 15 true (.op 16 true (.op 17 true (.op 18 true (.op 19 true (.op 20 false (.op 21 true (.op 22 true (.op 23 true (.op 24 true (.op 25 true (.op 26 true (.op 27 false (.op 28 true (.op 29 true (.op 30 true (.op 31 false (.op 32 true (.op 33 true (.done))))))))))))))))))))))))))))))))))) (by kernel_rfl) ?_)
    | ((first | (with_reducible apply WL_op; intro nx hnx) | with_reducible refine Ev_out ?_ | (with_reducible apply popsD_op; intro nx hnx) | (with_reducible refine popsD_alt ?_ ?_; intro nx hnx) | (with_reducible refine pfresh_k hnm fun nm hnm => ?_; (try simp only [fmb] at hnm)) | (with_reducible refine pborn_mu hnm fun nm hnm => ?_; (try simp only [fmb] at hnm)) | (with_reducible refine pmaybe_k ?_; intro bn hbn)); try (simp (maxSteps := 2000000) (disch := omega) only [evb, evd, pbuiltin, constPV, pnck, seqK, blockK, scopeK, pbin, pun, ppick, plen, piaddr, pindex, pfield, pslice, pbound, pconv, pelems, pextract, pmm, PV.mem?, PV.one, PV.cells, pageq, peqs, peq1, pmakes, pstore, pbytes, pmark, psrc, pkey, pnile, pcap, pgrow, List.set, Value.cells, ↓popG_eq, ↓pop.eq_1, ↓List.getElem?_map, ↓List.getElem?_cons_zero, ↓List.getElem?_cons_succ, Value.oneCell', Nat.reduceAdd, Nat.reduceMul, Nat.reduceSub, Nat.reduceLeDiff, Nat.reduceEqDiff, ↓reduceIte, ne_eq, reduceCtorEq, forall_const, exists_and_left, exists_eq_left', eq_self, Nat.reduceLT, Int.reduceLT, Int.reduceLE, Int.reduceToNat, Int.reduceAdd, Int.reduceSub, Int.reduceNeg, hnm, Try.tf0, Try.tf1, Try.tf2, Try.tf3, Try.tf4, Try.tf5, Try.tf22, Try.tf23, Try.tf24, Try.tf28, Try.tf33, Try.tf34, Try.tf35, Try.tf44, Try.tf65, Try.teq79, Try.call9, Try.call10, Try.call11, Try.call13, Try.call19, Try.call21, Try.call23, hu, hwr, pbyte]); repeat (refine And.intro (by omega) ?_))
    | ((with_reducible first | apply WL_nil | apply W_label | apply W_skip | apply W_exit | apply W_ret | apply popsD_done); try simp only [seqK, blockK, scopeK, ↓reduceIte, Nat.reduceEqDiff])
    | with_reducible exact popsD_stop
    | (with_reducible apply pguard_intro <;> (intro hc; (try simp only [hcb, reduceCtorEq, forall_const, ne_eq] at hc); first | (exfalso; omega) | (exfalso; exact hc trivial) | refine Ev_in ?_))
    | (with_reducible apply W_cond_k; intro _ _ ea eb; (simp only [condK, cob, opnd, constPV, Nat.reduceEqDiff, Nat.reduceLT, ↓reduceIte, hcb, reduceCtorEq, forall_const, ne_eq]); subst ea eb; first | (refine ⟨fun hc => ?_, fun hc => ?_⟩ <;> first | (exfalso; omega) | (exfalso; exact hc trivial) | skip) | skip)
    | (with_reducible apply hnx; clear hnx nx)
    | (with_reducible refine And.intro (by omega) ?_)
    | (with_reducible refine And.intro ?_ ?_)
    | (clear hnx nx; with_reducible apply hnx; clear hnx nx)
    | (clear hnx nx; clear hnx nx; with_reducible apply hnx; clear hnx nx)
    | (clear hnx nx; clear hnx nx; clear hnx nx; with_reducible apply hnx; clear hnx nx))
      all_goals first
        | exact absurd trivial hc
        | (exfalso
           omega)
        | skip
      refine hlp _ 0 _ (by omega) ?_ ⟨1, by simp, by simp, rfl⟩
      refine At_fr (by simp only [wkb, Nat.reduceEqDiff, Nat.reduceLT, ↓reduceIte, pn, List.map_cons, List.map_nil]) ?_
      refine Hs.perm ?_
      simp only [pn, Int.natCast_add, Int.cast_ofNat_Int]
      exact List.Perm.refl _
  · have hj0 : j = l.length := by omega
    subst hj0
    repeat' (first
    | (with_reducible apply W_seq_k; intro nx hnx)
    | (with_reducible first | apply W_block | apply W_scope)
    | (with_reducible refine W_prune 16776223 ?_; simp only [prb, Nat.reducePow, Nat.reduceDiv, Nat.reduceMod, Nat.reduceBEq]; first | (with_reducible apply W_region_l) | with_reducible refine W_region_draw (id := 19) 1 (.op 0 true (.op 1 true (.op 2 true (.op 3 true (.op 4 true (.op 5 true (.op 6 true (.op 7 true (.op 8 true (.done)))))))))) (by kernel_rfl) ?_ | with_reducible refine W_region_draw (id := 28) 3 (.op 0 true (.op 1 true (.op 2 true (.op 3 true (.op 4 true (.op 5 true (.op 6 true (.op 7 true (.op 8 true (.op 9 false (.op 10 true (.op 11 true (.op 12 true (.op 13 true (.op 14 true (.done)))))))))))))))) (by kernel_rfl) ?_ | with_reducible refine W_region_draw (id := 34) 1 (.op 0 true (.op 1 true (.op 2 true (.op 3 true (.op 4 true (.op 5 true (.op 6 true (.op 7 true (.op 8 true (.op 9 true (.op 10 true (.op 11 true (.op 12 true (.op 13 true (.op 14 true (.op 15 true (.op 16 true (.op 17 true (.op 18 true (.op 19 true (.op 20 true (.done)))))))))))))))))))))) (by kernel_rfl) ?_ | with_reducible refine W_region_draw (id := 37) 9 (.op 0 true (.op 1 true (.op 2 true (.op 3 true (.op 4 true (.op 5 true (.op 6 true (.op 7 true (.op 8 true (.op 9 true (.op 10 true (.op 11 true (.op 12 true (.op 13 true (.op 14 true (.op 15 true (.op 16 true (.op 17 true (.op 18 true (.op 19 true (.op 20 false (.op 21 true (.op 22 true (.op 23 true (.op 24 true (.op 25 true (.op 26 true (.op 27 false (.op 28 true (.op 29 true (.op 30 true (.op 31 false (.op 32 true (.op 33 true (.done))))))))))))))))))))))))))))))))))) (by kernel_rfl) ?_)
    | ((first | (with_reducible apply WL_op; intro nx hnx) | with_reducible refine Ev_out ?_ | (with_reducible apply popsD_op; intro nx hnx) | (with_reducible refine popsD_alt ?_ ?_; intro nx hnx) | (with_reducible refine pfresh_k hnm fun nm hnm => ?_; (try simp only [fmb] at hnm)) | (with_reducible refine pborn_mu hnm fun nm hnm => ?_; (try simp only [fmb] at hnm)) | (with_reducible refine pmaybe_k ?_; intro bn hbn)); try (simp (maxSteps := 2000000) (disch := omega) only [evb, evd, pbuiltin, constPV, pnck, seqK, blockK, scopeK, pbin, pun, ppick, plen, piaddr, pindex, pfield, pslice, pbound, pconv, pelems, pextract, pmm, PV.mem?, PV.one, PV.cells, pageq, peqs, peq1, pmakes, pstore, pbytes, pmark, psrc, pkey, pnile, pcap, pgrow, List.set, Value.cells, ↓popG_eq, ↓pop.eq_1, ↓List.getElem?_map, ↓List.getElem?_cons_zero, ↓List.getElem?_cons_succ, Value.oneCell', Nat.reduceAdd, Nat.reduceMul, Nat.reduceSub, Nat.reduceLeDiff, Nat.reduceEqDiff, ↓reduceIte, ne_eq, reduceCtorEq, forall_const, exists_and_left, exists_eq_left', eq_self, Nat.reduceLT, Int.reduceLT, Int.reduceLE, Int.reduceToNat, Int.reduceAdd, Int.reduceSub, Int.reduceNeg, hnm, Try.tf0, Try.tf1, Try.tf2, Try.tf3, Try.tf4, Try.tf5, Try.tf22, Try.tf23, Try.tf24, Try.tf28, Try.tf33, Try.tf34, Try.tf35, Try.tf44, Try.tf65, Try.teq79, Try.call9, Try.call10, Try.call11, Try.call13, Try.call19, Try.call21, Try.call23]); repeat (refine And.intro (by omega) ?_))
    | ((with_reducible first | apply WL_nil | apply W_label | apply W_skip | apply W_exit | apply W_ret | apply popsD_done); try simp only [seqK, blockK, scopeK, ↓reduceIte, Nat.reduceEqDiff])
    | with_reducible exact popsD_stop
    | (with_reducible apply pguard_intro <;> (intro hc; (try simp only [hcb, reduceCtorEq, forall_const, ne_eq] at hc); first | (exfalso; omega) | (exfalso; exact hc trivial) | refine Ev_in ?_))
    | (with_reducible apply W_cond_k; intro _ _ ea eb; (simp only [condK, cob, opnd, constPV, Nat.reduceEqDiff, Nat.reduceLT, ↓reduceIte, hcb, reduceCtorEq, forall_const, ne_eq]); subst ea eb; first | (refine ⟨fun hc => ?_, fun hc => ?_⟩ <;> first | (exfalso; omega) | (exfalso; exact hc trivial) | skip) | skip)
    | (with_reducible apply hnx; clear hnx nx)
    | (with_reducible refine And.intro (by omega) ?_)
    | (with_reducible refine And.intro ?_ ?_)
    | (clear hnx nx; with_reducible apply hnx; clear hnx nx)
    | (clear hnx nx; clear hnx nx; with_reducible apply hnx; clear hnx nx)
    | (clear hnx nx; clear hnx nx; clear hnx nx; with_reducible apply hnx; clear hnx nx))
    all_goals first
      | exact absurd trivial hc
      | (exfalso
         omega)
      | skip
    refine hK _ ?_
    refine At_fr (by simp only [wkb, Nat.reduceEqDiff, Nat.reduceLT, ↓reduceIte]) ?_
    exact Hs.refl _
set_option maxRecDepth 100000 in
set_option maxHeartbeats 8000000 in
theorem prog_pk0 (G : Globs) (key : UInt64) (a b nG : Int) (m0 m1 n i0 : Nat) (hi0 : i0 ≤ 50000) (hm0 : m0 ≤ 31) (hm1 : m1 ≤ 31) (s r : LE) (hs : OrdE i0 key (msgN m0) (msgN m1) r.got s) (hr : OrdE i0 key (msgN m1) (msgN m0) s.got r) (hh : r.held = []) (g0 : Nat) (Ha Hb : Heap) (hB : IsEnd b r Hb)
    (K : Exit → PState → Prop) (hK : ∀ σ' rj Hb', Jinv i0 key (msgN m0) (msgN m1) s r (outL s).1.length rj → IsEnd b rj Hb' → At σ' ⟨fr 176 ((18, pn 0) :: proL a b nG m0 m1 n), proO nG g0 rj.got (Hb' ++ Ha)⟩ → K .normal σ') :
    W Try.prog G [] (nav (Try.f6.body.getD .skip) [1, 1, 1, 1, 1, 1, 1, 0, 1, 0, 0, 1, 0, 0, 1, 0, 0, 1, 0, 0, 1]) ⟨fr 176 ((19, .list 1 ((outL s).1.map pl)) :: (18, pn 0) :: proL a b nG m0 m1 n), proO nG g0 r.got (Hb ++ Ha)⟩ K := by
  have hnm : True := trivial
  have hpk := hs.out
  have hJ0 := Jinv.zero hs hr hh
  simp only [Try.f6, nav, Option.getD_some]
  repeat' (first
    | (with_reducible apply W_seq_k; intro nx hnx)
    | (with_reducible first | apply W_block | apply W_scope)
    | (with_reducible refine W_prune 16776223 ?_; simp only [prb, Nat.reducePow, Nat.reduceDiv, Nat.reduceMod, Nat.reduceBEq]; first | (with_reducible apply W_region_l) | with_reducible refine W_region_draw (id := 19) 1 (.op 0 true (.op 1 true (.op 2 true (.op 3 true (.op 4 true (.op 5 true (.op 6 true (.op 7 true (.op 8 true (.done)))))))))) (by kernel_rfl) ?_ | with_reducible refine W_region_draw (id := 28) 3 (.op 0 true (.op 1 true (.op 2 true (.op 3 true (.op 4 true (.op 5 true (.op 6 true (.op 7 true (.op 8 true (.op 9 false (.op 10 true (.op 11 true (.op 12 true (.op 13 true (.op 14 true (.done)))))))))))))))) (by kernel_rfl) ?_ | with_reducible refine W_region_draw (id := 34) 1 (.op 0 true (.op 1 true (.op 2 true (.op 3 true (.op 4 true (.op 5 true (.op 6 true (.op 7 true (.op 8 true (.op 9 true (.op 10 true (.op 11 true (.op 12 true (.op 13 true (.op 14 true (.op 15 true (.op 16 true (.op 17 true (.op 18 true (.op 19 true (.op 20 true (.done)))))))))))))))))))))) (by kernel_rfl) ?_ | with_reducible refine W_region_draw (id := 37) 9 (.op 0 true (.op 1 true (.op 2 true (.op 3 true (.op 4 true (.op 5 true (.op 6 true (.op 7 true (.op 8 true (.op 9 true (.op 10 true (.op 11 true (.op 12 true (.op 13 true (.op 14 true (.op 15 true (.op 16 true (.op 17 true (.op 18 true (.op 19 true (.op 20 false (.op 21 true (.op 22 true (.op 23 true (.op 24 true (.op 25 true (.op 26 true (.op 27 false (.op 28 true (.op 29 true (.op 30 true (.op 31 false (.op 32 true (.op 33 true (.done))))))))))))))))))))))))))))))))))) (by kernel_rfl) ?_)
    | ((first | (with_reducible apply WL_op; intro nx hnx) | with_reducible refine Ev_out ?_ | (with_reducible apply popsD_op; intro nx hnx) | (with_reducible refine popsD_alt ?_ ?_; intro nx hnx) | (with_reducible refine pfresh_k hnm fun nm hnm => ?_; (try simp only [fmb] at hnm)) | (with_reducible refine pborn_mu hnm fun nm hnm => ?_; (try simp only [fmb] at hnm)) | (with_reducible refine pmaybe_k ?_; intro bn hbn)); try (simp (maxSteps := 2000000) (disch := omega) only [evb, evd, pbuiltin, constPV, pnck, seqK, blockK, scopeK, pbin, pun, ppick, plen, piaddr, pindex, pfield, pslice, pbound, pconv, pelems, pextract, pmm, PV.mem?, PV.one, PV.cells, pageq, peqs, peq1, pmakes, pstore, pbytes, pmark, psrc, pkey, pnile, pcap, pgrow, List.set, Value.cells, ↓popG_eq, ↓pop.eq_1, ↓List.getElem?_map, ↓List.getElem?_cons_zero, ↓List.getElem?_cons_succ, Value.oneCell', Nat.reduceAdd, Nat.reduceMul, Nat.reduceSub, Nat.reduceLeDiff, Nat.reduceEqDiff, ↓reduceIte, ne_eq, reduceCtorEq, forall_const, exists_and_left, exists_eq_left', eq_self, Nat.reduceLT, Int.reduceLT, Int.reduceLE, Int.reduceToNat, Int.reduceAdd, Int.reduceSub, Int.reduceNeg, hnm, Try.tf0, Try.tf1, Try.tf2, Try.tf3, Try.tf4, Try.tf5, Try.tf22, Try.tf23, Try.tf24, Try.tf28, Try.tf33, Try.tf34, Try.tf35, Try.tf44, Try.tf65, Try.teq79, Try.call9, Try.call10, Try.call11, Try.call13, Try.call19, Try.call21, Try.call23]); repeat (refine And.intro (by omega) ?_))
    | ((with_reducible first | apply WL_nil | apply W_label | apply W_skip | apply W_exit | apply W_ret | apply popsD_done); try simp only [seqK, blockK, scopeK, ↓reduceIte, Nat.reduceEqDiff])
    | with_reducible exact popsD_stop
    | (with_reducible apply pguard_intro <;> (intro hc; (try simp only [hcb, reduceCtorEq, forall_const, ne_eq] at hc); first | (exfalso; omega) | (exfalso; exact hc trivial) | refine Ev_in ?_))
    | (with_reducible apply W_cond_k; intro _ _ ea eb; (simp only [condK, cob, opnd, constPV, Nat.reduceEqDiff, Nat.reduceLT, ↓reduceIte, hcb, reduceCtorEq, forall_const, ne_eq]); subst ea eb; first | (refine ⟨fun hc => ?_, fun hc => ?_⟩ <;> first | (exfalso; omega) | (exfalso; exact hc trivial) | skip) | skip)
    | (with_reducible apply hnx; clear hnx nx)
    | (with_reducible refine And.intro (by omega) ?_)
    | (with_reducible refine And.intro ?_ ?_)
    | (clear hnx nx; with_reducible apply hnx; clear hnx nx)
    | (clear hnx nx; clear hnx nx; with_reducible apply hnx; clear hnx nx)
    | (clear hnx nx; clear hnx nx; clear hnx nx; with_reducible apply hnx; clear hnx nx))
  refine W_loop_at (fun z τ => ∃ (j : Nat) (rj : LE) (Hb : Heap), j ≤ (outL s).1.length ∧ z = (outL s).1.length - j ∧ Jinv i0 key (msgN m0) (msgN m1) s r j rj ∧ IsEnd b rj Hb ∧ τ = ⟨fr 176 ((20, pn j) :: (19, .list 1 ((outL s).1.map pl)) :: (18, pn 0) :: proL a b nG m0 m1 n), proO nG g0 rj.got (Hb ++ Ha)⟩) (outL s).1.length
    ⟨fr 176 ((20, pn 0) :: (19, .list 1 ((outL s).1.map pl)) :: (18, pn 0) :: proL a b nG m0 m1 n), proO nG g0 r.got (Hb ++ Ha)⟩ (by
    refine At_fr (by simp only [wkb, Nat.reduceEqDiff, Nat.reduceLT, ↓reduceIte, pn]) ?_
    exact Hs.refl _) ⟨0, r, Hb, by omega, by omega, hJ0, hB, rfl⟩ ?_
  clear hB hJ0
  rintro z τ ⟨j, rj, Hb, hj, rfl, hJ, hB, rfl⟩ lp hlp
  have hpl := hpk.2.1
  by_cases hjl : j < (outL s).1.length
  · obtain ⟨l, r', e1, e2, e3, e4, e5⟩ := hs.due hr (by omega) hJ hjl
    have hlen := (hpk.1 _ (List.getElem_mem hjl)).len (by rw [msgN_len]; omega) (by have := hr.pg; rw [msgN_len] at this; omega)
    have i1 := in_k G e1 hB (by omega) (hJ.ord.okE (by omega))
    have hgl := e5.ord.got
    rw [e3, msgN_len] at hgl
    have mg := fun Hb' K hK => prog_msgs G a b nG m0 m1 n 0 j g0 rj.got m0 (by omega) l (outL s).1 rj.got rfl hgl hm0 e2 e4 (Hb' ++ Ha) K hK
    simp only [Try.f6, nav, Option.getD_some] at mg ⊢
    generalize hP : (outL s).1 = P at *
    repeat' (first
    | (with_reducible refine W_at ?_ (mg Hb' _ ?_))
    | (with_reducible apply W_seq_k; intro nx hnx)
    | (with_reducible first | apply W_block | apply W_scope)
    | (with_reducible refine W_prune 16776223 ?_; simp only [prb, Nat.reducePow, Nat.reduceDiv, Nat.reduceMod, Nat.reduceBEq]; first | (with_reducible apply W_region_l) | with_reducible refine W_region_draw (id := 19) 1 (.op 0 true (.op 1 true (.op 2 true (.op 3 true (.op 4 true (.op 5 true (.op 6 true (.op 7 true (.op 8 true (.done)))))))))) (by kernel_rfl) ?_ | with_reducible refine W_region_draw (id := 28) 3 (.op 0 true (.op 1 true (.op 2 true (.op 3 true (.op 4 true (.op 5 true (.op 6 true (.op 7 true (.op 8 true (.op 9 false (.op 10 true (.op 11 true (.op 12 true (.op 13 true (.op 14 true (.done)))))))))))))))) (by kernel_rfl) ?_ | with_reducible refine W_region_draw (id := 34) 1 (.op 0 true (.op 1 true (.op 2 true (.op 3 true (.op 4 true (.op 5 true (.op 6 true (.op 7 true (.op 8 true (.op 9 true (.op 10 true (.op 11 true (.op 12 true (.op 13 true (.op 14 true (.op 15 true (.op 16 true (.op 17 true (.op 18 true (.op 19 true (.op 20 true (.done)))))))))))))))))))))) (by kernel_rfl) ?_ | with_reducible refine W_region_draw (id := 37) 9 (.op 0 true (.op 1 true (.op 2 true (.op 3 true (.op 4 true (.op 5 true (.op 6 true (.op 7 true (.op 8 true (.op 9 true (.op 10 true (.op 11 true (.op 12 true (.op 13 true (.op 14 true (.op 15 true (.op 16 true (.op 17 true (.op 18 true (.op 19 true (.op 20 false (.op 21 true (.op 22 true (.op 23 true (.op 24 true (.op 25 true (.op 26 true (.op 27 false (.op 28 true (.op 29 true (.op 30 true (.op 31 false (.op 32 true (.op 33 true (.done))))))))))))))))))))))))))))))))))) (by kernel_rfl) ?_)
    | ((first | (with_reducible apply WL_op; intro nx hnx) | with_reducible refine Ev_out ?_ | (with_reducible apply popsD_op; intro nx hnx) | (with_reducible refine popsD_alt ?_ ?_; intro nx hnx) | (with_reducible refine pfresh_k hnm fun nm hnm => ?_; (try simp only [fmb] at hnm)) | (with_reducible refine pborn_mu hnm fun nm hnm => ?_; (try simp only [fmb] at hnm)) | (with_reducible refine pmaybe_k ?_; intro bn hbn)); try (simp (maxSteps := 2000000) (disch := omega) only [evb, evd, pbuiltin, constPV, pnck, seqK, blockK, scopeK, pbin, pun, ppick, plen, piaddr, pindex, pfield, pslice, pbound, pconv, pelems, pextract, pmm, PV.mem?, PV.one, PV.cells, pageq, peqs, peq1, pmakes, pstore, pbytes, pmark, psrc, pkey, pnile, pcap, pgrow, List.set, Value.cells, ↓popG_eq, ↓pop.eq_1, ↓List.getElem?_map, ↓List.getElem?_cons_zero, ↓List.getElem?_cons_succ, Value.oneCell', Nat.reduceAdd, Nat.reduceMul, Nat.reduceSub, Nat.reduceLeDiff, Nat.reduceEqDiff, ↓reduceIte, ne_eq, reduceCtorEq, forall_const, exists_and_left, exists_eq_left', eq_self, Nat.reduceLT, Int.reduceLT, Int.reduceLE, Int.reduceToNat, Int.reduceAdd, Int.reduceSub, Int.reduceNeg, hnm, Try.tf0, Try.tf1, Try.tf2, Try.tf3, Try.tf4, Try.tf5, Try.tf22, Try.tf23, Try.tf24, Try.tf28, Try.tf33, Try.tf34, Try.tf35, Try.tf44, Try.tf65, Try.teq79, Try.call9, Try.call10, Try.call11, Try.call13, Try.call19, Try.call21, Try.call23]); repeat (refine And.intro (by omega) ?_))
    | ((with_reducible first | apply WL_nil | apply W_label | apply W_skip | apply W_exit | apply W_ret | apply popsD_done); try simp only [seqK, blockK, scopeK, ↓reduceIte, Nat.reduceEqDiff])
    | with_reducible exact popsD_stop
    | (with_reducible apply pguard_intro <;> (intro hc; (try simp only [hcb, reduceCtorEq, forall_const, ne_eq] at hc); first | (exfalso; omega) | (exfalso; exact hc trivial) | refine Ev_in ?_))
    | (with_reducible apply W_cond_k; intro _ _ ea eb; (simp only [condK, cob, opnd, constPV, Nat.reduceEqDiff, Nat.reduceLT, ↓reduceIte, hcb, reduceCtorEq, forall_const, ne_eq]); subst ea eb; first | (refine ⟨fun hc => ?_, fun hc => ?_⟩ <;> first | (exfalso; omega) | (exfalso; exact hc trivial) | skip) | skip)
    | (with_reducible apply hnx; clear hnx nx)
    | (with_reducible refine And.intro (by omega) ?_)
    | (with_reducible refine And.intro ?_ ?_)
    | (((with_reducible refine pcall_xb i1 ?_); rintro _ Hb' ⟨rfl, hB'⟩; refine Ev_in ?_))
    | (clear hnx nx; with_reducible apply hnx; clear hnx nx)
    | (clear hnx nx; clear hnx nx; with_reducible apply hnx; clear hnx nx)
    | (clear hnx nx; clear hnx nx; clear hnx nx; with_reducible apply hnx; clear hnx nx))
    all_goals first
      | exact absurd trivial hc
      | (exfalso
         omega)
      | (refine At_fr (by simp only [wkb, Nat.reduceEqDiff, Nat.reduceLT, ↓reduceIte]) ?_
         exact Hs.refl _)
      | skip
    all_goals
      intro σ' hat
      simp only [if_true] at hat
      rw [← e3] at hat
      refine hnx σ' (W_at hat ?_)
      clear hnx mg
      repeat' (first
    | (with_reducible apply W_seq_k; intro nx hnx)
    | (with_reducible first | apply W_block | apply W_scope)
    | (with_reducible refine W_prune 16776223 ?_; simp only [prb, Nat.reducePow, Nat.reduceDiv, Nat.reduceMod, Nat.reduceBEq]; first | (with_reducible apply W_region_l) | with_reducible refine W_region_draw (id := 19) 1 (.op 0 true (.op 1 true (.op 2 true (.op 3 true (.op 4 true (.op 5 true (.op 6 true (.op 7 true (.op 8 true (.done)))))))))) (by kernel_rfl) ?_ | with_reducible refine W_region_draw (id := 28) 3 (.op 0 true (.op 1 true (.op 2 true (.op 3 true (.op 4 true (.op 5 true (.op 6 true (.op 7 true (.op 8 true (.op 9 false (.op 10 true (.op 11 true (.op 12 true (.op 13 true (.op 14 true (.done)))))))))))))))) (by kernel_rfl) ?_ | with_reducible refine W_region_draw (id := 34) 1 (.op 0 true (.op 1 true (.op 2 true (.op 3 true (.op 4 true (.op 5 true (.op 6 true (.op 7 true (.op 8 true (.op 9 true (.op 10 true (.op 11 true (.op 12 true (.op 13 true (.op 14 true (.op 15 true (.op 16 true (.op 17 true (.op 18 true (.op 19 true (.op 20 true (.done)))))))))))))))))))))) (by kernel_rfl) ?_ | with_reducible refine W_region_draw (id := 37) 9 (.op 0 true (.op 1 true (.op 2 true (.op 3 true (.op 4 true (.op 5 true (.op 6 true (.op 7 true (.op 8 true (.op 9 true (.op 10 true (.op 11 true (.op 12 true (.op 13 true (.op 14 true (.op 15 true (.op 16 true (.op 17 true (.op 18 true (.op 19 true (.op 20 false (.op 21 true (.op 22 true (.op 23 true (.op 24 true (.op 25 true (.op 26 true (.op 27 false (.op 28 true (.op 29 true (.op 30 true (.op 31 false (.op 32 true (.op 33 true (.done))))))))))))))))))))))))))))))))))) (by kernel_rfl) ?_)
    | ((first | (with_reducible apply WL_op; intro nx hnx) | with_reducible refine Ev_out ?_ | (with_reducible apply popsD_op; intro nx hnx) | (with_reducible refine popsD_alt ?_ ?_; intro nx hnx) | (with_reducible refine pfresh_k hnm fun nm hnm => ?_; (try simp only [fmb] at hnm)) | (with_reducible refine pborn_mu hnm fun nm hnm => ?_; (try simp only [fmb] at hnm)) | (with_reducible refine pmaybe_k ?_; intro bn hbn)); try (simp (maxSteps := 2000000) (disch := omega) only [evb, evd, pbuiltin, constPV, pnck, seqK, blockK, scopeK, pbin, pun, ppick, plen, piaddr, pindex, pfield, pslice, pbound, pconv, pelems, pextract, pmm, PV.mem?, PV.one, PV.cells, pageq, peqs, peq1, pmakes, pstore, pbytes, pmark, psrc, pkey, pnile, pcap, pgrow, List.set, Value.cells, ↓popG_eq, ↓pop.eq_1, ↓List.getElem?_map, ↓List.getElem?_cons_zero, ↓List.getElem?_cons_succ, Value.oneCell', Nat.reduceAdd, Nat.reduceMul, Nat.reduceSub, Nat.reduceLeDiff, Nat.reduceEqDiff, ↓reduceIte, ne_eq, reduceCtorEq, forall_const, exists_and_left, exists_eq_left', eq_self, Nat.reduceLT, Int.reduceLT, Int.reduceLE, Int.reduceToNat, Int.reduceAdd, Int.reduceSub, Int.reduceNeg, hnm, Try.tf0, Try.tf1, Try.tf2, Try.tf3, Try.tf4, Try.tf5, Try.tf22, Try.tf23, Try.tf24, Try.tf28, Try.tf33, Try.tf34, Try.tf35, Try.tf44, Try.tf65, Try.teq79, Try.call9, Try.call10, Try.call11, Try.call13, Try.call19, Try.call21, Try.call23]); repeat (refine And.intro (by omega) ?_))
    | ((with_reducible first | apply WL_nil | apply W_label | apply W_skip | apply W_exit | apply W_ret | apply popsD_done); try simp only [seqK, blockK, scopeK, ↓reduceIte, Nat.reduceEqDiff])
    | with_reducible exact popsD_stop
    | (with_reducible apply pguard_intro <;> (intro hc; (try simp only [hcb, reduceCtorEq, forall_const, ne_eq] at hc); first | (exfalso; omega) | (exfalso; exact hc trivial) | refine Ev_in ?_))
    | (with_reducible apply W_cond_k; intro _ _ ea eb; (simp only [condK, cob, opnd, constPV, Nat.reduceEqDiff, Nat.reduceLT, ↓reduceIte, hcb, reduceCtorEq, forall_const, ne_eq]); subst ea eb; first | (refine ⟨fun hc => ?_, fun hc => ?_⟩ <;> first | (exfalso; omega) | (exfalso; exact hc trivial) | skip) | skip)
    | (with_reducible apply hnx; clear hnx nx)
    | (with_reducible refine And.intro (by omega) ?_)
    | (with_reducible refine And.intro ?_ ?_)
    | (clear hnx nx; with_reducible apply hnx; clear hnx nx)
    | (clear hnx nx; clear hnx nx; with_reducible apply hnx; clear hnx nx)
    | (clear hnx nx; clear hnx nx; clear hnx nx; with_reducible apply hnx; clear hnx nx))
      refine hlp _ (P.length - (j + 1)) _ (by omega) ?_ ⟨j + 1, r', Hb', by omega, rfl, e5, hB', rfl⟩
      refine At_fr (by simp only [wkb, Nat.reduceEqDiff, Nat.reduceLT, ↓reduceIte, pn]) ?_
      exact Hs.refl _
  · have hj0 : j = (outL s).1.length := by omega
    subst hj0
    repeat' (first
    | (with_reducible apply W_seq_k; intro nx hnx)
    | (with_reducible first | apply W_block | apply W_scope)
    | (with_reducible refine W_prune 16776223 ?_; simp only [prb, Nat.reducePow, Nat.reduceDiv, Nat.reduceMod, Nat.reduceBEq]; first | (with_reducible apply W_region_l) | with_reducible refine W_region_draw (id := 19) 1 (.op 0 true (.op 1 true (.op 2 true (.op 3 true (.op 4 true (.op 5 true (.op 6 true (.op 7 true (.op 8 true (.done)))))))))) (by kernel_rfl) ?_ | with_reducible refine W_region_draw (id := 28) 3 (.op 0 true (.op 1 true (.op 2 true (.op 3 true (.op 4 true (.op 5 true (.op 6 true (.op 7 true (.op 8 true (.op 9 false (.op 10 true (.op 11 true (.op 12 true (.op 13 true (.op 14 true (.done)))))))))))))))) (by kernel_rfl) ?_ | with_reducible refine W_region_draw (id := 34) 1 (.op 0 true (.op 1 true (.op 2 true (.op 3 true (.op 4 true (.op 5 true (.op 6 true (.op 7 true (.op 8 true (.op 9 true (.op 10 true (.op 11 true (.op 12 true (.op 13 true (.op 14 true (.op 15 true (.op 16 true (.op 17 true (.op 18 true (.op 19 true (.op 20 true (.done)))))))))))))))))))))) (by kernel_rfl) ?_ | with_reducible refine W_region_draw (id := 37) 9 (.op 0 true (.op 1 true (.op 2 true (.op 3 true (.op 4 true (.op 5 true (.op 6 true (.op 7 true (.op 8 true (.op 9 true (.op 10 true (.op 11 true (.op 12 true (.op 13 true (.op 14 true (.op 15 true (.op 16 true (.op 17 true (.op 18 true (.op 19 true (.op 20 false (.op 21 true (.op 22 true (.op 23 true (.op 24 true (.op 25 true (.op 26 true (.op 27 false (.op 28 true (.op 29 true (.op 30 true (.op 31 false (.op 32 true (.op 33 true (.done))))))))))))))))))))))))))))))))))) (by kernel_rfl) ?_)
    | ((first | (with_reducible apply WL_op; intro nx hnx) | with_reducible refine Ev_out ?_ | (with_reducible apply popsD_op; intro nx hnx) | (with_reducible refine popsD_alt ?_ ?_; intro nx hnx) | (with_reducible refine pfresh_k hnm fun nm hnm => ?_; (try simp only [fmb] at hnm)) | (with_reducible refine pborn_mu hnm fun nm hnm => ?_; (try simp only [fmb] at hnm)) | (with_reducible refine pmaybe_k ?_; intro bn hbn)); try (simp (maxSteps := 2000000) (disch := omega) only [evb, evd, pbuiltin, constPV, pnck, seqK, blockK, scopeK, pbin, pun, ppick, plen, piaddr, pindex, pfield, pslice, pbound, pconv, pelems, pextract, pmm, PV.mem?, PV.one, PV.cells, pageq, peqs, peq1, pmakes, pstore, pbytes, pmark, psrc, pkey, pnile, pcap, pgrow, List.set, Value.cells, ↓popG_eq, ↓pop.eq_1, ↓List.getElem?_map, ↓List.getElem?_cons_zero, ↓List.getElem?_cons_succ, Value.oneCell', Nat.reduceAdd, Nat.reduceMul, Nat.reduceSub, Nat.reduceLeDiff, Nat.reduceEqDiff, ↓reduceIte, ne_eq, reduceCtorEq, forall_const, exists_and_left, exists_eq_left', eq_self, Nat.reduceLT, Int.reduceLT, Int.reduceLE, Int.reduceToNat, Int.reduceAdd, Int.reduceSub, Int.reduceNeg, hnm, Try.tf0, Try.tf1, Try.tf2, Try.tf3, Try.tf4, Try.tf5, Try.tf22, Try.tf23, Try.tf24, Try.tf28, Try.tf33, Try.tf34, Try.tf35, Try.tf44, Try.tf65, Try.teq79, Try.call9, Try.call10, Try.call11, Try.call13, Try.call19, Try.call21, Try.call23]); repeat (refine And.intro (by omega) ?_))
    | ((with_reducible first | apply WL_nil | apply W_label | apply W_skip | apply W_exit | apply W_ret | apply popsD_done); try simp only [seqK, blockK, scopeK, ↓reduceIte, Nat.reduceEqDiff])
    | with_reducible exact popsD_stop
    | (with_reducible apply pguard_intro <;> (intro hc; (try simp only [hcb, reduceCtorEq, forall_const, ne_eq] at hc); first | (exfalso; omega) | (exfalso; exact hc trivial) | refine Ev_in ?_))
    | (with_reducible apply W_cond_k; intro _ _ ea eb; (simp only [condK, cob, opnd, constPV, Nat.reduceEqDiff, Nat.reduceLT, ↓reduceIte, hcb, reduceCtorEq, forall_const, ne_eq]); subst ea eb; first | (refine ⟨fun hc => ?_, fun hc => ?_⟩ <;> first | (exfalso; omega) | (exfalso; exact hc trivial) | skip) | skip)
    | (with_reducible apply hnx; clear hnx nx)
    | (with_reducible refine And.intro (by omega) ?_)
    | (with_reducible refine And.intro ?_ ?_)
    | (clear hnx nx; with_reducible apply hnx; clear hnx nx)
    | (clear hnx nx; clear hnx nx; with_reducible apply hnx; clear hnx nx)
    | (clear hnx nx; clear hnx nx; clear hnx nx; with_reducible apply hnx; clear hnx nx))
    all_goals first
      | exact absurd trivial hc
      | (exfalso
         omega)
      | skip
    refine hK _ rj Hb hJ hB ?_
    refine At_fr (by simp only [wkb, Nat.reduceEqDiff, Nat.reduceLT, ↓reduceIte]) ?_
    exact Hs.refl _
set_option maxRecDepth 100000 in
set_option maxHeartbeats 8000000 in
theorem prog_pk1 (G : Globs) (key : UInt64) (a b nG : Int) (m0 m1 n i0 : Nat) (hi0 : i0 ≤ 50000) (hm0 : m0 ≤ 31) (hm1 : m1 ≤ 31) (s r : LE) (hs : OrdE i0 key (msgN m1) (msgN m0) r.got s) (hr : OrdE i0 key (msgN m0) (msgN m1) s.got r) (hh : r.held = []) (g1 : Nat) (Ha Hb : Heap) (hA : IsEnd a r Ha)
    (K : Exit → PState → Prop) (hK : ∀ σ' rj Ha', Jinv i0 key (msgN m1) (msgN m0) s r (outL s).1.length rj → IsEnd a rj Ha' → At σ' ⟨fr 176 ((18, pn 1) :: proL a b nG m0 m1 n), proO nG rj.got g1 (Hb ++ Ha')⟩ → K .normal σ') :
    W Try.prog G [] (nav (Try.f6.body.getD .skip) [1, 1, 1, 1, 1, 1, 1, 0, 1, 0, 0, 1, 0, 0, 1, 0, 0, 1, 0, 0, 1]) ⟨fr 176 ((19, .list 1 ((outL s).1.map pl)) :: (18, pn 1) :: proL a b nG m0 m1 n), proO nG r.got g1 (Hb ++ Ha)⟩ K := by
  have hnm : True := trivial
  have hpk := hs.out
  have hJ0 := Jinv.zero hs hr hh
  simp only [Try.f6, nav, Option.getD_some]
  repeat' (first
    | (with_reducible apply W_seq_k; intro nx hnx)
    | (with_reducible first | apply W_block | apply W_scope)
    | (with_reducible refine W_prune 16776223 ?_; simp only [prb, Nat.reducePow, Nat.reduceDiv, Nat.reduceMod, Nat.reduceBEq]; first | (with_reducible apply W_region_l) | with_reducible refine W_region_draw (id := 19) 1 (.op 0 true (.op 1 true (.op 2 true (.op 3 true (.op 4 true (.op 5 true (.op 6 true (.op 7 true (.op 8 true (.done)))))))))) (by kernel_rfl) ?_ | with_reducible refine W_region_draw (id := 28) 3 (.op 0 true (.op 1 true (.op 2 true (.op 3 true (.op 4 true (.op 5 true (.op 6 true (.op 7 true (.op 8 true (.op 9 false (.op 10 true (.op 11 true (.op 12 true (.op 13 true (.op 14 true (.done)))))))))))))))) (by kernel_rfl) ?_ | with_reducible refine W_region_draw (id := 34) 1 (.op 0 true (.op 1 true (.op 2 true (.op 3 true (.op 4 true (.op 5 true (.op 6 true (.op 7 true (.op 8 true (.op 9 true (.op 10 true (.op 11 true (.op 12 true (.op 13 true (.op 14 true (.op 15 true (.op 16 true (.op 17 true (.op 18 true (.op 19 true (.op 20 true (.done)))))))))))))))))))))) (by kernel_rfl) ?_ | with_reducible refine W_region_draw (id := 37) 9 (.op 0 true (.op 1 true (.op 2 true (.op 3 true (.op 4 true (.op 5 true (.op 6 true (.op 7 true (.op 8 true (.op 9 true (.op 10 true (.op 11 true (.op 12 true (.op 13 true (.op 14 true (.op 15 true (.op 16 true (.op 17 true (.op 18 true (.op 19 true (.op 20 false (.op 21 true (.op 22 true (.op 23 true (.op 24 true (.op 25 true (.op 26 true (.op 27 false (.op 28 true (.op 29 true (.op 30 true (.op 31 false (.op 32 true (.op 33 true (.done))))))))))))))))))))))))))))))))))) (by kernel_rfl) ?_)
    | ((first | (with_reducible apply WL_op; intro nx hnx) | with_reducible refine Ev_out ?_ | (with_reducible apply popsD_op; intro nx hnx) | (with_reducible refine popsD_alt ?_ ?_; intro nx hnx) | (with_reducible refine pfresh_k hnm fun nm hnm => ?_; (try simp only [fmb] at hnm)) | (with_reducible refine pborn_mu hnm fun nm hnm => ?_; (try simp only [fmb] at hnm)) | (with_reducible refine pmaybe_k ?_; intro bn hbn)); try (simp (maxSteps := 2000000) (disch := omega) only [evb, evd, pbuiltin, constPV, pnck, seqK, blockK, scopeK, pbin, pun, ppick, plen, piaddr, pindex, pfield, pslice, pbound, pconv, pelems, pextract, pmm, PV.mem?, PV.one, PV.cells, pageq, peqs, peq1, pmakes, pstore, pbytes, pmark, psrc, pkey, pnile, pcap, pgrow, List.set, Value.cells, ↓popG_eq, ↓pop.eq_1, ↓List.getElem?_map, ↓List.getElem?_cons_zero, ↓List.getElem?_cons_succ, Value.oneCell', Nat.reduceAdd, Nat.reduceMul, Nat.reduceSub, Nat.reduceLeDiff, Nat.reduceEqDiff, ↓reduceIte, ne_eq, reduceCtorEq, forall_const, exists_and_left, exists_eq_left', eq_self, Nat.reduceLT, Int.reduceLT, Int.reduceLE, Int.reduceToNat, Int.reduceAdd, Int.reduceSub, Int.reduceNeg, hnm, Try.tf0, Try.tf1, Try.tf2, Try.tf3, Try.tf4, Try.tf5, Try.tf22, Try.tf23, Try.tf24, Try.tf28, Try.tf33, Try.tf34, Try.tf35, Try.tf44, Try.tf65, Try.teq79, Try.call9, Try.call10, Try.call11, Try.call13, Try.call19, Try.call21, Try.call23]); repeat (refine And.intro (by omega) ?_))
    | ((with_reducible first | apply WL_nil | apply W_label | apply W_skip | apply W_exit | apply W_ret | apply popsD_done); try simp only [seqK, blockK, scopeK, ↓reduceIte, Nat.reduceEqDiff])
    | with_reducible exact popsD_stop
    | (with_reducible apply pguard_intro <;> (intro hc; (try simp only [hcb, reduceCtorEq, forall_const, ne_eq] at hc); first | (exfalso; omega) | (exfalso; exact hc trivial) | refine Ev_in ?_))
    | (with_reducible apply W_cond_k; intro _ _ ea eb; (simp only [condK, cob, opnd, constPV, Nat.reduceEqDiff, Nat.reduceLT, ↓reduceIte, hcb, reduceCtorEq, forall_const, ne_eq]); subst ea eb; first | (refine ⟨fun hc => ?_, fun hc => ?_⟩ <;> first | (exfalso; omega) | (exfalso; exact hc trivial) | skip) | skip)
    | (with_reducible apply hnx; clear hnx nx)
    | (with_reducible refine And.intro (by omega) ?_)
    | (with_reducible refine And.intro ?_ ?_)
    | (clear hnx nx; with_reducible apply hnx; clear hnx nx)
    | (clear hnx nx; clear hnx nx; with_reducible apply hnx; clear hnx nx)
    | (clear hnx nx; clear hnx nx; clear hnx nx; with_reducible apply hnx; clear hnx nx))
  refine W_loop_at (fun z τ => ∃ (j : Nat) (rj : LE) (Ha : Heap), j ≤ (outL s).1.length ∧ z = (outL s).1.length - j ∧ Jinv i0 key (msgN m1) (msgN m0) s r j rj ∧ IsEnd a rj Ha ∧ τ = ⟨fr 176 ((20, pn j) :: (19, .list 1 ((outL s).1.map pl)) :: (18, pn 1) :: proL a b nG m0 m1 n), proO nG rj.got g1 (Hb ++ Ha)⟩) (outL s).1.length
    ⟨fr 176 ((20, pn 0) :: (19, .list 1 ((outL s).1.map pl)) :: (18, pn 1) :: proL a b nG m0 m1 n), proO nG r.got g1 (Hb ++ Ha)⟩ (by
    refine At_fr (by simp only [wkb, Nat.reduceEqDiff, Nat.reduceLT, ↓reduceIte, pn]) ?_
    exact Hs.refl _) ⟨0, r, Ha, by omega, by omega, hJ0, hA, rfl⟩ ?_
  clear hA hJ0
  rintro z τ ⟨j, rj, Ha, hj, rfl, hJ, hA, rfl⟩ lp hlp
  have hpl := hpk.2.1
  by_cases hjl : j < (outL s).1.length
  · obtain ⟨l, r', e1, e2, e3, e4, e5⟩ := hs.due hr (by omega) hJ hjl
    have hlen := (hpk.1 _ (List.getElem_mem hjl)).len (by rw [msgN_len]; omega) (by have := hr.pg; rw [msgN_len] at this; omega)
    have i1 := in_k G e1 hA (by omega) (hJ.ord.okE (by omega))
    have hgl := e5.ord.got
    rw [e3, msgN_len] at hgl
    have mg := fun Ha' K hK => prog_msgs G a b nG m0 m1 n 1 j rj.got g1 m1 (by omega) l (outL s).1 rj.got rfl hgl hm1 e2 e4 (Hb ++ Ha') K hK
    simp only [Try.f6, nav, Option.getD_some] at mg ⊢
    generalize hP : (outL s).1 = P at *
    repeat' (first
    | (with_reducible refine W_at ?_ (mg Ha' _ ?_))
    | (with_reducible apply W_seq_k; intro nx hnx)
    | (with_reducible first | apply W_block | apply W_scope)
    | (with_reducible refine W_prune 16776223 ?_; simp only [prb, Nat.reducePow, Nat.reduceDiv, Nat.reduceMod, Nat.reduceBEq]; first | (with_reducible apply W_region_l) | with_reducible refine W_region_draw (id := 19) 1 (.op 0 true (.op 1 true (.op 2 true (.op 3 true (.op 4 true (.op 5 true (.op 6 true (.op 7 true (.op 8 true (.done)))))))))) (by kernel_rfl) ?_ | with_reducible refine W_region_draw (id := 28) 3 (.op 0 true (.op 1 true (.op 2 true (.op 3 true (.op 4 true (.op 5 true (.op 6 true (.op 7 true (.op 8 true (.op 9 false (.op 10 true (.op 11 true (.op 12 true (.op 13 true (.op 14 true (.done)))))))))))))))) (by kernel_rfl) ?_ | with_reducible refine W_region_draw (id := 34) 1 (.op 0 true (.op 1 true (.op 2 true (.op 3 true (.op 4 true (.op 5 true (.op 6 true (.op 7 true (.op 8 true (.op 9 true (.op 10 true (.op 11 true (.op 12 true (.op 13 true (.op 14 true (.op 15 true (.op 16 true (.op 17 true (.op 18 true (.op 19 true (.op 20 true (.done)))))))))))))))))))))) (by kernel_rfl) ?_ | with_reducible refine W_region_draw (id := 37) 9 (.op 0 true (.op 1 true (.op 2 true (.op 3 true (.op 4 true (.op 5 true (.op 6 true (.op 7 true (.op 8 true (.op 9 true (.op 10 true (.op 11 true (.op 12 true (.op 13 true (.op 14 true (.op 15 true (.op 16 true (.op 17 true (.op 18 true (.op 19 true (.op 20 false (.op 21 true (.op 22 true (.op 23 true (.op 24 true (.op 25 true (.op 26 true (.op 27 false (.op 28 true (.op 29 true (.op 30 true (.op 31 false (.op 32 true (.op 33 true (.done))))))))))))))))))))))))))))))))))) (by kernel_rfl) ?_)
    | ((first | (with_reducible apply WL_op; intro nx hnx) | with_reducible refine Ev_out ?_ | (with_reducible apply popsD_op; intro nx hnx) | (with_reducible refine popsD_alt ?_ ?_; intro nx hnx) | (with_reducible refine pfresh_k hnm fun nm hnm => ?_; (try simp only [fmb] at hnm)) | (with_reducible refine pborn_mu hnm fun nm hnm => ?_; (try simp only [fmb] at hnm)) | (with_reducible refine pmaybe_k ?_; intro bn hbn)); try (simp (maxSteps := 2000000) (disch := omega) only [evb, evd, pbuiltin, constPV, pnck, seqK, blockK, scopeK, pbin, pun, ppick, plen, piaddr, pindex, pfield, pslice, pbound, pconv, pelems, pextract, pmm, PV.mem?, PV.one, PV.cells, pageq, peqs, peq1, pmakes, pstore, pbytes, pmark, psrc, pkey, pnile, pcap, pgrow, List.set, Value.cells, ↓popG_eq, ↓pop.eq_1, ↓List.getElem?_map, ↓List.getElem?_cons_zero, ↓List.getElem?_cons_succ, Value.oneCell', Nat.reduceAdd, Nat.reduceMul, Nat.reduceSub, Nat.reduceLeDiff, Nat.reduceEqDiff, ↓reduceIte, ne_eq, reduceCtorEq, forall_const, exists_and_left, exists_eq_left', eq_self, Nat.reduceLT, Int.reduceLT, Int.reduceLE, Int.reduceToNat, Int.reduceAdd, Int.reduceSub, Int.reduceNeg, hnm, Try.tf0, Try.tf1, Try.tf2, Try.tf3, Try.tf4, Try.tf5, Try.tf22, Try.tf23, Try.tf24, Try.tf28, Try.tf33, Try.tf34, Try.tf35, Try.tf44, Try.tf65, Try.teq79, Try.call9, Try.call10, Try.call11, Try.call13, Try.call19, Try.call21, Try.call23]); repeat (refine And.intro (by omega) ?_))
    | ((with_reducible first | apply WL_nil | apply W_label | apply W_skip | apply W_exit | apply W_ret | apply popsD_done); try simp only [seqK, blockK, scopeK, ↓reduceIte, Nat.reduceEqDiff])
    | with_reducible exact popsD_stop
    | (with_reducible apply pguard_intro <;> (intro hc; (try simp only [hcb, reduceCtorEq, forall_const, ne_eq] at hc); first | (exfalso; omega) | (exfalso; exact hc trivial) | refine Ev_in ?_))
    | (with_reducible apply W_cond_k; intro _ _ ea eb; (simp only [condK, cob, opnd, constPV, Nat.reduceEqDiff, Nat.reduceLT, ↓reduceIte, hcb, reduceCtorEq, forall_const, ne_eq]); subst ea eb; first | (refine ⟨fun hc => ?_, fun hc => ?_⟩ <;> first | (exfalso; omega) | (exfalso; exact hc trivial) | skip) | skip)
    | (with_reducible apply hnx; clear hnx nx)
    | (with_reducible refine And.intro (by omega) ?_)
    | (with_reducible refine And.intro ?_ ?_)
    | (((with_reducible refine pcall_xa i1 ?_); rintro _ Ha' ⟨rfl, hA'⟩; refine Ev_in ?_))
    | (clear hnx nx; with_reducible apply hnx; clear hnx nx)
    | (clear hnx nx; clear hnx nx; with_reducible apply hnx; clear hnx nx)
    | (clear hnx nx; clear hnx nx; clear hnx nx; with_reducible apply hnx; clear hnx nx))
    all_goals first
      | exact absurd trivial hc
      | (exfalso
         omega)
      | (refine At_fr (by simp only [wkb, Nat.reduceEqDiff, Nat.reduceLT, ↓reduceIte]) ?_
         exact Hs.refl _)
      | skip
    all_goals
      intro σ' hat
      simp only [Nat.one_ne_zero, if_false] at hat
      rw [← e3] at hat
      refine hnx σ' (W_at hat ?_)
      clear hnx mg
      repeat' (first
    | (with_reducible apply W_seq_k; intro nx hnx)
    | (with_reducible first | apply W_block | apply W_scope)
    | (with_reducible refine W_prune 16776223 ?_; simp only [prb, Nat.reducePow, Nat.reduceDiv, Nat.reduceMod, Nat.reduceBEq]; first | (with_reducible apply W_region_l) | with_reducible refine W_region_draw (id := 19) 1 (.op 0 true (.op 1 true (.op 2 true (.op 3 true (.op 4 true (.op 5 true (.op 6 true (.op 7 true (.op 8 true (.done)))))))))) (by kernel_rfl) ?_ | with_reducible refine W_region_draw (id := 28) 3 (.op 0 true (.op 1 true (.op 2 true (.op 3 true (.op 4 true (.op 5 true (.op 6 true (.op 7 true (.op 8 true (.op 9 false (.op 10 true (.op 11 true (.op 12 true (.op 13 true (.op 14 true (.done)))))))))))))))) (by kernel_rfl) ?_ | with_reducible refine W_region_draw (id := 34) 1 (.op 0 true (.op 1 true (.op 2 true (.op 3 true (.op 4 true (.op 5 true (.op 6 true (.op 7 true (.op 8 true (.op 9 true (.op 10 true (.op 11 true (.op 12 true (.op 13 true (.op 14 true (.op 15 true (.op 16 true (.op 17 true (.op 18 true (.op 19 true (.op 20 true (.done)))))))))))))))))))))) (by kernel_rfl) ?_ | with_reducible refine W_region_draw (id := 37) 9 (.op 0 true (.op 1 true (.op 2 true (.op 3 true (.op 4 true (.op 5 true (.op 6 true (.op 7 true (.op 8 true (.op 9 true (.op 10 true (.op 11 true (.op 12 true (.op 13 true (.op 14 true (.op 15 true (.op 16 true (.op 17 true (.op 18 true (.op 19 true (.op 20 false (.op 21 true (.op 22 true (.op 23 true (.op 24 true (.op 25 true (.op 26 true (.op 27 false (.op 28 true (.op 29 true (.op 30 true (.op 31 false (.op 32 true (.op 33 true (.done))))))))))))))))))))))))))))))))))) (by kernel_rfl) ?_)
    | ((first | (with_reducible apply WL_op; intro nx hnx) | with_reducible refine Ev_out ?_ | (with_reducible apply popsD_op; intro nx hnx) | (with_reducible refine popsD_alt ?_ ?_; intro nx hnx) | (with_reducible refine pfresh_k hnm fun nm hnm => ?_; (try simp only [fmb] at hnm)) | (with_reducible refine pborn_mu hnm fun nm hnm => ?_; (try simp only [fmb] at hnm)) | (with_reducible refine pmaybe_k ?_; intro bn hbn)); try (simp (maxSteps := 2000000) (disch := omega) only [evb, evd, pbuiltin, constPV, pnck, seqK, blockK, scopeK, pbin, pun, ppick, plen, piaddr, pindex, pfield, pslice, pbound, pconv, pelems, pextract, pmm, PV.mem?, PV.one, PV.cells, pageq, peqs, peq1, pmakes, pstore, pbytes, pmark, psrc, pkey, pnile, pcap, pgrow, List.set, Value.cells, ↓popG_eq, ↓pop.eq_1, ↓List.getElem?_map, ↓List.getElem?_cons_zero, ↓List.getElem?_cons_succ, Value.oneCell', Nat.reduceAdd, Nat.reduceMul, Nat.reduceSub, Nat.reduceLeDiff, Nat.reduceEqDiff, ↓reduceIte, ne_eq, reduceCtorEq, forall_const, exists_and_left, exists_eq_left', eq_self, Nat.reduceLT, Int.reduceLT, Int.reduceLE, Int.reduceToNat, Int.reduceAdd, Int.reduceSub, Int.reduceNeg, hnm, Try.tf0, Try.tf1, Try.tf2, Try.tf3, Try.tf4, Try.tf5, Try.tf22, Try.tf23, Try.tf24, Try.tf28, Try.tf33, Try.tf34, Try.tf35, Try.tf44, Try.tf65, Try.teq79, Try.call9, Try.call10, Try.call11, Try.call13, Try.call19, Try.call21, Try.call23]); repeat (refine And.intro (by omega) ?_))
    | ((with_reducible first | apply WL_nil | apply W_label | apply W_skip | apply W_exit | apply W_ret | apply popsD_done); try simp only [seqK, blockK, scopeK, ↓reduceIte, Nat.reduceEqDiff])
    | with_reducible exact popsD_stop
    | (with_reducible apply pguard_intro <;> (intro hc; (try simp only [hcb, reduceCtorEq, forall_const, ne_eq] at hc); first | (exfalso; omega) | (exfalso; exact hc trivial) | refine Ev_in ?_))
    | (with_reducible apply W_cond_k; intro _ _ ea eb; (simp only [condK, cob, opnd, constPV, Nat.reduceEqDiff, Nat.reduceLT, ↓reduceIte, hcb, reduceCtorEq, forall_const, ne_eq]); subst ea eb; first | (refine ⟨fun hc => ?_, fun hc => ?_⟩ <;> first | (exfalso; omega) | (exfalso; exact hc trivial) | skip) | skip)
    | (with_reducible apply hnx; clear hnx nx)
    | (with_reducible refine And.intro (by omega) ?_)
    | (with_reducible refine And.intro ?_ ?_)
    | (clear hnx nx; with_reducible apply hnx; clear hnx nx)
    | (clear hnx nx; clear hnx nx; with_reducible apply hnx; clear hnx nx)
    | (clear hnx nx; clear hnx nx; clear hnx nx; with_reducible apply hnx; clear hnx nx))
      refine hlp _ (P.length - (j + 1)) _ (by omega) ?_ ⟨j + 1, r', Ha', by omega, rfl, e5, hA', rfl⟩
      refine At_fr (by simp only [wkb, Nat.reduceEqDiff, Nat.reduceLT, ↓reduceIte, pn]) ?_
      exact Hs.refl _
  · have hj0 : j = (outL s).1.length := by omega
    subst hj0
    repeat' (first
    | (with_reducible apply W_seq_k; intro nx hnx)
    | (with_reducible first | apply W_block | apply W_scope)
    | (with_reducible refine W_prune 16776223 ?_; simp only [prb, Nat.reducePow, Nat.reduceDiv, Nat.reduceMod, Nat.reduceBEq]; first | (with_reducible apply W_region_l) | with_reducible refine W_region_draw (id := 19) 1 (.op 0 true (.op 1 true (.op 2 true (.op 3 true (.op 4 true (.op 5 true (.op 6 true (.op 7 true (.op 8 true (.done)))))))))) (by kernel_rfl) ?_ | with_reducible refine W_region_draw (id := 28) 3 (.op 0 true (.op 1 true (.op 2 true (.op 3 true (.op 4 true (.op 5 true (.op 6 true (.op 7 true (.op 8 true (.op 9 false (.op 10 true (.op 11 true (.op 12 true (.op 13 true (.op 14 true (.done)))))))))))))))) (by kernel_rfl) ?_ | with_reducible refine W_region_draw (id := 34) 1 (.op 0 true (.op 1 true (.op 2 true (.op 3 true (.op 4 true (.op 5 true (.op 6 true (.op 7 true (.op 8 true (.op 9 true (.op 10 true (.op 11 true (.op 12 true (.op 13 true (.op 14 true (.op 15 true (.op 16 true (.op 17 true (.op 18 true (.op 19 true (.op 20 true (.done)))))))))))))))))))))) (by kernel_rfl) ?_ | with_reducible refine W_region_draw (id := 37) 9 (.op 0 true (.op 1 true (.op 2 true (.op 3 true (.op 4 true (.op 5 true (.op 6 true (.op 7 true (.op 8 true (.op 9 true (.op 10 true (.op 11 true (.op 12 true (.op 13 true (.op 14 true (.op 15 true (.op 16 true (.op 17 true (.op 18 true (.op 19 true (.op 20 false (.op 21 true (.op 22 true (.op 23 true (.op 24 true (.op 25 true (.op 26 true (.op 27 false (.op 28 true (.op 29 true (.op 30 true (.op 31 false (.op 32 true (.op 33 true (.done))))))))))))))))))))))))))))))))))) (by kernel_rfl) ?_)
    | ((first | (with_reducible apply WL_op; intro nx hnx) | with_reducible refine Ev_out ?_ | (with_reducible apply popsD_op; intro nx hnx) | (with_reducible refine popsD_alt ?_ ?_; intro nx hnx) | (with_reducible refine pfresh_k hnm fun nm hnm => ?_; (try simp only [fmb] at hnm)) | (with_reducible refine pborn_mu hnm fun nm hnm => ?_; (try simp only [fmb] at hnm)) | (with_reducible refine pmaybe_k ?_; intro bn hbn)); try (simp (maxSteps := 2000000) (disch := omega) only [evb, evd, pbuiltin, constPV, pnck, seqK, blockK, scopeK, pbin, pun, ppick, plen, piaddr, pindex, pfield, pslice, pbound, pconv, pelems, pextract, pmm, PV.mem?, PV.one, PV.cells, pageq, peqs, peq1, pmakes, pstore, pbytes, pmark, psrc, pkey, pnile, pcap, pgrow, List.set, Value.cells, ↓popG_eq, ↓pop.eq_1, ↓List.getElem?_map, ↓List.getElem?_cons_zero, ↓List.getElem?_cons_succ, Value.oneCell', Nat.reduceAdd, Nat.reduceMul, Nat.reduceSub, Nat.reduceLeDiff, Nat.reduceEqDiff, ↓reduceIte, ne_eq, reduceCtorEq, forall_const, exists_and_left, exists_eq_left', eq_self, Nat.reduceLT, Int.reduceLT, Int.reduceLE, Int.reduceToNat, Int.reduceAdd, Int.reduceSub, Int.reduceNeg, hnm, Try.tf0, Try.tf1, Try.tf2, Try.tf3, Try.tf4, Try.tf5, Try.tf22, Try.tf23, Try.tf24, Try.tf28, Try.tf33, Try.tf34, Try.tf35, Try.tf44, Try.tf65, Try.teq79, Try.call9, Try.call10, Try.call11, Try.call13, Try.call19, Try.call21, Try.call23]); repeat (refine And.intro (by omega) ?_))
    | ((with_reducible first | apply WL_nil | apply W_label | apply W_skip | apply W_exit | apply W_ret | apply popsD_done); try simp only [seqK, blockK, scopeK, ↓reduceIte, Nat.reduceEqDiff])
    | with_reducible exact popsD_stop
    | (with_reducible apply pguard_intro <;> (intro hc; (try simp only [hcb, reduceCtorEq, forall_const, ne_eq] at hc); first | (exfalso; omega) | (exfalso; exact hc trivial) | refine Ev_in ?_))
    | (with_reducible apply W_cond_k; intro _ _ ea eb; (simp only [condK, cob, opnd, constPV, Nat.reduceEqDiff, Nat.reduceLT, ↓reduceIte, hcb, reduceCtorEq, forall_const, ne_eq]); subst ea eb; first | (refine ⟨fun hc => ?_, fun hc => ?_⟩ <;> first | (exfalso; omega) | (exfalso; exact hc trivial) | skip) | skip)
    | (with_reducible apply hnx; clear hnx nx)
    | (with_reducible refine And.intro (by omega) ?_)
    | (with_reducible refine And.intro ?_ ?_)
    | (clear hnx nx; with_reducible apply hnx; clear hnx nx)
    | (clear hnx nx; clear hnx nx; with_reducible apply hnx; clear hnx nx)
    | (clear hnx nx; clear hnx nx; clear hnx nx; with_reducible apply hnx; clear hnx nx))
    all_goals first
      | exact absurd trivial hc
      | (exfalso
         omega)
      | skip
    refine hK _ rj Ha hJ hA ?_
    refine At_fr (by simp only [wkb, Nat.reduceEqDiff, Nat.reduceLT, ↓reduceIte]) ?_
    exact Hs.refl _
end Go.PM

namespace Go.PM
open Go.Proofs
attribute [local irreducible] W PCalls pcall pcallI WL
end Go.PM

namespace Go.PM
open Go.Proofs
attribute [local irreducible] W PCalls pcall pcallI WL
end Go.PM

namespace Go.PM
open Go.Proofs
attribute [local irreducible] W PCalls pcall pcallI WL
end Go.PM

namespace Go.PM
open Go.Proofs
attribute [local irreducible] W PCalls pcall pcallI WL
end Go.PM

namespace Go.PM
open Go.Proofs
theorem look_in {H : Heap} {n : Int} {o : PObj} (h : (n, o) ∈ H) (nd : (names H).Nodup) : look H n = some o := by
  induction H with
  | nil => cases h
  | cons x r ih =>
    obtain ⟨m, q⟩ := x
    simp only [names, List.map_cons, List.nodup_cons] at nd
    rcases List.mem_cons.1 h with h | h
    · cases h
      simp only [look, if_true]
    · have hne : ¬ m = n := fun e => nd.1 (e ▸ List.mem_map.2 ⟨_, h, rfl⟩)
      simp only [look, if_neg hne]
      exact ih h nd.2
/-- An end's cells. -/
@[reducible] def endC (w m : Int) (s : LE) : List PV := [pint .i64 s.win, pq s.key, .row w 1 s.wait.length, pint .i64 s.acked, pint .i64 s.got, .mp m, pbool s.owing, pint .i64 s.forged]
attribute [local irreducible] W PCalls pcall pcallI WL
set_option maxRecDepth 100000 in
set_option maxHeartbeats 8000000 in
theorem waiting_i (G : Globs) (w m : Int) (s : LE) : PCalls Try.prog G 21 [.iptr (endC w m s) 0] [] (fun res H => res = pint .i64 s.wait.length ∧ H = []) := by
  (refine PCalls_f Try.func21 rfl Try.ntmps21 Try.results21 (by simp) fun fin hfin => ?_; have hnm : True := trivial; simp (maxSteps := 2000000) (disch := omega) only [evb, evd, pbuiltin, constPV, pnck, seqK, blockK, scopeK, pbin, pun, ppick, plen, piaddr, pindex, pfield, pslice, pbound, pconv, pelems, pextract, pmm, PV.mem?, PV.one, PV.cells, pageq, peqs, peq1, pmakes, pstore, pbytes, pmark, psrc, pkey, pnile, pcap, pgrow, List.set, Value.cells, ↓popG_eq, ↓pop.eq_1, ↓List.getElem?_map, ↓List.getElem?_cons_zero, ↓List.getElem?_cons_succ, Value.oneCell', Nat.reduceAdd, Nat.reduceMul, Nat.reduceSub, Nat.reduceLeDiff, Nat.reduceEqDiff, ↓reduceIte, ne_eq, reduceCtorEq, forall_const, exists_and_left, exists_eq_left', eq_self, Nat.reduceLT, Int.reduceLT, Int.reduceLE, Int.reduceToNat, Int.reduceAdd, Int.reduceSub, Int.reduceNeg, hnm, Try.tf0, Try.tf2, Try.tf3, Try.tf5, Try.tf28, Try.tf33, Try.tf35, Try.tf65, Try.teq79])
  repeat' (first
    | (with_reducible apply W_seq_k; intro nx hnx)
    | (with_reducible first | apply W_block | apply W_scope)
    | (with_reducible refine W_prune 5 ?_; simp only [prb, Nat.reducePow, Nat.reduceDiv, Nat.reduceMod, Nat.reduceBEq]; with_reducible apply W_region_l)
    | ((first | (with_reducible apply WL_op; intro nx hnx) | with_reducible refine Ev_out ?_); try (simp (maxSteps := 2000000) (disch := omega) only [evb, evd, pbuiltin, constPV, pnck, seqK, blockK, scopeK, pbin, pun, ppick, plen, piaddr, pindex, pfield, pslice, pbound, pconv, pelems, pextract, pmm, PV.mem?, PV.one, PV.cells, pageq, peqs, peq1, pmakes, pstore, pbytes, pmark, psrc, pkey, pnile, pcap, pgrow, List.set, Value.cells, ↓popG_eq, ↓pop.eq_1, ↓List.getElem?_map, ↓List.getElem?_cons_zero, ↓List.getElem?_cons_succ, Value.oneCell', Nat.reduceAdd, Nat.reduceMul, Nat.reduceSub, Nat.reduceLeDiff, Nat.reduceEqDiff, ↓reduceIte, ne_eq, reduceCtorEq, forall_const, exists_and_left, exists_eq_left', eq_self, Nat.reduceLT, Int.reduceLT, Int.reduceLE, Int.reduceToNat, Int.reduceAdd, Int.reduceSub, Int.reduceNeg, hnm, Try.tf0, Try.tf2, Try.tf3, Try.tf5, Try.tf28, Try.tf33, Try.tf35, Try.tf65, Try.teq79]); repeat (refine And.intro (by omega) ?_))
    | ((with_reducible first | apply WL_nil | apply W_label | apply W_skip | apply W_exit | apply W_ret); try simp only [seqK, blockK, scopeK, ↓reduceIte, Nat.reduceEqDiff])
    | (with_reducible apply W_cond_k; intro _ _ ea eb; (simp only [condK, cob, opnd, constPV, Nat.reduceEqDiff, Nat.reduceLT, ↓reduceIte, hcb, reduceCtorEq, forall_const, ne_eq]); subst ea eb; first | (refine ⟨fun hc => ?_, fun hc => ?_⟩ <;> first | (exfalso; omega) | (exfalso; exact hc trivial) | skip) | skip)
    | (with_reducible apply hnx; clear hnx nx)
    | (with_reducible refine And.intro (by omega) ?_)
    | (with_reducible refine And.intro ?_ ?_)
    | (clear hnx nx; with_reducible apply hnx; clear hnx nx)
    | (clear hnx nx; clear hnx nx; with_reducible apply hnx; clear hnx nx)
    | (clear hnx nx; clear hnx nx; clear hnx nx; with_reducible apply hnx; clear hnx nx))
  refine hfin _ _ (Fin_ret1 rfl (Sub_nil _) ?_); simp only [List.getD_cons_zero, List.getD_cons_succ, fr_getD_cons, fr_getD_nil, Nat.reduceEqDiff, Nat.reduceLT, ↓reduceIte]
  exact ⟨by trivial, by trivial⟩
section
variable {P : Program} {G : Globs} {σ : PState} {fn : FuncId} {d : Option Tmp} {K : PState → Prop} {q : Bool}
/-- A call that looks at an end alone. -/
theorem pcall_look {n : Int} {o : PObj} {v : Value} (hl : look σ.heap n = some o) (hc : PCalls P G fn [.iptr o.cells 0] [] (fun res H => res = .val v ∧ H = [])) (hk : K (PState.put σ d (.val v))) : @pcallI q P G σ d fn [.ptr n 0] ⟨K⟩ := by
  refine pcall_lend n o hl (R := fun res H => res = .val v ∧ H = []) ?_ ?_
  · simpa [frz1] using hc
  · rintro res H ⟨rfl, rfl⟩
    exact ⟨rfl, .val v, hk⟩
end
end Go.PM

namespace Go.PM
open Go.Proofs
attribute [local irreducible] W PCalls pcall pcallI WL
theorem RunI.up {i j : Nat} {key : UInt64} {ra rb : RE} {sent : List (List UInt8)} {to : List Nat} (h : RunI i key ra rb sent to) (hij : i ≤ j) : RunI j key ra rb sent to :=
  ⟨h.a.up hij, h.b.up hij, by have := h.len; omega, h.tolen, h.pk, h.two⟩
end Go.PM

namespace Go.PM
open Go.Proofs
attribute [local irreducible] W PCalls pcall pcallI WL
section
variable {P : Program} {G : Globs} {I : List Int} {code : Code} {K : Exit → PState → Prop} {F : List PV} {B : Heap}
end
end Go.PM
