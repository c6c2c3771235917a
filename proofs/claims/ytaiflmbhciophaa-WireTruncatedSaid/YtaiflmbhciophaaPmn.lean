/- The pure machine, part n: copy, slices' literals, calls; one operation, several, a region in the text's order. Conditions: none. -/
import Derived.Test.YtaiflmbhciophaaPmm
set_option linter.unusedSimpArgs false
set_option linter.unusedVariables false
namespace Go.PM
open Go.RowKit

section
variable {P : Program} {G : Globs} {E : Amb} {A : Nat → Prop} {σ : PState} {a : Act} {w : World} {o : Oper} {K : PState → Prop} {q : Bool}

theorem upd_self {n : Int} {o : PObj} : ∀ {H : Heap}, look H n = some o → upd H n o = H
  | [], h => by simp [look] at h
  | (m, y) :: r, h => by
    simp only [look] at h
    simp only [upd]
    split
    · rename_i e; rw [if_pos e] at h; cases h; subst e; rfl
    · rename_i hne; rw [if_neg hne] at h; rw [upd_self h]

theorem pcopy_core {t u : TypeId} {s x : Operand} (hs : Sim G E A σ a w) (ho : o.op = .call { callee := .builtin .copy, args := #[s, x], argTypes := #[t, u] }) {e : TypeId} {es eb : Nat} {F : TF} (hF : tf P t = some F) (hti : F.ti = .slice e es eb)
    {m : Nat} {ys : List PV} (hsrc : psrc P σ.heap u es (opnd G σ.frame x) = some (m, ys)) {n : Int} {off len : Nat} {ob : PObj} (hl : look σ.heap n = some ob) (hoff : off + len * es ≤ ob.cells.length)
    (hv : (len = 0 ∧ ∃ ad c, a.eval s = .slice ad 0 c) ∨ ∃ b c : Nat, n = b ∧ a.eval s = .slice (some (at_ b off)) len c)
    (hk : K (PState.put ⟨σ.frame, upd σ.heap n { ob with cells := ob.cells.take off ++ ys.take (min m len * es) ++ ob.cells.drop (off + min m len * es) }⟩ o.dst (pint .i64 (min m len : Nat)))) : Steps1 P G E false o K a w := by
  obtain ⟨hu, i, hi, his, _⟩ := tf_slice hF hti
  subst his
  obtain ⟨news, hs1, hyl, hy⟩ := psrc_sound (hs.opnd x) (fun n o h => hs.objs n o (look_mem h)) hsrc
  have hmin : Nat.min m len = min m len := rfl
  have hf := hs1.first (min m len) (Nat.min_le_left _ _) w (Keeps.refl w)
  have hle : min m len * i.size ≤ m * i.size := Nat.mul_le_mul_right _ (Nat.min_le_left _ _)
  have hle2 : min m len * i.size ≤ len * i.size := Nat.mul_le_mul_right _ (Nat.min_le_right _ _)
  have hyn : ys.length = m * i.size := by rw [hyl, hs1.count]
  have hnn : news.length = m * i.size := hs1.count
  rcases hv with ⟨rfl, ad, c, hv⟩ | ⟨b, c, rfl, hv⟩
  · simp only [Nat.min_zero, Nat.zero_mul, List.take_zero, List.append_nil, Nat.add_zero, List.take_append_drop] at hk hf
    rw [upd_self (show look σ.heap n = some { ob with cells := ob.cells } from hl)] at hk
    refine ⟨_, w, _, A, .inl ?_, hk, hs.put o.dst (.val _), fun h => by cases h⟩
    unfold execOp
    have hst : ∀ w', Sem.run P (match ad with | some a => storeCells a ([] : List Value) | none => pure ()) w' = .ok () w' := by intro w'; cases ad <;> rfl
    cases ad <;> simp [ho, resolve, invoke, builtin, Builtin.copy_, run_underlying hu, hv, hs1.len, sizeOf, typeInfo, hi, hf, storeCells, goInt]
  · obtain ⟨cur, fz, f, hh, hun, hg, hc⟩ := (hs.objs _ ob (look_mem hl)).block rfl
    have hcl : ob.cells.length ≤ cur.size := by
      rcases Nat.lt_or_ge cur.size ob.cells.length with h | h
      · have := (hc cur.size _ (List.getElem?_eq_getElem h)).1
        simp at this
      · exact h
    have htl : (ys.take (min m len * i.size)).length = min m len * i.size := by rw [List.length_take, hyn, Nat.min_eq_left hle]
    have hvl : (news.take (min m len * i.size)).length = min m len * i.size := by rw [List.length_take, hnn, Nat.min_eq_left hle]
    have hst := hs.store (vs := news.take (min m len * i.size)) (xs := ys.take (min m len * i.size)) (off := off) hl rfl (by rw [htl, hvl]) (by omega) (.inl (by rw [htl]; omega)) (fun j p hp => by
      rw [List.getElem?_take] at hp
      split at hp
      · rename_i hj
        obtain ⟨h1, v, hv, hr⟩ := hy j p hp
        exact ⟨h1, v, by rw [List.getElem?_take, if_pos hj]; exact hv, hr⟩
      · cases hp)
    rw [htl] at hst
    have hone : ∀ v ∈ news.take (min m len * i.size), v.oneCell' = true := by
      intro v hv
      obtain ⟨j, hj, rfl⟩ := List.getElem_of_mem (List.mem_of_mem_take hv)
      have hj' : j < ys.length := by omega
      obtain ⟨h1, v', hv', hr⟩ := hy j _ (List.getElem?_eq_getElem hj')
      rw [List.getElem?_eq_getElem hj] at hv'
      cases hv'
      exact (one_cells h1 hr).2
    have hrun := run_storeCells_cells (P := P) b off (news.take (min m len * i.size)) 0 w (fun j hj => by
      have : off + 0 + j < cur.size := by rw [hvl] at hj; omega
      simp [World.cell?, hh]; omega) (fun j hj => by
      have hlt : off + 0 + j < cur.size := by rw [hvl] at hj; omega
      have := hun (off + 0 + j) hlt
      obtain ⟨lo, hi⟩ := fz
      simp [World.frozen?, hh]
      simp at this
      exact this) hone
    have hrun' : Sem.run P (storeCells (at_ b off) (news.take (min m len * i.size)) 0) w = .ok () (w.setCells b off (news.take (min m len * i.size))) := by simpa using hrun
    refine ⟨_, _, _, A, .inl ?_, hk, hst.put o.dst (.val _), fun h => by cases h⟩
    unfold execOp
    simp [ho, resolve, invoke, builtin, Builtin.copy_, run_underlying hu, hv, hs1.len, sizeOf, typeInfo, hi, hmin, hf, hrun', goInt]

theorem pcopy_sound {t u : TypeId} {s x : Operand} (hs : Sim G E A σ a w) (ho : o.op = .call { callee := .builtin .copy, args := #[s, x], argTypes := #[t, u] })
    (h : pcopy P σ o.dst t u (opnd G σ.frame s) (opnd G σ.frame x) K) : Steps1 P G E false o K a w := by
  unfold pcopy at h
  split at h
  · rename_i e es eb s1 s2 s3 s4 hF
    split at h
    · rename_i m ys hsrc
      have hsr := hs.opnd s
      split at h
      · rename_i n es' len hse
        rw [hse] at hsr
        split at h
        · rename_i ob hl
          obtain ⟨rfl, hoff, hk⟩ := h
          refine pcopy_core (off := 0) (len := len) hs ho hF rfl hsrc hl (by omega) ?_ (by simpa using hk)
          rcases hsr.row_inv with ⟨hn, rfl, hv⟩ | ⟨b, c, N, t', hn, hv, _⟩
          · exact .inl ⟨rfl, _, _, hv⟩
          · exact .inr ⟨b, c, hn, hv⟩
        · exact h.elim
      · rename_i n es' off len hse
        rw [hse] at hsr
        split at h
        · rename_i ob hl
          obtain ⟨rfl, hoff, hk⟩ := h
          refine pcopy_core (off := off) (len := len) hs ho hF rfl hsrc hl hoff ?_ hk
          rcases hsr.sub_inv with ⟨rfl, ad, c, hv⟩ | ⟨b, c, hn, hv, _⟩
          · exact .inl ⟨rfl, _, _, hv⟩
          · exact .inr ⟨b, c, hn, hv⟩
        · exact h.elim
      · exact h.elim
    · exact h.elim
  · exact h.elim

/-- []T{..} -/
def pbuildS (P : Program) (σ : PState) (d : Option Tmp) (t : TypeId) (len : Nat) (parts : List (Nat × PV)) (K : PState → Prop) : Prop :=
  match tf P t with
  | some ⟨.slice e es _, _, _, _, _⟩ => match tf P e with
    | some Fe => match Fe.zero with
      | some z => match pfill (fun i => some (i * es, es)) (times len (vcells z)) parts with
        | some cs => len * es ≤ 16777216 ∧ z.cells.size = es ∧ 0 < es ∧ cs.all PV.one = true ∧ @pfresh (names σ.heap) ⟨fun n => K (PState.put ⟨σ.frame, (n, ⟨e, true, es, cs⟩) :: σ.heap⟩ d (.row n es len))⟩
        | none => False
      | none => False
    | none => False
  | _ => False

theorem pfill_length {place : Nat → Option (Nat × Nat)} : ∀ (ps : List (Nat × PV)) (cs out : List PV), pfill place cs ps = some out → out.length = cs.length
  | [], cs, out, h => by simp [pfill] at h; rw [h]
  | (i, x) :: ps, cs, out, h => by
    simp only [pfill] at h
    split at h
    · split at h
      · rename_i hc
        rw [pfill_length ps _ out h]
        simp
        omega
      · cases h
    · cases h

theorem pbuildS_sound {t : TypeId} {len : Nat} {parts : Array (Nat × Operand)} (hs : Sim G E A σ a w) (ho : o.op = .buildSlice t len parts) (h : pbuildS P σ o.dst t len (parts.toList.map fun p => (p.1, opnd G σ.frame p.2)) K) :
    Steps1 P G E q o K a w := by
  unfold pbuildS at h
  split at h
  · rename_i e es eb s1 s2 s3 s4 hF
    obtain ⟨hu, i, hi, his, _⟩ := tf_slice hF rfl
    subst his
    split at h
    · rename_i Fe hFe
      split at h
      · rename_i z hz
        split at h
        · rename_i cs hfill
          obtain ⟨hle, hzs, hes, h1, hk⟩ := h
          obtain ⟨res, hf, hres⟩ := fill_reps (w := w) (A := A) (place := fun i' => some (i' * i.size, i.size)) (place' := fun i' => some (i' * i.size, i.size)) (fun _ _ _ h => h) _ (parts.toList.map fun p => (p.1, a.eval p.2)) _ _ cs (times_reps z len i.size hzs) (by simp)
            (fun k p hk => by
              rw [List.getElem?_map] at hk
              cases hj : parts.toList[k]? with
              | none => rw [hj] at hk; cases hk
              | some r =>
                rw [hj] at hk
                cases hk
                refine ⟨a.eval r.2, ?_, hs.opnd r.2⟩
                rw [List.getElem?_map, hj]
                rfl) hfill
          have hrsz : res.size = len * i.size := by
            rw [hres.1, pfill_length _ _ _ hfill, times_length]
            simp [vcells, hzs]
          refine step_new hs hres (fun u hu => List.all_eq_true.1 h1 u hu) e true i.size (fun n => .row n i.size len) (fun b => .slice (some (at_ b 0)) len len)
            (fun w' hsh => Rep.row _ _ _ _ _ e hsh hrsz (Nat.le_refl _) (by
              have : len ≤ len * i.size := Nat.le_mul_of_pos_right _ hes
              simp only [maxLen]; omega)) ?_ hk
          have hz0 := zero_run hFe hz
          have hmap : (parts.map fun x => (x.1, a.eval x.2)).toList = parts.toList.map fun p => (p.1, a.eval p.2) := by simp
          unfold execOp
          simp only [ho, Instr.buildSlice, Sem.run_bind, run_underlying hu, Result.andThen_ok, sizeOf, typeInfo, run_program, hi, Sem.run_pure]
          rw [if_neg (by omega)]
          split
          · rename_i h0
            have hf0 : Instr.fill (fun i' => some (i' * i.size, i.size)) (Array.map (fun x => (#[] : Array Value)[x % (#[] : Array Value).size]!) (Array.range (len * i.size))) (parts.map fun x => (x.1, a.eval x.2)).toList = some res := by
              have e0 : ∀ g h : Nat → Value, Array.map g (Array.range 0) = Array.map h (Array.range 0) := by
                intro g h
                apply Array.ext
                · simp
                · intro k h1; simp at h1
              rw [hmap, ← hf, h0]
              exact congrArg (fun c => Instr.fill (fun i' => some (i' * i.size, i.size)) c (parts.toList.map fun p => (p.1, a.eval p.2))) (e0 _ _)
            simp only [Sem.run_bind, Sem.run_pure, Result.andThen_ok, hf0]
            simp [newRow, newObj, Sem.run]
          · rw [← hmap] at hf
            simp only [Sem.run_bind, hz0, Result.andThen_ok, Sem.run_pure, hf]
            simp [newRow, newObj, Sem.run]
        · exact h.elim
      · exact h.elim
    · exact h.elim
  · exact h.elim

/-- What holds when a call has come back. -/
def CallEnd (G : Globs) (E : Amb) (q : Bool) (a : Act) (w : World) (d : Option Tmp) (K : PState → Prop) (e : Ending) (w' : World) : Prop :=
  ∃ v σ' A', e = .returned v ∧ K σ' ∧ Sim G E A' σ' (a.put d v) w' ∧ (q = true → Keeps w w')

/-- A call of function fn with the pure arguments args, from the state σ. -/
def pcall (q : Bool) (P : Program) (G : Globs) (σ : PState) (d : Option Tmp) (fn : FuncId) (args : List PV) (K : PState → Prop) : Prop :=
  ∀ E A a w (vals : Array Value), Sim G E A σ a w → vals.size = args.length → (∀ (i : Nat) (p : PV), args[i]? = some p → ∃ v : Value, vals[i]? = some v ∧ Rep w A p v) →
    Calls P fn vals w (CallEnd G E q a w d K)

/-- What follows, where it is not looked at. -/
class Cont where
  k : PState → Prop

def pcallI (q : Bool) (P : Program) (G : Globs) (σ : PState) (d : Option Tmp) (fn : FuncId) (args : List PV) [c : Cont] : Prop := pcall q P G σ d fn args c.k

/-- the function has a body of its own -/
def callable (P : Program) (f : FuncId) : Bool :=
  match P.funcs[f]? with
  | some fn => fn.body.isSome && !(fn.name == "runtime.NumGoroutine")
  | none => false

theorem callable_run {f : FuncId} (h : callable P f = true) (args : Array Value) (w : World) : Sem.run P (callFunc f args) w = .ok (.enter f args) w := by
  unfold callable at h
  split at h
  · rename_i fn hf
    simp only [Bool.and_eq_true, Bool.not_eq_true'] at h
    have hb : fn.body.isNone = false := by
      cases hq : fn.body with
      | none => rw [hq] at h; simp at h
      | some c => rfl
    have hne : fn.name ≠ "runtime.NumGoroutine" := by simpa using h.2
    have hbn : fn.body ≠ none := by intro e; rw [e] at hb; cases hb
    unfold callFunc
    simp [hf, hne, hbn]
  · cases h

/-- a builtin -/
def pbuiltin (q : Bool) (P : Program) (G : Globs) (d : Option Tmp) (b : Builtin) (args : List Operand) (ts : List TypeId) (σ : PState) (K : PState → Prop) : Prop :=
  match b with
  | .len => match args, ts with
    | [x], [t] => plen P t (opnd G σ.frame x) fun r => K (σ.put d r)
    | _, _ => False
  | .append => match args, ts with
    | [x, y], [t, u] => q = false ∧ pappend P σ d t u (opnd G σ.frame x) (opnd G σ.frame y) K
    | _, _ => False
  | .copy => match args, ts with
    | [x, y], [t, u] => q = false ∧ pcopy P σ d t u (opnd G σ.frame x) (opnd G σ.frame y) K
    | _, _ => False
  | .min => pmm true (args.map (opnd G σ.frame)) fun r => K (σ.put d r)
  | .max => pmm false (args.map (opnd G σ.frame)) fun r => K (σ.put d r)
  | _ => False

/-- What is not nil. -/
def pnck (x : PV) (K : PV → Prop) : Prop :=
  match x with
  | .ptr n off => K (.ptr n off)
  | .iptr cs off => K (.iptr cs off)
  | .func f caps => K (.func f caps)
  | _ => False

/-- one operation -/
def pop (q : Bool) (P : Program) (G : Globs) (o : Oper) (σ : PState) (K : PState → Prop) : Prop :=
  match o.op with
  | .move x => K (σ.put o.dst (opnd G σ.frame x))
  | .assign x => K (σ.put o.dst (opnd G σ.frame x))
  | .pick c x y => ppick (opnd G σ.frame c) (opnd G σ.frame x) (opnd G σ.frame y) fun r => K (σ.put o.dst r)
  | .alloc t => palloc P σ o.dst t K
  | .box t x => pbox σ o.dst t (opnd G σ.frame x) K
  | .build t ps => pbuild P t (ps.toList.map fun p => (p.1, opnd G σ.frame p.2)) fun r => K (σ.put o.dst r)
  | .buildSlice t n ps => pbuildS P σ o.dst t n (ps.toList.map fun p => (p.1, opnd G σ.frame p.2)) K
  | .load t x => pldop P σ.heap t (opnd G σ.frame x) fun r => K (σ.put o.dst r)
  | .store t x y => q = false ∧ pstore P σ o.dst t (opnd G σ.frame x) (opnd G σ.frame y) K
  | .nilCheck x => pnck (opnd G σ.frame x) fun r => K (σ.put o.dst r)
  | .binOp op t x y _ => match opnd G σ.frame x, op with
    | .agg _, .eql => pageq P false t (opnd G σ.frame x) (opnd G σ.frame y) fun r => K (σ.put o.dst r)
    | .agg _, .neq => pageq P true t (opnd G σ.frame x) (opnd G σ.frame y) fun r => K (σ.put o.dst r)
    | .val (.bool _), .eql => pageq P false t (opnd G σ.frame x) (opnd G σ.frame y) fun r => K (σ.put o.dst r)
    | .val (.bool _), .neq => pageq P true t (opnd G σ.frame x) (opnd G σ.frame y) fun r => K (σ.put o.dst r)
    | _, _ => pbin op (opnd G σ.frame x) (opnd G σ.frame y) fun r => K (σ.put o.dst r)
  | .unOp op _ x => pun op (opnd G σ.frame x) fun r => K (σ.put o.dst r)
  | .convert s d x => match tf P s, tf P d with
    | some ⟨.string, _, _, _, _⟩, some ⟨.slice _ _ _, _, _, _, _⟩ => pbytes P σ o.dst s d (opnd G σ.frame x) K
    | _, _ => pconv P σ.heap s d (opnd G σ.frame x) fun r => K (σ.put o.dst r)
  | .sliceToArrayPointer t x => parr P t (opnd G σ.frame x) fun r => K (σ.put o.dst r)
  | .makeFunc fn first cs => match fn, first.toList with
    | .func f, [] => K (σ.put o.dst (.func f (cs.toList.map (opnd G σ.frame))))
    | _, _ => False
  | .makeSlice t l c => pmakes P σ o.dst t (opnd G σ.frame l) (opnd G σ.frame c) K
  | .slice t x lo hi mx => pslice P t (opnd G σ.frame x) (lo.map (opnd G σ.frame)) (hi.map (opnd G σ.frame)) (mx.map (opnd G σ.frame)) fun r => K (σ.put o.dst r)
  | .fieldAddr t x k => pfaddr P t (opnd G σ.frame x) k fun r => K (σ.put o.dst r)
  | .field t x k => pfield P t (opnd G σ.frame x) k fun r => K (σ.put o.dst r)
  | .indexAddr t x i => piaddr P t (opnd G σ.frame x) (opnd G σ.frame i) fun r => K (σ.put o.dst r)
  | .index t x i => pindex P t (opnd G σ.frame x) (opnd G σ.frame i) fun r => K (σ.put o.dst r)
  | .extract x k => pextract (opnd G σ.frame x) k fun r => K (σ.put o.dst r)
  | .call c => match c.callee with
    | .builtin b => pbuiltin q P G o.dst b c.args.toList c.argTypes.toList σ K
    | .value f => match opnd G σ.frame f with
      | .func fn caps => callable P fn = true ∧ @pcallI q P G σ o.dst fn (c.args.toList.map (opnd G σ.frame) ++ caps) ⟨K⟩
      | _ => False
    | .invoke _ _ => False
  | _ => False

theorem wp_of_gives {p : PV → Prop} {next : Act → World → Prop} {Q : Exit → Act → World → Prop} (hs : Sim G E A σ a w) (h : ∃ r, K (σ.put o.dst r) ∧ Gives P w A a.eval o r)
    (hn : ∀ σ' A' a' w', K σ' → Sim G E A' σ' a' w' → (q = true → Keeps w w') → next a' w') : o.wp P a w next Q := by
  obtain ⟨r, hk, v, hr, hrun⟩ := h
  unfold Oper.wp
  rw [hrun w (Keeps.refl w)]
  exact hn _ A _ _ hk (hs.put o.dst hr) (fun _ => Keeps.refl w)

theorem wp_of_steps {next : Act → World → Prop} {Q : Exit → Act → World → Prop} (h : Steps1 P G E q o K a w) (hn : ∀ σ' A' a' w', K σ' → Sim G E A' σ' a' w' → (q = true → Keeps w w') → next a' w') : o.wp P a w next Q := by
  obtain ⟨v, w1, σ', A', hrun, hk, hs, hq⟩ := h
  unfold Oper.wp
  rcases hrun with hrun | ⟨hrun, rfl⟩
  · rw [hrun]; exact hn _ _ _ _ hk hs hq
  · rw [hrun]; exact hn _ _ _ _ hk hs hq
end
end Go.PM
