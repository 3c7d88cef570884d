/- Part 3 of the walks and plain lemmas that the claim rests on. -/
import Derived.Laws.RangeAny
import Derived.Lib.LazyBuf
import Derived.Maps.Views
import Derived.OrdersIn
import Derived.RangeFuncLeaves
import Derived.RangeFuncNested
import Derived.Scope
import Derived.Shelf.Strings.Cut
import Derived.Test.YtfdnhjfbbggmiaaGreatDoorP2
section
namespace Go.Eng
open Go Go.RowKit
set_option linter.unusedVariables false
set_option linter.unusedSimpArgs false
variable {r : Option Nat} {n N : Nat} {P : Program} {D : List Deferred} {E : Env} {H : World → Prop} {Q : Exit → Act → World → Prop} {ops : Array Oper} {rest : List Oper}
variable {w0 : World} {Rs L ZL : List Res} {dst : Option Nat} {d : Nat} {ty : TypeId} {ps : String} {af : Array Edge} {op : Op}

/-! ## 1. && and || in a line of operations -/
def Env.fresh (k : Nat) : Env → Bool
  | [] => true
  | (j, _) :: E => bif Nat.beq k j then false else Env.fresh k E
theorem Env.get_of_fresh {k : Nat} : ∀ {E : Env}, E.fresh k = true → E.get k = none
  | [], _ => rfl
  | (j, v) :: E, h => by
    simp only [Env.fresh] at h
    cases hb : Nat.beq k j with
    | true => simp [hb] at h
    | false => simp [hb] at h; simp [Env.get, hb, Env.get_of_fresh h]
/-- E1 is E with more slots ahead. -/
inductive Keep : Env → Env → Prop
  | kn {E : Env} : Keep E E
  | kc {k : Nat} {v : Value} {E1 E : Env} (h : E.fresh k = true) (t : Keep E1 E) : Keep ((k, v) :: E1) E
theorem Keep.get {E1 E : Env} (h : Keep E1 E) : ∀ i v, E.get i = some v → E1.get i = some v := by
  induction h with
  | kn => exact fun _ _ h => h
  | @kc k u E1 E hf _ ih =>
    intro i v hi
    simp only [Env.get]
    cases hb : Nat.beq i k with
    | true => have := Nat.eq_of_beq_eq_true hb; subst this; rw [Env.get_of_fresh hf] at hi; cases hi
    | false => simpa using ih i v hi
abbrev CutQ (N : Nat) (D : List Deferred) (E : Env) (H : World → Prop) (Q : Exit → Act → World → Prop) : Exit → Act → World → Prop := Exit.then (fun a W => Has N D E a ∧ H W) Q
theorem uponIn_then {F : Fence} {o : Oper} {a : Act} {nx K : Act → World → Prop} (res : Result Next) : o.uponIn F n P a nx (Exit.then K Q) res = o.uponIn F n P a nx Q res := by
  unfold Oper.uponIn
  split <;> rfl
theorem wpListIn_append {F : Fence} : ∀ (l1 l2 : List Oper) (a : Act) (W : World), wpListIn F n P ops (Exit.then (fun a W => wpListIn F n P ops Q l2 a W) Q) l1 a W → wpListIn F n P ops Q (l1 ++ l2) a W
  | [], l2, a, W, h => h
  | o :: l1, l2, a, W, h => by
    unfold wpListIn at h
    rw [List.cons_append]; unfold wpListIn
    split at h
    · rename_i hw; rw [if_pos hw]
      unfold Oper.wpIn at h ⊢
      rw [uponIn_then] at h
      exact Oper.wpIn_mono (fun a' w' h' => wpListIn_append l1 l2 a' w' h') h
    · rename_i hw; rw [if_neg hw]
      exact ⟨h.1, wpListIn_append l1 l2 _ W h.2⟩
theorem wpListIn_weak {F : Fence} {K K' : Act → World → Prop} : ∀ (l : List Oper) (a : Act) (W : World), wpListIn F n P ops (Exit.then K Q) l a W → (∀ a W, K a W → K' a W) → wpListIn F n P ops (Exit.then K' Q) l a W
  | [], a, W, h, k => k a W h
  | o :: l, a, W, h, k => by
    unfold wpListIn at h ⊢
    split at h
    · rename_i hw; rw [if_pos hw]
      unfold Oper.wpIn at h ⊢
      rw [uponIn_then] at h ⊢
      exact Oper.wpIn_mono (fun a' w' h' => wpListIn_weak l a' w' h' k) h
    · rename_i hw; rw [if_neg hw]
      exact ⟨h.1, wpListIn_weak l _ W h.2 k⟩
theorem xl_cut (m : Nat) {E' : Env} {H' : World → Prop} {l : List Oper} (h1 : XL r n P ops (CutQ N D E' H' Q) (l.take m) N D E H) (h2 : XL r n P ops Q (l.drop m) N D E' H') : XL r n P ops Q l N D E H := fun a W ha hw => by
  rw [← List.take_append_drop m l]
  refine wpListIn_append _ _ _ _ ?_
  have h3 := h1 a W ha hw
  refine wpListIn_weak _ _ _ h3 fun a W ⟨h4, h5⟩ => h2 a W h4 h5

theorem xl_or {c w : Bool} (m d : Nat) {l : List Oper} (yes : c = false → XL r n P ops (CutQ N D ((d, .bool (c || w)) :: E) H Q) (l.take m) N D E H) (no : c = true → XL r n P ops (CutQ N D ((d, .bool (c || w)) :: E) H Q) (l.take m) N D E H)
    (k : XL r n P ops Q (l.drop m) N D ((d, .bool (c || w)) :: E) H) : XL r n P ops Q l N D E H := xl_cut m (by cases hc : c with | true => subst hc; exact no rfl | false => subst hc; exact yes rfl) k
theorem xl_and {c w : Bool} (m d : Nat) {l : List Oper} (yes : c = true → XL r n P ops (CutQ N D ((d, .bool (c && w)) :: E) H Q) (l.take m) N D E H) (no : c = false → XL r n P ops (CutQ N D ((d, .bool (c && w)) :: E) H Q) (l.take m) N D E H)
    (k : XL r n P ops Q (l.drop m) N D ((d, .bool (c && w)) :: E) H) : XL r n P ops Q l N D E H := xl_cut m (by cases hc : c with | true => subst hc; exact yes rfl | false => subst hc; exact no rfl) k
theorem xq_cut {E1 : Env} {H1 : World → Prop} {v u : Value} (hv : v = u) (hk : Keep E1 E) (hH : ∀ W, H1 W → H W) : XQ (CutQ N D ((d, u) :: E) H Q) .normal N D ((d, v) :: E1) H1 := fun a W ha hw => by
  subst hv
  exact ⟨ha.weaken fun i u hi => by
    simp only [Env.get] at hi ⊢
    cases hb : Nat.beq i d with
    | true => simpa [hb] using hi
    | false => simp [hb] at hi ⊢; exact hk.get i u hi, hH W hw⟩
theorem or_yes {c w : Bool} (hc : c = false) : Value.bool w = .bool (c || w) := by subst hc; rfl
theorem or_no {c w : Bool} (hc : c = true) : Value.bool true = .bool (c || w) := by subst hc; rfl
theorem and_yes {c w : Bool} (hc : c = true) : Value.bool w = .bool (c && w) := by subst hc; rfl
theorem and_no {c w : Bool} (hc : c = false) : Value.bool false = .bool (c && w) := by subst hc; rfl
theorem xq_or_yes {E1 : Env} {H1 : World → Prop} {c w : Bool} (hc : c = false) (hk : Keep E1 E) (hH : ∀ W, H1 W → H W) : XQ (CutQ N D ((d, .bool (c || w)) :: E) H Q) .normal N D ((d, .bool w) :: E1) H1 := xq_cut (or_yes hc) hk hH
theorem xq_or_no {E1 : Env} {H1 : World → Prop} {c w : Bool} (hc : c = true) (hk : Keep E1 E) (hH : ∀ W, H1 W → H W) : XQ (CutQ N D ((d, .bool (c || w)) :: E) H Q) .normal N D ((d, .bool true) :: E1) H1 := xq_cut (or_no hc) hk hH
theorem xq_and_yes {E1 : Env} {H1 : World → Prop} {c w : Bool} (hc : c = true) (hk : Keep E1 E) (hH : ∀ W, H1 W → H W) : XQ (CutQ N D ((d, .bool (c && w)) :: E) H Q) .normal N D ((d, .bool w) :: E1) H1 := xq_cut (and_yes hc) hk hH
theorem xq_and_no {E1 : Env} {H1 : World → Prop} {c w : Bool} (hc : c = false) (hk : Keep E1 E) (hH : ∀ W, H1 W → H W) : XQ (CutQ N D ((d, .bool (c && w)) :: E) H Q) .normal N D ((d, .bool false) :: E1) H1 := xq_cut (and_no hc) hk hH

/-! ## 2. Lists of slots -/
theorem sn : E.sub [] := trivial
theorem sc {i : Nat} {v : Value} {E' : Env} (h : E.get i = some v) (t : E.sub E') : E.sub ((i, v) :: E') := ⟨h, t⟩
/-- Whatever is known is forgotten but for E'. -/
theorem xc_keep {c : Code} (E' : Env) (hs : E.sub E') (h : XC r n P c Q N D E' H) : XC r n P c Q N D E H := h.sub hs (fun _ h => h)

/-! ## 3. Conversions -/
variable {T S : TypeId} {q q' : IntKind} {a : Int}
theorem cvi {s : TypeDesc} (hs : P.underlying S = some s) (ht : P.underlying T = some (.int q')) : ConvOK P S T (.int q a) (.int q' (q'.wrap a)) := fun w => by
  simp [convert, run_underlying hs, run_underlying ht, Conv.intToInt]
/-- The bytes of a text, of the call's own. -/
def byteCells (s : ByteArray) : List Value := s.toList.map fun b => .int .u8 b.toNat
def markR (b : Nat) (T : TypeId) (vs : List Value) : Res where
  fp := fun k => k = b
  ok := fun W => ∃ lo hi, W.heap[b]? = some (.cells vs.toArray T (lo, hi)) ∧ vs.length ≤ lo
  loc := fun W W' h ⟨lo, hi, hk, hl⟩ => ⟨lo, hi, by rw [h b rfl]; exact hk, hl⟩
theorem byteCells_length (s : ByteArray) : (byteCells s).length = s.size := by simp [byteCells, ByteArray.toList_eq]
theorem markR_cells {W : World} {b T : Nat} {vs : List Value} (h : (markR b T vs).ok W) : Cells W b 0 vs := fun i v hv => by
  obtain ⟨lo, hi, h1, _⟩ := h
  simp [World.cell?, h1, hv]
theorem cvb {e : Nat} {x : Operand} {s : ByteArray} (hs : P.underlying S = some .string) (hd : P.underlying T = some (.slice e)) (he : P.underlying e = some (.int .u8)) (hx : E.ev x = some (.string s)) :
    OpE r n P (.convert S T x) ty E (HP w0 Rs) (fun p : Nat × Nat => .slice (some ⟨p.1, 0, none⟩) s.size p.2) (fun p => s.size ≤ p.2) (fun p => HP w0 (markR p.1 e (byteCells s ++ List.replicate (p.2 - s.size) (.int .u8 0)) :: Rs)) :=
  OpE.of_run (by simp) (fun ρ W ho hw => by
    have e1 := ho x (by simp [Op.operands]) _ hx
    have hr := run_bytes_of_string (P := P) W S T e s hs hd he
    have hge : s.size ≤ grownCap W s.size 0 e := grownCap_ge W s.size 0 e
    have hbr : bytesRow s (grownCap W s.size 0 e) = (byteCells s ++ List.replicate (grownCap W s.size 0 e - s.size) (Value.int .u8 0)).toArray := by
      simp [bytesRow, byteCells, ByteArray.toList_eq]
    rw [hbr] at hr
    refine ⟨(W.heap.size, grownCap W s.size 0 e), _, fun d p af g => by simp [execOp, e1, hr]; rfl, hge, hw.add _ (((Below.refl _ W).drew).alloc (Nat.le_refl _) _) ?_ ?_⟩
    · exact ⟨_, _, heap_alloc_new W.drew _, Nat.le_of_eq (by simp)⟩
    · intro b hb; simp only [markR] at hb; subst hb; simp)
/-- Bytes as a text. -/
theorem byteCells_get {s : ByteArray} {l : List UInt8} (h : l = s.data.toList) : byteCells s = l.map fun b => .int .u8 b.toNat := by subst h; simp [byteCells, ByteArray.toList_eq]
theorem cvs {e n c : Nat} {A : Option Addr} {x : Operand} {s : ByteArray} (hs : P.underlying S = some (.slice e)) (he : P.underlying e = some (.int .u8)) (hd : P.underlying T = some .string) (hx : E.ev x = some (.slice A n c))
    (hr : ∀ W, H W → RowA W 1 A n (byteCells s)) : OpP P (.convert S T x) ty E H (.string s) :=
  ⟨by simp, fun ρ W ho hw d p af g => by
    have e1 := ho x (by simp [Op.operands]) _ hx
    obtain ⟨h1, h2, h3⟩ := hr W hw
    rw [byteCells_length, Nat.mul_one] at h1
    have key : (convert S T (.slice A n c)).run P W = .ok (.string s) W := by
      rcases Nat.eq_zero_or_pos n with h0 | h0
      · have hse : s = ByteArray.empty := by
          exact ByteArray.size_eq_zero_iff.1 (by omega)
        subst hse
        cases A with
        | none => exact run_convert_bytes_nil W S e hs he n c T hd
        | some ad =>
          have := run_convert_bytes_back (P := P) W S T e ad c [] hs he hd (by simp)
          subst h0
          rw [show ByteArray.empty = (⟨#[]⟩ : ByteArray) from rfl]
          simpa using this
      · obtain ⟨b, off, rfl, hc⟩ := h3 h0
        have := run_convert_bytes_back (P := P) W S T e ⟨b, off, none⟩ c s.data.toList hs he hd (fun j hj => by
          rw [Addr.add_lit]
          exact hc j _ (by simp only [byteCells, ByteArray.toList_eq, List.getElem?_map]; rw [List.getElem?_eq_getElem hj]; rfl))
        have hl : s.data.toList.length = n := by simp; exact h1
        rw [hl] at this
        rw [this]
    simp [execOp, e1, key]⟩
theorem markR_row {W : World} {b e cap : Nat} {s : ByteArray} {vs : List Value} (h : (markR b e (byteCells s ++ vs)).ok W) (hs : s.size ≤ 9223372036854775807) : RowA W 1 (some ⟨b, 0, none⟩) s.size (byteCells s) :=
  ⟨by simp [byteCells_length], hs, fun _ => ⟨b, 0, rfl, fun i v hv => markR_cells h i v (by rw [List.getElem?_append_left]; exact hv; exact (List.getElem?_eq_some_iff.1 hv).1)⟩⟩
theorem HP.markCell {W : World} {b e : Nat} {vs : List Value} {f : Res → List Res} (h : HP w0 Rs W) (hp : Pos Rs (markR b e vs) f) : Cells W b 0 vs := markR_cells (h.mem_ok hp)
/-- A store of one cell into such a row. -/
theorem stm {b i T0 : Nat} {vs : List Value} {v : Value} {f : Res → List Res} {x y : Operand} (hs : SizeOf P T 1) (hx : E.ev x = some (.pointer (some ⟨b, i, none⟩))) (hy : E.ev y = some v) (hv : flat1 v = true)
    (hp : Pos Rs (markR b T0 vs) f) (hl : i < vs.length) :
    OpE r n P (.store T x y) ty E (HP w0 Rs) (fun _ : Unit => undef) (fun _ => True) (fun _ => HP w0 (f (markR b T0 (vs.set i v)))) :=
  OpE.of_skip (by simp) (fun ρ W ho hw => by
    have e1 := ho x (by simp [Op.operands]) _ hx
    have e2 := ho y (by simp [Op.operands]) _ hy
    obtain ⟨lo, hi, h1, h2⟩ := hw.mem_ok hp
    have hc : W.cell? ⟨b, i, none⟩ = some vs[i] := by simp [World.cell?, h1, hl]
    have hf : W.frozen? ⟨b, i, none⟩ = false := by simp [World.frozen?, h1]; omega
    have hlt := (HPs.lt hw.res _ hp.mem b rfl)
    have hsc : v.cells = #[v] := by cases v <;> first | rfl | simp [flat1] at hv
    have hst : (store ⟨b, i, none⟩ v).run P W = .ok () (W.setCell ⟨b, i, none⟩ v) := by
      unfold store
      cases v <;> first | (simp [flat1] at hv; done) | simp [Sem.run, hc, hf]
    refine ⟨W.setCell ⟨b, i, none⟩ v, fun d p af g => ?_, hw.put hp _ ((Below.refl _ W).setCell (by exact hlt.1) v) (fun k _ hk => Below.heap_setCell _ _ _ _ hk) ⟨lo, hi, ?_, by simpa using h2⟩ (fun k hk => ⟨.inl hk, by simp only [markR] at hk; subst hk; simp; exact hlt.2⟩)⟩
    · simp [execOp, e1, e2, Instr.storeAt, Instr.sureAddr, storeVar, hs W, hsc, Sem.run_bind, Result.andThen, storeCells, hst, Addr.add_lit]
    · simp only [World.setCell, Array.getElem?_modify, if_true, h1, Option.map_some]; simp)

/-! ## 4. A range over a text -/
def iterR (b : Nat) (s : ByteArray) (pos : Nat) : Res where
  fp := fun k => k = b
  ok := fun W => W.heap[b]? = some (.stringIter s pos)
  loc := fun W W' h hk => by rw [h b rfl]; exact hk
theorem rg {x : Operand} {s : ByteArray} (hT : P.underlying T = some .string) (hx : E.ev x = some (.string s)) :
    OpE r n P (.range T x) ty E (HP w0 Rs) (fun b : Nat => .pointer (some ⟨b, 0, none⟩)) (fun _ => True) (fun b => HP w0 (iterR b s 0 :: Rs)) :=
  OpE.of_run (by simp) (fun ρ W ho hw => ⟨W.heap.size, _, fun d p af g => by simp [execOp, ho x (by simp [Op.operands]) _ hx, run_range_string W T s hT]; rfl, trivial,
    hw.add _ ((Below.refl _ W).alloc (Nat.le_refl _) _) (World.iter_heap W s 0) (fun b hb => by simp only [iterR] at hb; subst hb; simp [World.iter])⟩)
theorem nxEnd {b pos : Nat} {s : ByteArray} {x : Operand} {f : Res → List Res} (hx : E.ev x = some (.pointer (some ⟨b, 0, none⟩))) (hp : Pos Rs (iterR b s pos) f) (h : ¬ pos < s.size) : OpP P (.next x true) ty E (HP w0 Rs) (.tuple #[.bool false]) :=
  ⟨by simp, fun ρ W ho hw d p af g => by
    have hk : W.heap[b]? = some (.stringIter s pos) := hw.mem_ok hp
    simp [execOp, ho x (by simp [Op.operands]) _ hx, Instr.next, getObj, Sem.run, hk, h]⟩
theorem nx {b pos : Nat} {s : ByteArray} {x : Operand} {f : Res → List Res} (hx : E.ev x = some (.pointer (some ⟨b, 0, none⟩))) (hp : Pos Rs (iterR b s pos) f) (h : pos < s.size) :
    OpE r n P (.next x true) ty E (HP w0 Rs) (fun _ : Unit => .tuple #[.bool true, .int .i64 pos, .int .i32 (Utf8.decode s pos).1]) (fun _ => True) (fun _ => HP w0 (f (iterR b s (pos + (Utf8.decode s pos).2)))) :=
  OpE.of_run (by simp) (fun ρ W ho hw => by
    have hk : W.heap[b]? = some (.stringIter s pos) := hw.mem_ok hp
    have hlt := (HPs.lt hw.res _ hp.mem b rfl)
    refine ⟨(), { W with heap := W.heap.setIfInBounds b (.stringIter s (pos + (Utf8.decode s pos).2)) }, fun d p af g => ?_, trivial, hw.put hp _ ⟨rfl, rfl, rfl, by simp, fun k hk => ?_⟩ (fun k _ hk => ?_) ?_ (fun k hk => ⟨.inl hk, by simp only [iterR] at hk; subst hk; simpa using hlt.2⟩)⟩
    · simp [execOp, ho x (by simp [Op.operands]) _ hx, Instr.next, getObj, setObj, Sem.run, Sem.run_bind, Result.andThen, hk, h, goInt]
    · rw [Array.getElem?_setIfInBounds_ne (by omega)]
    · rw [Array.getElem?_setIfInBounds_ne (fun e => hk (by simp only [iterR]; exact e.symm))]
    · simp [iterR, hlt.2])

/-! ## 5. copy -/
theorem cp {e k b off dl dc sl sc m : Nat} {A : Option Addr} {T0 : Nat} {vs cs us : List Value} {f : Res → List Res} {x y : Operand} (hT : SliceOf P T e k) (hx : E.ev x = some (.slice (some ⟨b, off, none⟩) dl dc)) (hy : E.ev y = some (.slice A sl sc))
    (hm : min sl dl = m) (hr : ∀ W, HP w0 Rs W → RowA W k A sl cs) (hu : us = cs.take (m * k)) (hp : Pos Rs (cellR b T0 vs) f) (hl : off + m * k ≤ vs.length) (h1 : ∀ u ∈ cs, flat1 u = true) (ats : TypeId) :
    OpE r n P (.call { callee := .builtin .copy, args := #[x, y], argTypes := #[T, ats] }) ty E (HP w0 Rs) (fun _ : Unit => .int .i64 m) (fun _ => True) (fun _ => HP w0 (f (cellR b T0 (splice vs off us)))) :=
  OpE.of_run (by simp) (fun ρ W ho hw => by
    have e1 := ho x (by simp [Op.operands, Call.operands]) _ hx
    have e2 := ho y (by simp [Op.operands, Call.operands]) _ hy
    obtain ⟨g1, g2, g3⟩ := hr W hw
    have hmle : m ≤ sl := by omega
    have hul : us.length = m * k := by subst hu; rw [List.length_take, g1]; exact Nat.min_eq_left (Nat.mul_le_mul_right _ hmle)
    obtain ⟨W', q1, q2, q3, q4, q5, q6, q7⟩ := run_storeCells_own (P := P) off us 0 W vs (hw.cell hp) (by omega) (fun u hu' => h1 u (by subst hu; exact List.mem_of_mem_take hu'))
    have hlt := (HPs.lt hw.res _ hp.mem b rfl)
    refine ⟨(), W', fun d p af g => ?_, trivial, hw.put hp _ ⟨q5, q6, q7, by omega, fun k hk => q4 k (by omega)⟩ (fun k _ hk => q4 k hk) (by simpa [cellR] using q2) (fun k hk => ⟨.inl hk, by simp only [cellR] at hk; subst hk; omega⟩)⟩
    have hfc : (Builtin.firstCells k m (.slice A sl sc)).run P W = .ok us.toArray W := by
      rcases Nat.eq_zero_or_pos (m * k) with h0 | h0
      · have : us = [] := List.eq_nil_of_length_eq_zero (by omega)
        subst this
        cases A with
        | none => simp [Builtin.firstCells]
        | some ad => simp [Builtin.firstCells, h0]; simpa using run_loadCells_list (P := P) W ad [] (by simp)
      · obtain ⟨b', off', rfl, hc⟩ := g3 (by rcases Nat.eq_zero_or_pos sl with h | h; · (have : m = 0 := by omega); subst this; simp at h0
                                             · exact h)
        have := run_loadCells_list (P := P) W ⟨b', off', none⟩ us (fun j v hj => by
          rw [Addr.add_lit]
          subst hu
          exact (hc.take _) j v hj)
        rw [hul] at this
        simp [Builtin.firstCells, this]
    simp [execOp, resolve, invoke, builtin, e1, e2, Builtin.copy_, run_underlying hT.1, Builtin.lenOf, hT.2 W, Sem.run_bind, Result.andThen, goInt]
    rw [show sl.min dl = m from hm]
    simp [hfc, q1, Result.andThen, hm])

/-! ## 6. The new variables of a region that draws -/
theorem ak0 : AllocOK P N ops [] := fun q hq => absurd hq (by simp)
theorem akp {i : Nat} {l : List (Nat × DK)} (h : AllocOK P N ops l) : AllocOK P N ops ((i, .p) :: l) := fun q hq ha => by
  rcases List.mem_cons.1 hq with rfl | hq
  · cases ha
  · exact h q hq ha
theorem akx {i : Nat} {l : List (Nat × DK)} (h : AllocOK P N ops l) : AllocOK P N ops ((i, .x) :: l) := fun q hq ha => by
  rcases List.mem_cons.1 hq with rfl | hq
  · cases ha
  · exact h q hq ha
theorem akl {i : Nat} {l : List (Nat × DK)} (h : AllocOK P N ops l) : AllocOK P N ops ((i, .l) :: l) := fun q hq ha => by
  rcases List.mem_cons.1 hq with rfl | hq
  · cases ha
  · exact h q hq ha
theorem aky {i : Nat} {l : List (Nat × DK)} (h : AllocOK P N ops l) : AllocOK P N ops ((i, .y) :: l) := fun q hq ha => by
  rcases List.mem_cons.1 hq with rfl | hq
  · cases ha
  · exact h q hq ha
theorem akf {i T d : Nat} {o : Oper} {vs : List Value} {l : List (Nat × DK)} (ho : ops[i]? = some o) (hg : o.guard = none) (hd : o.dst = some d) (hN : Nat.blt d N = true) (hz : Fresh P o.op T vs) (h : AllocOK P N ops l) : AllocOK P N ops ((i, .a) :: l) := fun q hq ha => by
  rcases List.mem_cons.1 hq with rfl | hq
  · exact ⟨o, T, vs, d, ho, hg, hd, hN, hz⟩
  · exact h q hq ha
theorem aka {i T d : Nat} {o : Oper} {vs : List Value} {l : List (Nat × DK)} (ho : ops[i]? = some o) (hop : o.op = .alloc T) (hg : o.guard = none) (hd : o.dst = some d) (hN : Nat.blt d N = true) (hz : ZeroOf P T vs) (h : AllocOK P N ops l) : AllocOK P N ops ((i, .a) :: l) :=
  akf ho hg hd hN (by rw [hop]; exact Fresh.alloc hz) h
theorem akbs {i T S len d : Nat} {o : Oper} {parts : List (Nat × Operand)} {vs : List Value} {l : List (Nat × DK)} (ho : ops[i]? = some o) (hop : o.op = .buildSlice S len parts.toArray) (hg : o.guard = none) (hd : o.dst = some d) (hN : Nat.blt d N = true) (hz : Fresh P (.buildSlice S len parts.toArray) T vs) (h : AllocOK P N ops l) : AllocOK P N ops ((i, .a) :: l) :=
  akf ho hg hd hN (by rw [hop]; exact hz) h
theorem Fresh.build {S len T : Nat} {parts : List (Nat × Operand)} {us vs : List Value} (hx : Env.evs [] (parts.map (·.2)) = some us) (hb : BSl P S len ((parts.map (·.1)).zip us).toArray T vs) : Fresh P (.buildSlice S len parts.toArray) T vs := ⟨by simp, fun a W d ty p af g => by
  have he : (parts.map (·.2)).map a.eval = us := Has.evs (N := a.tmps.size) (D := a.defers) (E := []) ⟨rfl, rfl, fun i v hi => by simp [Env.get] at hi⟩ hx
  have h2 := map_zip a.eval parts
  rw [he] at h2
  have h := hb W
  simp [execOp, h2, h, freshVal]⟩
def elemOK (P : Program) (e k bytes : Nat) : Bool := match P.info? e with
  | some i => match i.zero with
    | some z => Nat.beq i.size k && Nat.beq i.bytes bytes && Nat.beq z.cells.size k && Nat.blt 0 k
    | none => false
  | none => false
theorem ElemOf.of {T e k bytes : Nat} (hT : P.underlying T = some (.slice e)) (h : elemOK P e k bytes = true) : ElemOf P T e k bytes := by
  unfold elemOK at h
  split at h
  · rename_i i hi
    split at h
    · rename_i z hz
      simp only [Bool.and_eq_true] at h
      exact ⟨i, z, hT, hi, hz, Nat.eq_of_beq_eq_true h.1.1.1, Nat.eq_of_beq_eq_true h.1.1.2, Nat.eq_of_beq_eq_true h.1.2, Nat.le_of_ble_eq_true h.2⟩
    · cases h
  · cases h
/-- make: what a new row's cells are. -/
def zeros (z : List Value) (n : Nat) : List Value := (List.replicate n z).flatten
theorem map_range_zeros (z : Array Value) : ∀ n : Nat, (List.range (n * z.size)).map (fun j => z[j % z.size]!) = zeros z.toList n
  | 0 => by simp [zeros]
  | n + 1 => by
    have ih := map_range_zeros z n
    rw [show (n + 1) * z.size = z.size + n * z.size by rw [Nat.add_mul]; omega, List.range_add, List.map_append, List.map_map]
    have h1 : (List.range z.size).map (fun j => z[j % z.size]!) = z.toList := by
      apply List.ext_getElem
      · simp
      · intro i h1 h2
        simp at h1 h2
        simp [Nat.mod_eq_of_lt h1, h1]
    have h2 : ((fun j => z[j % z.size]!) ∘ fun x => z.size + x) = fun j => z[j % z.size]! := by
      funext j; simp
    rw [h1, h2, ih]
    simp [zeros, List.replicate_succ]
theorem madeCells_zeros (z : Array Value) (n : Nat) : (madeCells z (n * z.size)).toList = zeros z.toList n := by
  rw [← map_range_zeros]; simp [madeCells]
def zeroCellsOf (P : Program) (e : TypeId) : List Value := match P.info? e with
  | some i => match i.zero with
    | some z => z.cells.toList
    | none => []
  | none => []
theorem MakesOf.of {T e k bytes : Nat} {zl : List Value} (hT : P.underlying T = some (.slice e)) (h : elemOK P e k bytes = true) (hz : zeroCellsOf P e = zl) : MakesOf P T e k bytes (zeros zl) := by
  obtain ⟨i, z, _, h2, h3, h4, h5, h6, h7⟩ := ElemOf.of hT h
  refine ⟨i, z, hT, h2, h3, h4, h5, fun n => ?_⟩
  rw [← h6, madeCells_zeros]
  simp [zeroCellsOf, h2, h3] at hz
  rw [hz]
end Go.Eng
end
section
namespace Go.Eng
open Go Go.RowKit
set_option linter.unusedVariables false
set_option linter.unusedSimpArgs false
/-! ## Rows of records -/
variable {α : Type} {K : Nat} {enc : α → List Value}
def rowOf (W : World) (K : Nat) (enc : α → List Value) (A : Option Addr) (l : List α) : Prop := RowA W K A l.length (l.flatMap enc)
theorem length_flatMap_enc (hK : ∀ x, (enc x).length = K) : ∀ l : List α, (l.flatMap enc).length = l.length * K
  | [] => by simp
  | x :: l => by simp [hK x, length_flatMap_enc hK l, Nat.add_mul]; omega
theorem drop_flatMap_enc (hK : ∀ x, (enc x).length = K) : ∀ (l : List α) (i : Nat), (l.flatMap enc).drop (i * K) = (l.drop i).flatMap enc
  | l, 0 => by simp
  | [], i + 1 => by simp
  | x :: l, i + 1 => by
    rw [List.flatMap_cons, List.drop_append]
    have : (i + 1) * K = K + i * K := by rw [Nat.add_mul]; omega
    rw [this, hK x, List.drop_of_length_le (by rw [hK x]; omega), Nat.add_sub_cancel_left, drop_flatMap_enc hK l i]
    simp
theorem rowOf.cells_at {W : World} {b off : Nat} {l : List α} (hK : ∀ x, (enc x).length = K) (h : rowOf W K enc (some ⟨b, off, none⟩) l) (i : Nat) (hi : i < l.length) : Cells W b (off + i * K) (enc l[i]) := by
  have hc := h.cells (by omega)
  have h2 := Cells.drop hc (i * K)
  rw [drop_flatMap_enc hK, List.drop_eq_getElem_cons hi, List.flatMap_cons] at h2
  have h3 := h2.take K
  rwa [List.take_append_of_le_length (by rw [hK]; omega), List.take_of_length_le (by rw [hK]; omega)] at h3
theorem rowOf.up {w W : World} {A : Option Addr} {l : List α} {Rs : List Res} (h : rowOf w K enc A l) (hW : HP w Rs W) : rowOf W K enc A l := RowA.below h hW.below
theorem rowOf.below {w W : World} {A : Option Addr} {l : List α} (h : rowOf w K enc A l) (hW : Below w.heap.size w W) : rowOf W K enc A l := RowA.below h hW
theorem rowOf.addr {W : World} {A : Option Addr} {l : List α} (h : rowOf W K enc A l) (hl : 0 < l.length) : ∃ b off, A = some ⟨b, off, none⟩ := let ⟨b, off, e, _⟩ := h.2.2 hl; ⟨b, off, e⟩
theorem rowOf.small {W : World} {A : Option Addr} {l : List α} (h : rowOf W K enc A l) : l.length ≤ 9223372036854775807 := h.2.1
theorem rowOf.nil {W : World} {A : Option Addr} : rowOf (α := α) W K enc A [] := by simpa [rowOf] using RowA.nil W K A
theorem cells_at' {W : World} {b off o : Nat} {vs : List Value} (h : Cells W b off vs) (e : o = off) : Cells W b o vs := e ▸ h

/-- The ints of a row's places. -/
theorem wrap64 {z : Int} (h0 : -9223372036854775808 ≤ z) (h1 : z ≤ 9223372036854775807) : IntKind.i64.wrap z = z := by
  simp [IntKind.wrap, IntKind.bits, IntKind.signed]; omega

variable {r : Option Nat} {n N : Nat} {P : Program} {D : List Deferred} {E : Env} {H : World → Prop} {Q : Exit → Act → World → Prop}
/-- A loop, with what holds of its ghost. -/
abbrev LoopQ {σ : Type} (N : Nat) (D : List Deferred) (E' : σ → Env) (φ : σ → Prop) (H' : σ → World → Prop) (μ : σ → Nat) (s : σ) (Q : Exit → Act → World → Prop) : Exit → Act → World → Prop :=
  Exit.then (fun a W => ∃ t, μ t < μ s ∧ φ t ∧ Has N D (E' t) a ∧ H' t W) Q
theorem xc_loopP {c : Code} {σ : Type} (E' : σ → Env) (φ : σ → Prop) (H' : σ → World → Prop) (μ : σ → Nat) (s0 : σ) (h0 : φ s0) (hs : E.sub (E' s0)) (hH : ∀ W, H W → H' s0 W)
    (round : ∀ s, φ s → XC r n P c (LoopQ N D E' φ H' μ s Q) N D (E' s) (H' s)) : XC r n P (Code.loop c) Q N D E H := by
  intro a W ha hw
  refine wpIn_loop_ghost (fun k a W => ∃ s, μ s = k ∧ φ s ∧ Has N D (E' s) a ∧ H' s W) (μ s0) ⟨s0, rfl, h0, ha.of_sub hs, hH W hw⟩ ?_
  rintro k a W ⟨s, rfl, h0, h1, h2⟩
  refine wpIn_mono (round s h0 a W h1 h2) fun e a' W' hq => ?_
  cases e <;> first | exact hq | (obtain ⟨t, h1, h4, h2, h3⟩ := hq; exact ⟨_, h1, t, rfl, h4, h2, h3⟩)
theorem xq_roundP {σ : Type} {E' : σ → Env} {φ : σ → Prop} {H' : σ → World → Prop} {μ : σ → Nat} {s : σ} (t : σ) (hφ : φ t) (hμ : μ t < μ s) (hs : E.sub (E' t)) (hH : ∀ W, H W → H' t W) :
    XQ (LoopQ N D E' φ H' μ s Q) .normal N D E H := fun a W ha hw => ⟨t, hμ, hφ, ha.of_sub hs, hH W hw⟩
theorem iw {i : Nat} {z m : Int} (e : z = m) (h0 : -9223372036854775808 ≤ m) (h1 : m ≤ 9223372036854775807) (h : E.get i = some (.int .i64 (IntKind.i64.wrap z))) : E.get i = some (.int .i64 m) := by
  rw [h, wrap64 (by omega) (by omega), e]
theorem Env.as {i : Nat} {u v : Value} (e : u = v) (h : E.get i = some u) : E.get i = some v := e ▸ h
end Go.Eng
namespace Go.Eng
open Go Go.RowKit
set_option linter.unusedVariables false
theorem RetV.of {P : Program} {g : Nat} {args : List Value} {W : World} {v : Value} (h : Calls P g args.toArray W fun e W' => e = .returned v ∧ W' = W) : RetV P g args W v :=
  h.mono fun e W' ⟨h1, h2⟩ => ⟨h1, h2 ▸ Below.refl _ _⟩
theorem RetV.ofDrew {P : Program} {g : Nat} {args : List Value} {W : World} {v : Value} (h : Calls P g args.toArray W fun e W' => e = .returned v ∧ ∃ n, W' = W.drewN n) : RetV P g args W v :=
  h.mono fun e W' ⟨h1, n, h2⟩ => ⟨h1, by subst h2; exact ⟨rfl, rfl, rfl, Nat.le_refl _, fun _ _ => rfl⟩⟩
theorem fdivNat (a m : Nat) : (a : Int).fdiv (2 ^ m) = ((a / 2 ^ m : Nat) : Int) := by
  rw [Int.fdiv_eq_ediv_of_nonneg _ (by exact_mod_cast Nat.zero_le _)]; norm_cast
theorem wrapU8 (a : Nat) : IntKind.u8.wrap (a : Int) = ((a % 256 : Nat) : Int) := by
  simp [IntKind.wrap, IntKind.bits, IntKind.signed]
theorem wrapU32 (a : Nat) : IntKind.u32.wrap (a : Int) = ((a % 4294967296 : Nat) : Int) := by
  simp [IntKind.wrap, IntKind.bits, IntKind.signed]
theorem wrapU64 (a : Nat) : IntKind.u64.wrap (a : Int) = ((a % 18446744073709551616 : Nat) : Int) := by
  simp [IntKind.wrap, IntKind.bits, IntKind.signed]
end Go.Eng
end
section
namespace Go.Eng
open Go Go.RowKit
set_option linter.unusedVariables false
set_option linter.unusedSimpArgs false
variable {r : Option Nat} {n N : Nat} {P : Program} {D : List Deferred} {E : Env} {H : World → Prop} {Q : Exit → Act → World → Prop} {ops : Array Oper} {rest : List Oper}
variable {w0 : World} {Rs L : List Res} {d : Nat} {ty : TypeId} {ps : String} {af : Array Edge} {op : Op}

/-! # Loops over functions -/
def objR (b : Nat) (o : Obj) : Res where
  fp := fun k => k = b
  ok := fun W => W.heap[b]? = some o
  loc := fun W W' h hk => by rw [h b rfl]; exact hk
theorem HP.putObj {W : World} {b : Nat} {o : Obj} {f : Res → List Res} (h : HP w0 Rs W) (hp : Pos Rs (objR b o) f) (o' : Obj) : HP w0 (f (objR b o')) (W.putObj b o') := by
  have hlt := HPs.lt h.res _ hp.mem b rfl
  refine h.put hp _ ⟨rfl, rfl, rfl, by simp, fun k hk => World.putObj_heap_other (by omega)⟩ (fun k _ hk => World.putObj_heap_other (fun e => hk (by simp only [objR]; exact e))) (World.putObj_heap_same hlt.2) (fun k hk => ⟨.inl hk, by simp only [objR] at hk; subst hk; simpa using hlt.2⟩)
theorem HP.allocObj {W : World} (h : HP w0 Rs W) (o : Obj) : HP w0 (objR W.heap.size o :: Rs) (W.alloc o) :=
  h.add _ ((Below.refl _ W).alloc (Nat.le_refl _) _) (World.alloc_heap_new W o) (fun b hb => by simp only [objR] at hb; subst hb; simp)
def mark (b : Nat) : Deferred := { target := .collected b, args := #[] }

/-! ## 1. Functions that hold such a loop -/
theorem begin_m {f : FuncId} {fn : Func} {c : Code} {args : List Value} {w : World} {R : Ending → World → Prop} (hf : P.funcs[f]? = some fn) (hb : fn.body = some c) (hn : fn.ntmps = N) (hN : Nat.ble args.length N = true)
    (h : XC none 0 P c (bodyPostM (RF none) 0 P fn R) N [] (Env.ofArgs 0 args) (HP w [])) : Calls P f args.toArray w R := by
  subst hn
  refine callsIn_wide.1 (callsIn_of_wp_marks (F := Fence.wide) (n := 0) hf hb trivial ?_)
  rw [← RF_none]
  refine h _ w ⟨rfl, by simp; have := Nat.le_of_ble_eq_true hN; omega, fun i v hi => ?_⟩ (HP.nil _)
  obtain ⟨_, h2⟩ := Env.get_ofArgs args 0 i v hi
  simp only [Nat.sub_zero] at h2
  have hlt : i < args.length := by
    rcases Nat.lt_or_ge i args.length with hh | hh
    · exact hh
    · simp [List.getElem?_eq_none hh] at h2
  rw [Array.getElem?_append_left (by simpa using hlt)]
  simpa using h2
/-- Entering with memory at hand. -/
theorem begin_at {f : FuncId} {fn : Func} {c : Code} {args : List Value} {w : World} {R : Ending → World → Prop} (hf : P.funcs[f]? = some fn) (hb : fn.body = some c) (hn : fn.ntmps = N) (hN : Nat.ble args.length N = true)
    (hw : HP w0 Rs w) (h : XC none 0 P c (bodyPost P fn R) N [] (Env.ofArgs 0 args) (HP w0 Rs)) : Calls P f args.toArray w R := by
  subst hn
  refine enter hf hb (Nat.le_of_ble_eq_true hN) ?_
  exact fun a W ha hW => h a W ha (by subst hW; exact hw)

def Rets (P : Program) (fn : Func) (N : Nat) (D : List Deferred) (E : Env) (H : World → Prop) (v : Value) : Prop := ∀ a W, Has N D E a → H W → (results fn a.tmps).run P W = .ok v W
theorem rets0 {fn : Func} (hres : fn.results = #[]) : Rets P fn N D E H (.tuple #[]) := fun a W ha hw => by rw [results_def, hres]; simp
theorem rets1 {fn : Func} {x : ResultVar} {v : Value} (hres : fn.results = #[x]) (hv : RV P E H x v) : Rets P fn N D E H v := fun a W ha hw => by
  have h1 := hv.run ha hw
  rw [results_def, hres]; simp [h1]
theorem rets2 {fn : Func} {x y : ResultVar} {v u : Value} (hres : fn.results = #[x, y]) (hv : RV P E H x v) (hu : RV P E H y u) : Rets P fn N D E H (.tuple #[v, u]) := fun a W ha hw => by
  have h1 := hv.run ha hw
  have h2 := hu.run ha hw
  rw [results_def, hres]; simp [h1, h2]
theorem rets3 {fn : Func} {x y z : ResultVar} {v u t : Value} (hres : fn.results = #[x, y, z]) (hv : RV P E H x v) (hu : RV P E H y u) (ht : RV P E H z t) : Rets P fn N D E H (.tuple #[v, u, t]) := fun a W ha hw => by
  have h1 := hv.run ha hw
  have h2 := hu.run ha hw
  have h3 := ht.run ha hw
  rw [results_def, hres]; simp [h1, h2, h3]
/-- Leaving where no such loop has been run, and where one has. -/
theorem leaveM0 {fn : Func} {R : Ending → World → Prop} {e : Exit} {v : Value} (he : e = .ret ∨ e = .normal) (hr : Rets P fn N [] E H v) (hR : ∀ W, H W → R (.returned v) W) : XQ (bodyPostM (RF none) 0 P fn R) e N [] E H := by
  intro a W ha hw
  have h1 := hr a W ha hw
  have hd := ha.defers
  rcases he with rfl | rfl <;> (show LeavesInM _ _ _ _ _ _ a.defers _ _; rw [hd]; exact ⟨_, h1, hR W hw⟩)
theorem leaveM1 {fn : Func} {R : Ending → World → Prop} {e : Exit} {v : Value} {b : Nat} {f : Res → List Res} (he : e = .ret ∨ e = .normal) (hp : Pos Rs (objR b (.deferred (some []))) f)
    (hr : Rets P fn N [mark b] E (HP w0 (f (objR b (.deferred none)))) v) (hR : ∀ W, HP w0 (f (objR b (.deferred none))) W → R (.returned v) W) : XQ (bodyPostM (RF none) 0 P fn R) e N [mark b] E (HP w0 Rs) := by
  intro a W ha hw
  have hw' := hw.putObj hp (.deferred none)
  have h1 := hr a _ ha hw'
  have hd := ha.defers
  have ht := run_takeDeferred (P := P) (w := W) (b := b) (ds := []) (hw.mem_ok hp)
  rcases he with rfl | rfl <;> (show LeavesInM _ _ _ _ _ _ a.defers _ _; rw [hd]; exact ⟨by simp, .inl ⟨b, _, rfl, ht, ⟨_, h1, hR _ hw'⟩⟩⟩)

/-! ## 2. What an iterator keeps -/
/-- A call of yield with x's values, the iterator's memory Fr beside the caller's L. -/
def YieldOK (P : Program) (w0 : World) (l : Nat) {α : Type} (encs : α → List Value) (J Jx : List α → List Res → Prop) (pre : List α) (x : α) : Prop :=
  ∀ (L Fr : List Res) (W : World), J pre L → HP w0 (Fr ++ L) W → YieldAt (RF none) 0 P l (encs x).toArray W fun e W' =>
    (∃ L', J (pre ++ [x]) L' ∧ e = .returned (.bool true) ∧ HP w0 (Fr ++ L') W') ∨ (∃ L', Jx (pre ++ [x]) L' ∧ e = .returned (.bool false) ∧ HP w0 (Fr ++ L') W')
/-- The iterator gf, with lb caught and the memory It, goes over all, in order; it stops where it is told to. -/
def Iter (P : Program) (gf : Nat) (lb : List Value) {α : Type} (encs : α → List Value) (It : List Res) (all : List α) (w1 : World) : Prop :=
  ∀ (w0 : World) (l : Nat) (J Jx : List α → List Res → Prop) (L : List Res) (W : World), Below w1.heap.size w1 w0 → HP w0 (It ++ L) W → J [] L →
    (∀ pre x post, all = pre ++ x :: post → YieldOK P w0 l encs J Jx pre x) →
    Calls P gf (Value.func (.yield l) #[] #[] :: lb).toArray W fun e W' => (∃ v, e = .returned v) ∧ ∃ L', HP w0 L' W' ∧ (J all L' ∨ ∃ pre post, all = pre ++ post ∧ Jx pre L')

/-! ## 3. The statement -/
def Env.puts : List Nat → List Value → Env → Env
  | p :: ps, v :: vs, E => Env.puts ps vs ((p, v) :: E)
  | _, _, E => E
theorem Has.puts' : ∀ (ps : List Nat) (vs : List Value) {E : Env} {a : Act}, Has N D E a → ps.all (Nat.blt · N) = true → Has N [] (Env.puts ps vs E) { tmps := (ps.zip vs).foldl (fun t (p, v) => t.setIfInBounds p v) a.tmps, defers := [] }
  | [], vs, E, a, h, _ => by simpa [Env.puts] using ⟨rfl, h.size, h.get⟩
  | p :: ps, [], E, a, h, _ => by simpa [Env.puts] using ⟨rfl, h.size, h.get⟩
  | p :: ps, v :: vs, E, a, h, hl => by
    simp only [List.all_cons, Bool.and_eq_true] at hl
    exact Has.puts' ps vs (h.put p v hl.1) hl.2
theorem Has.puts (ps : List Nat) (vs : List Value) {E : Env} {a : Act} (h : Has N D E a) (hl : ps.all (Nat.blt · N) = true) : Has N [] (Env.puts ps vs E) { tmps := (ps.toArray.zip vs.toArray).foldl (fun t (p, v) => t.setIfInBounds p v) a.tmps, defers := [] } := by
  have e : (ps.toArray.zip vs.toArray).foldl (fun (t : Array Value) (x : Nat × Value) => t.setIfInBounds x.1 x.2) a.tmps = (ps.zip vs).foldl (fun t x => t.setIfInBounds x.1 x.2) a.tmps := by
    rw [List.zip_toArray, List.foldl_toArray]
  have := Has.puts' ps vs h hl
  rw [← e] at this
  exact this
/-- How a round's body may be left. -/
def BodyQ (w0 : World) {α : Type} (J : List α → List Res → Prop) (Jc : Code → List α → List Res → Prop) (pre' : List α) (Fr : List Res) : Exit → Act → World → Prop
  | .normal, _, W => ∃ L, J pre' L ∧ HP w0 (L ++ Fr) W
  | .ret, _, W => ∃ L, Jc .ret pre' L ∧ HP w0 (L ++ Fr) W
  | .exit id, _, W => ∃ L, Jc (.exit id) pre' L ∧ HP w0 (L ++ Fr) W
  | .goto t, _, W => ∃ L, Jc (.goto t) pre' L ∧ HP w0 (L ++ Fr) W
  | .panic _, _, _ => False
  | .outgrown, _, _ => False
/-- Behind the assignments of a round. -/
def RndQ (P : Program) (w0 : World) (l : Nat) {α : Type} (J : List α → List Res → Prop) (Jc : Code → List α → List Res → Prop) (body : Code) (N : Nat) (pre' : List α) (Fr : List Res) (a : Act) (W : World) : Prop :=
  ∃ E1 L1, Has N [] E1 a ∧ HP w0 (L1 ++ Fr) W ∧ ∀ Fr', XC (some l) 0 P body (BodyQ w0 J Jc pre' Fr') N [] E1 (HP w0 (L1 ++ Fr'))
theorem xq_rnd {l : Nat} {α : Type} {J : List α → List Res → Prop} {Jc : Code → List α → List Res → Prop} {body : Code} {pre' : List α} {Fr L1 : List Res} (h : ∀ Fr', XC (some l) 0 P body (BodyQ w0 J Jc pre' Fr') N [] E (HP w0 (L1 ++ Fr'))) :
    XQ (Exit.then (RndQ P w0 l J Jc body N pre' Fr) (fun _ _ _ => False)) .normal N [] E (HP w0 (L1 ++ Fr)) := fun a W ha hw => ⟨E, L1, ha, hw, h⟩
theorem xq_body {α : Type} {J : List α → List Res → Prop} {Jc : Code → List α → List Res → Prop} {pre' : List α} {Fr L1 : List Res} (h : J pre' L1) : XQ (BodyQ w0 J Jc pre' Fr) .normal N D E (HP w0 (L1 ++ Fr)) := fun a W _ hw => ⟨L1, h, hw⟩
theorem xq_body_ret {α : Type} {J : List α → List Res → Prop} {Jc : Code → List α → List Res → Prop} {pre' : List α} {Fr L1 : List Res} (h : Jc .ret pre' L1) : XQ (BodyQ w0 J Jc pre' Fr) .ret N D E (HP w0 (L1 ++ Fr)) := fun a W _ hw => ⟨L1, h, hw⟩
theorem xq_body_exit {α : Type} {id : Nat} {J : List α → List Res → Prop} {Jc : Code → List α → List Res → Prop} {pre' : List α} {Fr L1 : List Res} (h : Jc (.exit id) pre' L1) : XQ (BodyQ w0 J Jc pre' Fr) (.exit id) N D E (HP w0 (L1 ++ Fr)) := fun a W _ hw => ⟨L1, h, hw⟩

theorem perm2 {a b : Res} {X Y : List Res} : List.Perm (a :: b :: (X ++ Y)) (X ++ (a :: b :: Y)) := by
  have h1 : List.Perm (X ++ (a :: b :: Y)) (a :: (X ++ (b :: Y))) := List.perm_middle
  exact (h1.trans (List.perm_middle.cons a)).symm
theorem xc_range {α : Type} {g : Operand} {pl : List Nat} {assign body : Code} {gf : Nat} {lb : List Value} {encs : α → List Value} {It : List Res} {all : List α} (J : List α → List Res → Prop) (Jc : Code → List α → List Res → Prop)
    (he : Enters P gf) (hg : E.ev g = some (.func (.func gf) #[] lb.toArray)) (hps : ∀ x, (encs x).length = pl.length) (hpl : pl.all (Nat.blt · N) = true)
    (hit : Iter P gf lb encs It all w0) (h0 : J [] L)
    (hround : ∀ (l : Nat) (pre post : List α) (x : α) (L : List Res) (Fr : List Res), all = pre ++ x :: post → J pre L → XC (some l) 0 P assign (Exit.then (RndQ P w0 l J Jc body N (pre ++ [x]) Fr) (fun _ _ _ => False)) N [] (Env.puts pl (encs x) E) (HP w0 (L ++ Fr)))
    (hdone : ∀ (b : Nat) (L : List Res), J all L → XQ Q .normal N (mark b :: D) E (HP w0 (objR b (.deferred (some [])) :: L)))
    (hstop : ∀ (b : Nat) (c : Code) (pre post : List α) (L : List Res), all = pre ++ post → Jc c pre L → XC none 0 P c Q N (mark b :: D) E (HP w0 (objR b (.deferred (some [])) :: L))) :
    XC none 0 P (Code.rangeFunc g pl.toArray assign body) Q N D E (HP w0 (It ++ L)) := by
  intro a W ha hw
  refine wpIn_rangeFunc ?_
  intro fn hfn
  obtain ⟨rec, hrec⟩ : ∃ rec : LoopState → Option Code → Loop, rec = fun st pe => { state := st, pending := pe, fn, tmps := a.tmps, params := pl.toArray, assign, body, defers := W.heap.size } := ⟨_, rfl⟩
  obtain ⟨W1, hW1⟩ : ∃ W1, (W.alloc (.deferred (some []))).alloc (.loop (rec .ready none)) = W1 := ⟨_, rfl⟩
  have hHP1 : HP w0 (objR (W.heap.size + 1) (.loop (rec .ready none)) :: objR W.heap.size (.deferred (some [])) :: (It ++ L)) W1 := by
    have h := (hw.allocObj (.deferred (some []))).allocObj (.loop (rec .ready none))
    rw [World.size_alloc] at h; rw [← hW1]; exact h
  have hB1 : Below W.heap.size W W1 := by rw [← hW1]; exact ((Below.refl _ W).alloc (Nat.le_refl _) _).alloc (by simp) _
  refine ⟨W.heap.size + 1, [mark W.heap.size], W1, { target := .fn (.func gf) lb.toArray, args := #[.func (.yield (W.heap.size + 1)) #[] #[]] }, W1, gf,
    (Value.func (.yield (W.heap.size + 1)) #[] #[] :: lb).toArray, W1, ?_, ?_, fun f' _ => RF_fn none f', ?_, RF_dn none 0, ?_⟩
  · rw [← hW1, hrec]; exact run_enterLoop_outer _ _ _ _ _
  · simp only [resolve, rangeCall, ha.ev hg]
    simp [go_sem]
  · simp [invoke, go_sem, he _ _]
  · refine callsIn_RF ((hit w0 (W.heap.size + 1) (fun pre L' => ∃ L, J pre L ∧ L' = objR (W.heap.size + 1) (.loop (rec .ready none)) :: objR W.heap.size (.deferred (some [])) :: L)
      (fun pre L' => ∃ c L, Jc c pre L ∧ L' = objR (W.heap.size + 1) (.loop (rec .done (some c))) :: objR W.heap.size (.deferred (some [])) :: L)
      (objR (W.heap.size + 1) (.loop (rec .ready none)) :: objR W.heap.size (.deferred (some [])) :: L) W1 (Below.refl _ _) (hHP1.perm perm2) ⟨L, h0, rfl⟩ ?_).mono ?_)
    · rintro pre x post hall L' Fr W2 ⟨L, hJ, rfl⟩ h2
      have hp2 := h2.perm (perm2 (X := Fr) (Y := L)).symm
      have hl : W2.heap[W.heap.size + 1]? = some (.loop (rec .ready none)) := hp2.mem_ok .head
      have hy := run_yield (P := P) (args := (encs x).toArray) hl (by rw [hrec]; simpa using hps x)
      rw [hrec] at hy
      refine ⟨fn, _, assign, body, hy, roundIn_of_wpIn hfn ?_⟩
      have hA := Has.puts pl (encs x) ha hpl
      have hpF : HP w0 (L ++ (objR (W.heap.size + 1) (.loop (rec .ready none)) :: objR W.heap.size (.deferred (some [])) :: Fr)) W2 :=
        hp2.perm (((List.perm_append_comm.cons _).cons _).trans perm2)
      refine wpIn_mono (hround (W.heap.size + 1) pre post x L _ hall hJ _ W2 hA hpF) ?_
      intro e a3 W3 hq
      cases e <;> first | exact hq.elim | skip
      obtain ⟨E1, L1, hE1, hL1, hbody⟩ := hq
      have hp3 := hL1.perm (perm2 (X := L1) (Y := Fr)).symm
      have hl3 : W3.heap[W.heap.size + 1]? = some (.loop (rec .ready none)) := hp3.mem_ok .head
      refine ⟨_, run_beginRound hl3 (by rw [hrec]), ?_⟩
      have hp4 := hp3.putObj .head (.loop { rec .ready none with state := .busy })
      have hb := hbody (objR (W.heap.size + 1) (.loop { rec .ready none with state := .busy }) :: objR W.heap.size (.deferred (some [])) :: Fr) a3 _ hE1 (hp4.perm perm2)
      refine wpIn_mono hb ?_
      have fin : ∀ (jump : Option Code) (L5 : List Res) (W5 : World), HP w0 (L5 ++ (objR (W.heap.size + 1) (.loop { rec .ready none with state := .busy }) :: objR W.heap.size (.deferred (some [])) :: Fr)) W5 →
          (Instr.endRound (W.heap.size + 1) jump).run P W5 = .ok (.bool jump.isNone) (W5.putObj (W.heap.size + 1) (.loop (rec (if jump.isNone then .ready else .done) jump))) ∧
          HP w0 (Fr ++ (objR (W.heap.size + 1) (.loop (rec (if jump.isNone then .ready else .done) jump)) :: objR W.heap.size (.deferred (some [])) :: L5)) (W5.putObj (W.heap.size + 1) (.loop (rec (if jump.isNone then .ready else .done) jump))) := fun jump L5 W5 h5 => by
        have hp5 := h5.perm (perm2 (X := L5) (Y := Fr)).symm
        have hl5 : W5.heap[W.heap.size + 1]? = some (.loop { rec .ready none with state := .busy }) := hp5.mem_ok .head
        have hr := run_endRound (P := P) jump hl5
        have hp6 := hp5.putObj .head (.loop (rec (if jump.isNone then .ready else .done) jump))
        refine ⟨?_, hp6.perm (((List.perm_append_comm.cons _).cons _).trans perm2)⟩
        rw [hrec] at hr ⊢; exact hr
      intro e a5 W5 hq
      cases e with
      | normal => obtain ⟨L5, hJ5, h5⟩ := hq; obtain ⟨hr, hp⟩ := fin none L5 W5 h5; exact ⟨_, _, hr, .inl ⟨_, ⟨L5, hJ5, rfl⟩, rfl, hp⟩⟩
      | ret => obtain ⟨L5, hJ5, h5⟩ := hq; obtain ⟨hr, hp⟩ := fin (some .ret) L5 W5 h5; exact ⟨_, _, hr, .inr ⟨_, ⟨.ret, L5, hJ5, rfl⟩, rfl, hp⟩⟩
      | exit id => obtain ⟨L5, hJ5, h5⟩ := hq; obtain ⟨hr, hp⟩ := fin (some (.exit id)) L5 W5 h5; exact ⟨_, _, hr, .inr ⟨_, ⟨.exit id, L5, hJ5, rfl⟩, rfl, hp⟩⟩
      | goto t => obtain ⟨L5, hJ5, h5⟩ := hq; obtain ⟨hr, hp⟩ := fin (some (.goto t)) L5 W5 h5; exact ⟨_, _, hr, .inr ⟨_, ⟨.goto t, L5, hJ5, rfl⟩, rfl, hp⟩⟩
      | panic ch => exact hq.elim
      | outgrown => exact hq.elim
    · have hA' : ∀ b, Has N (mark b :: D) E { a with defers := [mark b] ++ a.defers } := fun b => ⟨by rw [← ha.defers]; rfl, ha.size, ha.get⟩
      rintro e W2 ⟨⟨v, rfl⟩, L', h2, (⟨L, hJ, rfl⟩ | ⟨pre, post, hall, c, L, hJ, rfl⟩)⟩
      · have hl : W2.heap[W.heap.size + 1]? = some (.loop (rec .ready none)) := h2.mem_ok .head
        have hr := run_endLoop (P := P) hl (by rw [hrec]; simp)
        have hp := (h2.putObj .head (.loop { rec .ready none with state := .exhausted })).drop
        refine ⟨none, _, by rw [hrec] at hr; exact hr, hdone _ L hJ _ _ (hA' _) ?_⟩
        rw [hrec] at hp; exact hp
      · have hl : W2.heap[W.heap.size + 1]? = some (.loop (rec .done (some c))) := h2.mem_ok .head
        have hr := run_endLoop (P := P) hl (by rw [hrec]; simp)
        have hp := (h2.putObj .head (.loop { rec .done (some c) with state := .exhausted })).drop
        refine ⟨some c, _, by rw [hrec] at hr; exact hr, hstop _ c pre post L hall hJ _ _ (hA' _) ?_⟩
        rw [hrec] at hp; exact hp

/-! ## 4. The call of yield, in an iterator -/
theorem yld {f : Operand} {args : List Operand} {ats : Array TypeId} {l : Nat} {α : Type} {encs : α → List Value} {J Jx : List α → List Res → Prop} {pre : List α} {x : α} {Fr L : List Res} {vs : List Value}
    (hy : YieldOK P w0 l encs J Jx pre x) (hJ : J pre L) (hf : E.ev f = some (.func (.yield l) #[] #[])) (hv : E.evs args = some vs) (hx : encs x = vs) :
    OpE none 0 P (.call { callee := .value f, args := args.toArray, argTypes := ats }) ty E (HP w0 (Fr ++ L)) (fun s : Bool × List Res => .bool s.1) (fun s => (s.1 = true → J (pre ++ [x]) s.2) ∧ (s.1 = false → Jx (pre ++ [x]) s.2)) (fun s => HP w0 (Fr ++ s.2)) := by
  intro d p af g' a W K Q ho hw k
  refine ⟨fun f _ => RF_fn none f, ?_⟩
  obtain ⟨fn, tmps, assign, body, hyr, hR⟩ := hy L Fr W hJ hw
  have h2 := ho.list (by simp [Op.operands, Call.operands]; intro x hx; exact .inr hx) hv
  have h1 := ho f (by simp [Op.operands, Call.operands]) _ hf
  subst hx
  have e1 : (execOp a.eval { dst := d, op := .call { callee := .value f, args := args.toArray, argTypes := ats }, type := ty, pos := p, after := af, guard := g' }).run P W = .ok (.round l fn tmps assign body) W := by
    simp [execOp, resolve, Deferred.ofValue, h1, invoke, h2, hyr]
  rw [Oper.semAt_eq _ _ _ (by simp), e1]
  refine ⟨RF_dn none 0, hR.mono ?_⟩
  rintro e W' (⟨L', hJ', rfl, hw'⟩ | ⟨L', hJ', rfl, hw'⟩)
  · exact k (true, L') ⟨fun _ => hJ', fun h => by cases h⟩ W' hw'
  · exact k (false, L') ⟨(fun h => by cases h), fun _ => hJ'⟩ W' hw'

/-! ## 5. Calls that turn memory of the caller's -/
/-- A resource taken out of a list. -/
inductive Take : List Res → Res → List Res → Prop
  | head {A : Res} {Rs : List Res} : Take (A :: Rs) A Rs
  | tail {A B : Res} {Rs Rs' : List Res} (h : Take Rs A Rs') : Take (B :: Rs) A (B :: Rs')
theorem Take.perm {Rs Rs' : List Res} {A : Res} (h : Take Rs A Rs') : List.Perm Rs (A :: Rs') := by
  induction h with
  | head => exact .refl _
  | tail _ ih => exact (ih.cons _).trans (.swap _ _ _)
inductive Takes : List Res → List Res → List Res → Prop
  | tn {Rs : List Res} : Takes Rs [] Rs
  | tc {A : Res} {Rs Rs1 Rs' As : List Res} (h : Take Rs A Rs1) (t : Takes Rs1 As Rs') : Takes Rs (A :: As) Rs'
theorem Takes.perm {Rs Rs' As : List Res} (h : Takes Rs As Rs') : List.Perm Rs (As ++ Rs') := by
  induction h with
  | tn => exact .refl _
  | tc h _ ih => exact h.perm.trans (ih.cons _)
/-- The call turns the memory It into R s; whatever else there is stays. -/
def RetM (P : Program) (w1 : World) (g : Nat) (args : List Value) (It : List Res) {σ : Type} (val : σ → Value) (φ : σ → Prop) (R : σ → List Res) : Prop :=
  ∀ (w0 : World) (Fr : List Res) (W : World), Below w1.heap.size w1 w0 → HP w0 (It ++ Fr) W → Calls P g args.toArray W fun e W' => ∃ s, e = .returned (val s) ∧ φ s ∧ HP w0 (R s ++ Fr) W'
theorem retm {f : Operand} {args : List Operand} {ats : Array TypeId} {g : Nat} {vs : List Value} {σ : Type} {val : σ → Value} {φ : σ → Prop} {R : σ → List Res} {It Rs' : List Res}
    (he : Enters P g) (hf : E.ev f = some (.func (.func g) #[] #[])) (hv : E.evs args = some vs) (ht : Takes Rs It Rs') (hc : RetM P w0 g vs It val φ R) :
    OpE r n P (.call { callee := .value f, args := args.toArray, argTypes := ats }) ty E (HP w0 Rs) val φ (fun s => HP w0 (R s ++ Rs')) :=
  calls_ (first := []) (cap := []) he hf hv (by simp) (fun W hw => hc w0 Rs' W (Below.refl _ _) (hw.perm ht.perm))
theorem xm {f : Operand} {args : List Operand} {ats : Array TypeId} {g : Nat} {vs : List Value} {σ : Type} {val : σ → Value} {φ : σ → Prop} {R : σ → List Res} {It Rs' : List Res} (hN : Nat.blt d N = true)
    (he : Enters P g) (hf : E.ev f = some (.func (.func g) #[] #[])) (hv : E.evs args = some vs) (ht : Takes Rs It Rs') (hc : RetM P w0 g vs It val φ R) (k : ∀ s, φ s → XL r n P ops Q rest N D ((d, val s) :: E) (HP w0 (R s ++ Rs'))) :
    XL r n P ops Q ({ dst := some d, op := .call { callee := .value f, args := args.toArray, argTypes := ats }, type := ty, pos := ps, after := af, guard := none } :: rest) N D E (HP w0 Rs) :=
  xe hN (retm he hf hv ht hc) k
theorem xm0 {f : Operand} {args : List Operand} {ats : Array TypeId} {g : Nat} {vs : List Value} {σ : Type} {val : σ → Value} {φ : σ → Prop} {R : σ → List Res} {It Rs' : List Res}
    (he : Enters P g) (hf : E.ev f = some (.func (.func g) #[] #[])) (hv : E.evs args = some vs) (ht : Takes Rs It Rs') (hc : RetM P w0 g vs It val φ R) (k : ∀ s, φ s → XL r n P ops Q rest N D E (HP w0 (R s ++ Rs'))) :
    XL r n P ops Q ({ dst := none, op := .call { callee := .value f, args := args.toArray, argTypes := ats }, type := ty, pos := ps, after := af, guard := none } :: rest) N D E (HP w0 Rs) :=
  xe0 (retm he hf hv ht hc) k
theorem begin_mat {f : FuncId} {fn : Func} {c : Code} {args : List Value} {w : World} {R : Ending → World → Prop} (hf : P.funcs[f]? = some fn) (hb : fn.body = some c) (hn : fn.ntmps = N) (hN : Nat.ble args.length N = true)
    (hw : HP w0 Rs w) (h : XC none 0 P c (bodyPostM (RF none) 0 P fn R) N [] (Env.ofArgs 0 args) (HP w0 Rs)) : Calls P f args.toArray w R := by
  subst hn
  refine callsIn_wide.1 (callsIn_of_wp_marks (F := Fence.wide) (n := 0) hf hb trivial ?_)
  rw [← RF_none]
  refine h _ w ⟨rfl, by simp; have := Nat.le_of_ble_eq_true hN; omega, fun i v hi => ?_⟩ hw
  obtain ⟨_, h2⟩ := Env.get_ofArgs args 0 i v hi
  simp only [Nat.sub_zero] at h2
  have hlt : i < args.length := by
    rcases Nat.lt_or_ge i args.length with hh | hh
    · exact hh
    · simp [List.getElem?_eq_none hh] at h2
  rw [Array.getElem?_append_left (by simpa using hlt)]
  simpa using h2
end Go.Eng
namespace Go.Eng
open Go Go.RowKit
set_option linter.unusedVariables false
variable {r : Option Nat} {n N : Nat} {P : Program} {D : List Deferred} {E : Env} {H : World → Prop} {Q : Exit → Act → World → Prop}
variable {w0 : World} {Rs L : List Res} {d : Nat} {ty : TypeId}
/-- append, the new row's address and room by name. -/
theorem apS {T e k bytes m c nn : Nat} {v : Value} {xs news : List Value} {ad : Addr} {x y : Operand} {f : Res → List Res} (hT : ElemOf P T e k bytes) (hx : E.ev x = some v) (hy : E.ev y = some (.slice (some ad) m c))
    (hp : Pos Rs (ownR e k v nn xs) f) (hl : news.length = m * k) (hnews : ∀ W, HP w0 Rs W → ∀ j u, news[j]? = some u → W.cell? (ad.add j) = some u) (h1 : ∀ u ∈ news, u.oneCell' = true)
    (h63 : nn + m ≤ maxLen) (hbytes : (nn + m) * bytes ≤ 140737488355328) :
    OpE r n P (.call { callee := .builtin .append, args := #[x, y], argTypes := #[T, T] }) ty E (HP w0 Rs) (fun s : Option Addr × Nat => .slice s.1 (nn + m) s.2) (fun _ => True) (fun s => HP w0 (f (ownR e k (.slice s.1 (nn + m) s.2) (nn + m) (xs ++ news)))) :=
  fun d p af g a W K Q ho hw kk => ap hT hx hy hp hl hnews h1 h63 hbytes d p af g a W K Q ho hw fun v' hv W' hW' => by
    obtain ⟨⟨A, c, rfl⟩, _⟩ := hv
    exact kk (A, c) trivial W' hW'
theorem nw {b T : Nat} {vs : List Value} {f : Res → List Res} (hp : Pos Rs (cellR b T vs) f) : ∀ W, HP w0 Rs W → ∀ j u, vs[j]? = some u → W.cell? ((⟨b, 0, none⟩ : Addr).add j) = some u := fun W hW j u hu => by
  rw [Addr.add_lit, Nat.zero_add]; exact hW.cellAt hp j u hu
/-- A conversion that looks at the memory. -/
theorem cvw {S T : TypeId} {x : Operand} {a v : Value} (hx : E.ev x = some a) (h : ∀ W, H W → (convert S T a).run P W = .ok v W) : OpP P (.convert S T x) ty E H v :=
  ⟨by simp, fun ρ W ho hw d p af g => by simp [execOp, ho x (by simp [Op.operands]) _ hx, h W hw]⟩
theorem shape_of {W : World} {b T : Nat} {vs : List Value} {f : Res → List Res} (hW : HP w0 Rs W) (hp : Pos Rs (cellR b T vs) f) : W.shape? b = some (T, vs.length) := by
  simp [World.shape?, hW.cell hp]
theorem ownR_rowOf {e k : Nat} {α : Type} {enc : α → List Value} {l : List α} {c : Nat} {A : Option Addr} {W : World} (h : (ownR e k (.slice A l.length c) l.length (l.flatMap enc)).ok W) : rowOf W k enc A l := ownR_row h
end Go.Eng
namespace Go.Eng
open Go Go.RowKit
set_option linter.unusedVariables false
variable {r : Option Nat} {n N : Nat} {P : Program} {D : List Deferred} {E : Env} {Q : Exit → Act → World → Prop} {ops : Array Oper} {Z : World → Prop}
variable {w0 : World} {L : List Res} {d i : Nat} {l : List (Nat × DK)} {o : Oper}
theorem Take.app {Rs Rs' : List Res} {A : Res} (h : Take Rs A Rs') (Fr : List Res) : Take (Rs ++ Fr) A (Rs' ++ Fr) := by
  induction h with
  | head => exact .head
  | tail _ ih => exact .tail ih
theorem Takes.app {Rs Rs' As : List Res} (h : Takes Rs As Rs') (Fr : List Res) : Takes (Rs ++ Fr) As (Rs' ++ Fr) := by
  induction h with
  | tn => exact .tn
  | tc h _ ih => exact .tc (h.app Fr) ih
/-- Calls that turn memory, in a region that draws. -/
theorem dm {f : Operand} {args : List Operand} {ats : Array TypeId} {g : Nat} {vs : List Value} {σ : Type} {val : σ → Value} {φ : σ → Prop} {R : σ → List Res} {It Rs' : List Res} (ho : ops[i]? = some o) (hd : o.dst = some d) (hN : Nat.blt d N = true) (hg : GOK ops E o)
    (hop : o.op = .call { callee := .value f, args := args.toArray, argTypes := ats }) (he : Enters P g) (hf : E.ev f = some (.func (.func g) #[] #[])) (hv : E.evs args = some vs) (ht : Takes L It Rs')
    (hc : RetM P w0 g vs It val φ R) (hz : ∀ s Fr W, HP w0 ((R s ++ Rs') ++ Fr) W → Z W) (k : ∀ s, φ s → DC r n P ops Q N D w0 Z l ((d, val s) :: E) (R s ++ Rs')) : DC r n P ops Q N D w0 Z ((i, .x) :: l) E L :=
  de (L' := fun s => R s ++ Rs') ho hd hN hg (fun Fr => by rw [hop]; simpa only [List.append_assoc] using retm he hf hv (ht.app Fr) hc) hz k
theorem dm0 {f : Operand} {args : List Operand} {ats : Array TypeId} {g : Nat} {vs : List Value} {v : Value} {φ : Unit → Prop} {R It Rs' : List Res} (ho : ops[i]? = some o) (hd : o.dst = none) (hg : GOK ops E o)
    (hop : o.op = .call { callee := .value f, args := args.toArray, argTypes := ats }) (he : Enters P g) (hf : E.ev f = some (.func (.func g) #[] #[])) (hv : E.evs args = some vs) (ht : Takes L It Rs')
    (hc : RetM P w0 g vs It (fun _ : Unit => v) φ (fun _ => R)) (hz : ∀ Fr W, HP w0 ((R ++ Rs') ++ Fr) W → Z W) (k : DC r n P ops Q N D w0 Z l E (R ++ Rs')) : DC r n P ops Q N D w0 Z ((i, .x) :: l) E L :=
  .eff (σ := Unit) (val := fun _ => v) (φ := φ) (L' := fun _ => R ++ Rs') ho hg (by rw [hd]; rfl) (fun Fr => by rw [hop]; simpa only [List.append_assoc] using retm he hf hv (ht.app Fr) hc) (fun _ => hz) (by rw [hd]; exact fun _ _ => k)
end Go.Eng

namespace Go.Eng
open Go Go.RowKit
set_option linter.unusedVariables false
variable {r : Option Nat} {n N : Nat} {P : Program} {D : List Deferred} {E : Env} {H : World → Prop} {Q : Exit → Act → World → Prop} {ops : Array Oper} {rest : List Oper} {d : Nat} {ty : TypeId} {ps : String} {af : Array Edge} {op : Op}
/-- A guard that was passed over itself. -/
theorem xgU {j : Nat} {b : Bool} {t : Nat} (ht : (ops[j]?).bind (·.dst) = some t) (hc : E.get t = some undef) (hN : Nat.blt d N = true)
    (hno : XL r n P ops Q rest N D ((d, undef) :: E) H) :
    XL r n P ops Q ({ dst := some d, op := op, type := ty, pos := ps, after := af, guard := some (j, b) } :: rest) N D E H := by
  intro a W ha hw
  have hy : yielded ops a.tmps j = none := by simp [yielded, ht, ha.get t _ hc, undef]
  unfold wpListIn
  rw [if_neg (by simp only [Region.wanted, hy]; simp)]
  exact ⟨fun f _ => RF_fn r f, hno _ W (ha.put d _ hN) hw⟩
end Go.Eng
namespace Go.Eng
open Go Go.RowKit
set_option linter.unusedVariables false
variable {n N : Nat} {P : Program} {D : List Deferred} {E : Env} {H : World → Prop} {Q : Exit → Act → World → Prop}
theorem xc_scope {c : Code} (h : XC none n P c (Exit.noGoto Q) N D E H) : XC none n P (Code.scope c) Q N D E H := fun a W ha hw => by
  have h1 := h a W ha hw
  rw [RF_none, wpIn_wide] at h1 ⊢
  exact wp_scope_straight h1
theorem xq_ng (h : XQ Q .normal N D E H) : XQ (Exit.noGoto Q) .normal N D E H := h
theorem xq_ng_ret (h : XQ Q .ret N D E H) : XQ (Exit.noGoto Q) .ret N D E H := h
theorem xq_ng_exit {id : Nat} (h : XQ Q (.exit id) N D E H) : XQ (Exit.noGoto Q) (.exit id) N D E H := h
end Go.Eng
namespace Go.Eng
open Go Go.RowKit
set_option linter.unusedVariables false
variable {r : Option Nat} {n N : Nat} {P : Program} {D : List Deferred} {E : Env} {H : World → Prop} {Q : Exit → Act → World → Prop} {ops : Array Oper} {l : List Oper}
theorem xl_em (p : Prop) (h1 : p → XL r n P ops Q l N D E H) (h2 : ¬ p → XL r n P ops Q l N D E H) : XL r n P ops Q l N D E H := (Classical.em p).elim h1 h2
theorem xc_em {c : Code} (p : Prop) (h1 : p → XC r n P c Q N D E H) (h2 : ¬ p → XC r n P c Q N D E H) : XC r n P c Q N D E H := (Classical.em p).elim h1 h2
end Go.Eng
end
section
namespace Go.Eng
open Go Go.RowKit Go.Maps
set_option linter.unusedVariables false
set_option linter.unusedSimpArgs false
variable {r : Option Nat} {n N : Nat} {P : Program} {D : List Deferred} {E : Env} {H : World → Prop} {Q : Exit → Act → World → Prop}
variable {w0 : World} {Rs L : List Res} {d : Nat} {ty : TypeId}
/-! # Maps of the call's own, from keys to integers -/
def mapR (P : Program) (k e : TypeId) (q : IntKind) (b m : Nat) (g : Lit → Int) : Res where
  fp := fun x => x = b
  ok := fun W => ∃ D : DataW Unit, W.ownsMap P k (plainElem P e) b m D ∧ IsMap D ∧ ∀ kl, WideAt.IsKeyLit kl → D.atKey kl (.lit (.int q 0)) = .lit (.int q (g kl))
  loc := fun W W' h ⟨D, ⟨es, clock, hb, r⟩, h2, h3⟩ => ⟨D, ⟨es, clock, by rw [h b rfl]; exact hb, r⟩, h2, h3⟩
noncomputable def mput (g : Lit → Int) (kl : Lit) (v : Int) : Lit → Int := fun l => @ite _ (l = kl) (Classical.propDecidable _) v (g l)
theorem mput_same (g : Lit → Int) (kl : Lit) (v : Int) : mput g kl v kl = v := by simp [mput]
theorem mput_other {g : Lit → Int} {kl l : Lit} {v : Int} (h : l ≠ kl) : mput g kl v l = g l := by simp [mput, h]
/-- A map's type: its keys' law. -/
structure MapOf (P : Program) (T k e : TypeId) (q : IntKind) : Prop where
  K : Keyed P k
  ht : P.underlying T = some (.map k e)
  he : P.underlying e = some (.int q)
  hz : ∀ w, (zeroValue e).run P w = .ok (.int q 0) w
theorem mlk {T k e b m : Nat} {q : IntKind} {g : Lit → Int} {x y : Operand} {key : Value} {kl : Lit} {f : Res → List Res} (hM : MapOf P T k e q) (hx : E.ev x = some (.map (some b))) (hy : E.ev y = some key) (hk : keyOf P k key = some kl) (hp : Pos Rs (mapR P k e q b m g) f) :
    OpP P (.lookup T x y false) ty E (HP w0 Rs) (.int q (g kl)) :=
  ⟨by simp, fun ρ W ho hw d p af gg => by
    have e1 := ho x (by simp [Op.operands]) _ hx
    have e2 := ho y (by simp [Op.operands]) _ hy
    obtain ⟨D, h1, h2, h3⟩ := hw.mem_ok hp
    obtain ⟨c, hrun, hat, _⟩ := h1.lookup_int hM.K hM.ht hM.he (hM.hz W) hk
    have := h3 kl (hM.K.key hk)
    rw [hat] at this
    simp only [DataW.lit.injEq, Lit.int.injEq, true_and] at this
    subst this
    simp [execOp, e1, e2, hrun]⟩
theorem mu {T k e b m : Nat} {q : IntKind} {g : Lit → Int} {x y z : Operand} {key : Value} {kl : Lit} {v : Int} {f : Res → List Res} (hM : MapOf P T k e q) (hx : E.ev x = some (.map (some b))) (hy : E.ev y = some key) (hv : E.ev z = some (.int q v)) (hk : keyOf P k key = some kl) (hw : (Lit.int q v).wf = true)
    (hm : m < maxLen) (hp : Pos Rs (mapR P k e q b m g) f) :
    OpE r n P (.mapUpdate T x y z) ty E (HP w0 Rs) (fun _ : Unit => undef) (fun _ => True) (fun _ => HP w0 (f (mapR P k e q b (m + 1) (mput g kl v)))) :=
  OpE.of_skip (by simp) (fun ρ W ho hW => by
    have e1 := ho x (by simp [Op.operands]) _ hx
    have e2 := ho y (by simp [Op.operands]) _ hy
    have e3 := ho z (by simp [Op.operands]) _ hv
    obtain ⟨D, h1, h2, h3⟩ := hW.mem_ok hp
    obtain ⟨W', hrun, h4, h5⟩ := h1.update hM.K hM.ht hm hk (plainElem_int (H := Unit) hM.he hw)
    have hlt := HPs.lt hW.res _ hp.mem b rfl
    refine ⟨W', fun d p af gg => by simp [execOp, e1, e2, e3, hrun], hW.put hp _ ⟨h5.os, h5.tape, h5.output, h5.size, fun j hj => h5.block j (by omega) (fun e => by cases e; omega)⟩ (fun j hj hn => h5.block j hj (fun e => hn (by cases e; rfl))) ⟨_, h4, ?_, fun l hl => ?_⟩ (fun j hj => ⟨.inl hj, by simp only [mapR] at hj; subst hj; exact Nat.lt_of_lt_of_le hlt.2 h5.size⟩)⟩
    · obtain ⟨es, rfl⟩ := h2; exact ⟨_, rfl⟩
    · by_cases hl' : l = kl
      · subst hl'; rw [mput_same, atKey_put_same h2 hl]
      · rw [mput_other hl', atKey_put_other hl', h3 l hl])
theorem mkm {T : TypeId} (k e : TypeId) (q : IntKind) : OpE r n P (.makeMap T none) ty E (HP w0 Rs) (fun b : Nat => .map (some b)) (fun _ => True) (fun b => HP w0 (mapR P k e q b 0 (fun _ => 0) :: Rs)) :=
  OpE.of_run (by simp) (fun ρ W ho hw => ⟨W.heap.size, W.alloc (.map #[] 0), fun d p af gg => by simp [execOp, Instr.makeMap, newObj, Sem.run, Sem.run_bind, Result.andThen], trivial,
    hw.add _ ((Below.refl _ W).alloc (Nat.le_refl _) _) ⟨.map [], World.ownsMap_made W P k (plainElem P e), isMap_empty, fun kl _ => rfl⟩ (fun b hb => by simp only [mapR] at hb; subst hb; simp)⟩)
end Go.Eng
end
section
namespace Go.Eng
open Go Go.RowKit
set_option linter.unusedVariables false
set_option linter.unusedSimpArgs false
variable {r : Option Nat} {n N : Nat} {P : Program} {D : List Deferred} {E : Env} {H : World → Prop} {Q : Exit → Act → World → Prop} {ops : Array Oper} {rest : List Oper}
/-- A slice held against nil. -/
theorem bk_veql {T e : TypeId} {x y : Operand} {A : Option Addr} {m c : Nat} (h : P.underlying T = some (.slice e)) : BinOK P .eql T x y (.slice A m c) (.slice none 0 0) (.bool A.isNone) := fun w => by
  have := Lib.run_eql_slice_nil (P := P) w T e A m c 0 0 h
  simp [eqGuard, this]
/-- What is told of the memory, in other words, amid a line. -/
theorem xl_toH {l : List Oper} (H' : World → Prop) (h : ∀ W, H W → H' W) (k : XL r n P ops Q l N D E H') : XL r n P ops Q l N D E H := fun a W ha hw => k a W ha (h W hw)
end Go.Eng
end
section
namespace Go.Eng
set_option linter.unusedVariables false
/-! # Sorting, in plain words: rows as functions of their places -/
namespace Srt
variable {α : Type _}
/-- lt is a strict weak order. -/
structure SWO (lt : α → α → Bool) : Prop where
  asymm : ∀ x y, lt x y = true → lt y x = false
  trans : ∀ x y z, lt y x = false → lt z y = false → lt z x = false
variable {lt : α → α → Bool}
/-- In order on a ≤ . < b. -/
def On (lt : α → α → Bool) (x : Nat → α) (a b : Nat) : Prop := ∀ i j, a ≤ i → i < j → j < b → lt (x j) (x i) = false
theorem SWO.irrefl (h : SWO lt) (x : α) : lt x x = false := by
  cases e : lt x x with
  | false => rfl
  | true => have := h.asymm _ _ e; rw [e] at this; cases this
theorem On.le (h : SWO lt) {x : Nat → α} {a b i j : Nat} (hs : On lt x a b) (h1 : a ≤ i) (h2 : i ≤ j) (h3 : j < b) : lt (x j) (x i) = false := by
  rcases Nat.lt_or_eq_of_le h2 with h4 | h4
  · exact hs i j h1 h4 h3
  · subst h4; exact h.irrefl _
theorem On.sub {x : Nat → α} {a b c d : Nat} (hs : On lt x a b) (h1 : a ≤ c) (h2 : d ≤ b) : On lt x c d := fun i j h3 h4 h5 => hs i j (by omega) h4 (by omega)
theorem On.small {x : Nat → α} {a b : Nat} (h : b ≤ a + 1) : On lt x a b := fun i j h3 h4 h5 => by omega
/-- The same on a ≤ . < b. -/
theorem On.congr {x y : Nat → α} {a b : Nat} (hs : On lt x a b) (h : ∀ k, a ≤ k → k < b → y k = x k) : On lt y a b := fun i j h3 h4 h5 => by rw [h i h3 (by omega), h j (by omega) h5]; exact hs i j h3 h4 h5
theorem On.shift {x y : Nat → α} {a b c d : Nat} (hs : On lt x c d) (h : ∀ k, a ≤ k → k < b → ∃ k', y k = x k' ∧ k' + a = k + c) (hd : b - a ≤ d - c) : On lt y a b := fun i j h3 h4 h5 => by
  obtain ⟨i', e1, h6⟩ := h i h3 (by omega)
  obtain ⟨j', e2, h7⟩ := h j (by omega) h5
  rw [e1, e2]; exact hs i' j' (by omega) (by omega) (by omega)

/-- A rearrangement of what stands on a ≤ . < b. -/
def Re (a b : Nat) (x y : Nat → α) : Prop := ∃ s t : Nat → Nat, (∀ k, t (s k) = k) ∧ (∀ k, s (t k) = k) ∧ (∀ k, k < a ∨ b ≤ k → s k = k) ∧ ∀ k, y k = x (s k)
theorem Re.refl (a b : Nat) (x : Nat → α) : Re a b x x := ⟨id, id, fun _ => rfl, fun _ => rfl, fun _ _ => rfl, fun _ => rfl⟩
theorem Re.trans {a b : Nat} {x y z : Nat → α} (h1 : Re a b x y) (h2 : Re a b y z) : Re a b x z := by
  obtain ⟨s, t, p1, p2, p3, p4⟩ := h1
  obtain ⟨s', t', q1, q2, q3, q4⟩ := h2
  exact ⟨fun k => s (s' k), fun k => t' (t k), fun k => by simp only [p1, q1], fun k => by simp only [q2, p2], fun k hk => by simp only [q3 k hk, p3 k hk], fun k => by rw [q4, p4]⟩
theorem Re.wide {a b c d : Nat} {x y : Nat → α} (h : Re a b x y) (h1 : c ≤ a) (h2 : b ≤ d) : Re c d x y := by
  obtain ⟨s, t, p1, p2, p3, p4⟩ := h
  exact ⟨s, t, p1, p2, fun k hk => p3 k (by omega), p4⟩
theorem Re.out {a b : Nat} {x y : Nat → α} (h : Re a b x y) {k : Nat} (hk : k < a ∨ b ≤ k) : y k = x k := by
  obtain ⟨s, t, p1, p2, p3, p4⟩ := h
  rw [p4, p3 k hk]
theorem Re.at {a b : Nat} {x y : Nat → α} (h : Re a b x y) {k : Nat} (h1 : a ≤ k) (h2 : k < b) : ∃ k', a ≤ k' ∧ k' < b ∧ y k = x k' := by
  obtain ⟨s, t, p1, p2, p3, p4⟩ := h
  refine ⟨s k, ?_, ?_, p4 k⟩
  · refine Classical.byContradiction fun hn => ?_
    have h3 := p3 (s k) (by omega)
    have h4 : s k = k := by rw [← p1 (s k), h3, p1]
    omega
  · refine Classical.byContradiction fun hn => ?_
    have h3 := p3 (s k) (by omega)
    have h4 : s k = k := by rw [← p1 (s k), h3, p1]
    omega
def upd (x : Nat → α) (i : Nat) (v : α) : Nat → α := fun k => if k = i then v else x k
def swp (x : Nat → α) (i j : Nat) : Nat → α := fun k => if k = i then x j else if k = j then x i else x k
theorem swp_upd (x : Nat → α) (i j : Nat) : upd (upd x i (x j)) j (x i) = swp x i j := by
  funext k; simp only [upd, swp]
  by_cases h1 : k = j
  · subst h1; by_cases h2 : k = i
    · subst h2; simp
    · simp [h2]
  · simp [h1]
theorem swp_comm (x : Nat → α) (i j : Nat) : swp x i j = swp x j i := by
  funext k; simp only [swp]
  by_cases h1 : k = i
  · subst h1; by_cases h2 : k = j
    · subst h2; simp
    · simp [h2]
  · by_cases h2 : k = j
    · subst h2; simp [h1]
    · simp [h1, h2]
theorem swp_inv (i j k : Nat) : swp id i j (swp id i j k) = k := by
  simp only [swp, id]
  by_cases h1 : k = i
  · subst h1; by_cases h2 : j = k
    · subst h2; simp
    · simp [h2]
  · by_cases h2 : k = j
    · subst h2; simp [h1]
    · simp [h1, h2]
theorem Re.swp {a b i j : Nat} (x : Nat → α) (h1 : a ≤ i) (h2 : i < b) (h3 : a ≤ j) (h4 : j < b) : Re a b x (swp x i j) :=
  ⟨Srt.swp id i j, Srt.swp id i j, swp_inv i j, swp_inv i j, fun k hk => by simp only [Srt.swp]; rw [if_neg (by omega), if_neg (by omega)]; rfl, fun k => by
    simp only [Srt.swp, id]; split
    · rfl
    · split <;> rfl⟩

/-! ## Two ranges in each other's place; rotations -/
def swr (x : Nat → α) (p q n : Nat) : Nat → α := fun k => if p ≤ k ∧ k < p + n then x (q + (k - p)) else if q ≤ k ∧ k < q + n then x (p + (k - q)) else x k
theorem swr_zero (x : Nat → α) (p q : Nat) : swr x p q 0 = x := by
  funext k; simp only [swr]; rw [if_neg (by omega), if_neg (by omega)]
theorem swr_succ (x : Nat → α) {p q n : Nat} (h : p + n < q) : swp (swr x p q n) (p + n) (q + n) = swr x p q (n + 1) := by
  funext k; simp only [swp, swr]
  by_cases h1 : k = p + n
  · subst h1
    rw [if_pos rfl, if_neg (by omega), if_neg (by omega), if_pos (by omega)]; congr 1; omega
  · rw [if_neg h1]
    by_cases h2 : k = q + n
    · subst h2
      rw [if_pos rfl, if_neg (by omega), if_neg (by omega), if_neg (by omega), if_pos (by omega)]; congr 1; omega
    · rw [if_neg h2]
      by_cases h3 : p ≤ k ∧ k < p + n
      · rw [if_pos h3, if_pos (by omega)]
      · rw [if_neg h3]
        by_cases h4 : q ≤ k ∧ k < q + n
        · rw [if_pos h4, if_neg (by omega), if_pos (by omega)]
        · rw [if_neg h4, if_neg (by omega), if_neg (by omega)]
theorem Re.swr {a b p q : Nat} (x : Nat → α) : ∀ n, p + n ≤ q → a ≤ p → q + n ≤ b → Re a b x (Srt.swr x p q n)
  | 0, _, _, _ => by rw [swr_zero]; exact Re.refl _ _ _
  | n + 1, h1, h2, h3 => by
    rw [← swr_succ x (by omega)]
    exact (Re.swr x n (by omega) h2 (by omega)).trans (Re.swp _ (by omega) (by omega) (by omega) (by omega))
def rot (x : Nat → α) (s m e : Nat) : Nat → α := fun k => if s ≤ k ∧ k < e then (if k < s + (e - m) then x (k + (m - s)) else x (k - (e - m))) else x k
theorem rot_big (z : Nat → α) {m i j : Nat} (hm : i ≤ m) (hj : 0 < j) (h : j < i) : rot (swr z (m - i) m j) (m - (i - j)) m (m + j) = rot z (m - i) m (m + j) := by
  funext k; simp only [rot, swr]
  by_cases h1 : m - i ≤ k ∧ k < m + j
  · rw [if_pos h1]
    by_cases h2 : k < m - i + j
    · rw [if_neg (by omega), if_pos (by omega), if_pos (by omega)]; congr 1; omega
    · rw [if_pos (by omega)]
      rw [if_neg (show ¬ k < m - i + (m + j - m) by omega)]
      by_cases h3 : k < m - (i - j) + (m + j - m)
      · rw [if_pos h3, if_neg (by omega), if_pos (by omega)]; congr 1; omega
      · rw [if_neg h3, if_neg (by omega), if_neg (by omega)]
  · rw [if_neg h1, if_neg (by omega), if_neg (by omega), if_neg (by omega)]
theorem rot_small (z : Nat → α) {m i j : Nat} (hm : i ≤ m) (hi : 0 < i) (h : i < j) : rot (swr z (m - i) (m + j - i) i) (m - i) m (m + (j - i)) = rot z (m - i) m (m + j) := by
  funext k; simp only [rot, swr]
  by_cases h1 : m - i ≤ k ∧ k < m + j
  · rw [if_pos h1]
    by_cases h2 : k < m + (j - i)
    · rw [if_pos (by omega)]
      by_cases h3 : k < m - i + (m + (j - i) - m)
      · rw [if_pos h3, if_neg (by omega), if_neg (by omega), if_pos (by omega)]
      · rw [if_neg h3, if_pos (by omega)]
        by_cases h4 : k < m - i + (m + j - m)
        · rw [if_pos h4]; congr 1; omega
        · omega
    · rw [if_neg (by omega), if_neg (by omega), if_pos (by omega), if_neg (by omega)]; congr 1; omega
  · rw [if_neg h1, if_neg (by omega), if_neg (by omega), if_neg (by omega)]
theorem rot_same (z : Nat → α) {m i : Nat} (hm : i ≤ m) : swr z (m - i) m i = rot z (m - i) m (m + i) := by
  funext k; simp only [rot, swr]
  by_cases h1 : m - i ≤ k ∧ k < m + i
  · rw [if_pos h1]
    by_cases h2 : k < m
    · rw [if_pos (by omega), if_pos (by omega)]; congr 1; omega
    · rw [if_neg (by omega), if_pos (by omega), if_neg (by omega)]; congr 1; omega
  · rw [if_neg h1, if_neg (by omega), if_neg (by omega)]
theorem Re.rot {a b s m e : Nat} (x : Nat → α) (h1 : a ≤ s) (h2 : s ≤ m) (h3 : m ≤ e) (h4 : e ≤ b) : Re a b x (Srt.rot x s m e) := by
  refine ⟨fun k => if s ≤ k ∧ k < e then (if k < s + (e - m) then k + (m - s) else k - (e - m)) else k, fun k => if s ≤ k ∧ k < e then (if k < m then k + (e - m) else k - (m - s)) else k, fun k => ?_, fun k => ?_, fun k hk => ?_, fun k => ?_⟩
  · by_cases h : s ≤ k ∧ k < e
    · by_cases h5 : k < s + (e - m)
      · simp only [if_pos h, if_pos h5]; rw [if_pos (by omega), if_neg (by omega)]; omega
      · simp only [if_pos h, if_neg h5]; rw [if_pos (by omega), if_pos (by omega)]; omega
    · simp only [if_neg h]
  · by_cases h : s ≤ k ∧ k < e
    · by_cases h5 : k < m
      · simp only [if_pos h, if_pos h5]; rw [if_pos (by omega), if_neg (by omega)]; omega
      · simp only [if_pos h, if_neg h5]; rw [if_pos (by omega), if_pos (by omega)]; omega
    · simp only [if_neg h]
  · simp only [if_neg (show ¬ (s ≤ k ∧ k < e) by omega)]
  · simp only [Srt.rot]; split
    · split <;> rfl
    · rfl

/-! ## The merge -/
/-- What the search for the start has shown. -/
structure Split (lt : α → α → Bool) (x : Nat → α) (a m b mid start : Nat) : Prop where
  lo : a ≤ start
  hi : start ≤ mid ∧ start ≤ m
  e1 : m ≤ mid + m - start
  e2 : mid + m - start ≤ b
  uv : ∀ i j, a ≤ i → i < start → mid + m - start ≤ j → j < b → lt (x j) (x i) = false
  vu : ∀ i j, m ≤ i → i < mid + m - start → start ≤ j → j < m → lt (x j) (x i) = false
theorem Split.of (h : SWO lt) {x : Nat → α} {a m b start s0 r0 : Nat} (ham : a < m) (hmb : m < b) (hu : On lt x a m) (hv : On lt x m b)
    (hs : (m > (a + b) / 2 ∧ s0 = (a + b) / 2 + m - b ∧ r0 = (a + b) / 2) ∨ (m ≤ (a + b) / 2 ∧ s0 = a ∧ r0 = m)) (h1 : s0 ≤ start) (h2 : start ≤ r0)
    (hlo : s0 < start → lt (x ((a + b) / 2 + m - 1 - (start - 1))) (x (start - 1)) = false) (hhi : start < r0 → lt (x ((a + b) / 2 + m - 1 - start)) (x start) = true) : Split lt x a m b ((a + b) / 2) start := by
  refine ⟨by omega, by omega, by omega, by omega, fun i j g1 g2 g3 g4 => ?_, fun i j g1 g2 g3 g4 => ?_⟩
  · by_cases g5 : s0 < start
    · have k1 := hlo g5
      rw [show (a + b) / 2 + m - 1 - (start - 1) = (a + b) / 2 + m - start by omega] at k1
      exact h.trans _ _ _ (hu.le h g1 (show i ≤ start - 1 by omega) (by omega)) (h.trans _ _ _ k1 (hv.le h (by omega) g3 g4))
    · exfalso; omega
  · by_cases g5 : start < r0
    · have k1 := h.asymm _ _ (hhi g5)
      exact h.trans _ _ _ (hv.le h g1 (show i ≤ (a + b) / 2 + m - 1 - start by omega) (by omega)) (h.trans _ _ _ k1 (hu.le h (by omega) g3 g4))
    · exfalso; omega
/-- Behind the rotation, and the two merges: all is in order. -/
theorem Split.done (h : SWO lt) {x z1 z2 : Nat → α} {a m b mid start : Nat} (ham : a < m) (hmb : m < b) (ha : a < mid) (hb : mid < b) (hu : On lt x a m) (hv : On lt x m b) (hs : Split lt x a m b mid start)
    (hr1 : Re a mid (rot x start m (mid + m - start)) z1) (ho1 : On lt z1 a mid) (hr2 : Re mid b z1 z2) (ho2 : On lt z2 mid b) : On lt z2 a b := by
  obtain ⟨l1, ⟨l2, l3⟩, l4, l5, huv, hvu⟩ := hs
  -- what stands on the left stood in u1 or v1
  have left : ∀ i, a ≤ i → i < mid → ∃ k, z2 i = x k ∧ ((a ≤ k ∧ k < start) ∨ (m ≤ k ∧ k < mid + m - start)) := fun i g1 g2 => by
    obtain ⟨k, g3, g4, e⟩ := hr1.at g1 g2
    rw [hr2.out (.inl g2), e]
    by_cases g5 : k < start
    · exact ⟨k, by simp only [rot]; rw [if_neg (by omega)], .inl ⟨g3, g5⟩⟩
    · refine ⟨k + (m - start), by simp only [rot]; rw [if_pos (by omega), if_pos (by omega)], .inr (by omega)⟩
  have right : ∀ j, mid ≤ j → j < b → ∃ k, z2 j = x k ∧ ((start ≤ k ∧ k < m) ∨ (mid + m - start ≤ k ∧ k < b)) := fun j g1 g2 => by
    obtain ⟨k, g3, g4, e⟩ := hr2.at g1 g2
    rw [e, hr1.out (.inr g3)]
    by_cases g5 : k < mid + m - start
    · refine ⟨k - (mid + m - start - m), by simp only [rot]; rw [if_pos (by omega), if_neg (by omega)], .inl (by omega)⟩
    · exact ⟨k, by simp only [rot]; rw [if_neg (by omega)], .inr (by omega)⟩
  intro i j g1 g2 g3
  by_cases c1 : j < mid
  · exact (ho1.congr fun k k1 k2 => hr2.out (.inl k2)) i j g1 g2 c1
  · by_cases c2 : mid ≤ i
    · exact ho2 i j c2 g2 g3
    · obtain ⟨p, e1, hp⟩ := left i g1 (by omega)
      obtain ⟨q, e2, hq⟩ := right j (by omega) g3
      rw [e1, e2]
      rcases hp with hp | hp <;> rcases hq with hq | hq
      · exact hu p q hp.1 (by omega) hq.2
      · exact huv p q hp.1 hp.2 hq.1 hq.2
      · exact hvu p q hp.1 hp.2 hq.1 hq.2
      · exact hv p q hp.1 (by omega) hq.2
theorem Split.left (h : SWO lt) {x : Nat → α} {a m b mid start : Nat} (hu : On lt x a m) (hv : On lt x m b) (hs : Split lt x a m b mid start) :
    On lt (rot x start m (mid + m - start)) a start ∧ On lt (rot x start m (mid + m - start)) start mid ∧ On lt (rot x start m (mid + m - start)) mid (mid + m - start) ∧ On lt (rot x start m (mid + m - start)) (mid + m - start) b := by
  obtain ⟨l1, ⟨l2, l3⟩, l4, l5, -, -⟩ := hs
  refine ⟨(hu.sub (Nat.le_refl _) l3).congr fun k k1 k2 => by simp only [rot]; rw [if_neg (by omega)], (hv.sub (Nat.le_refl _) l5).shift (fun k k1 k2 => ⟨k + (m - start), by simp only [rot]; rw [if_pos (by omega), if_pos (by omega)], by omega⟩) (by omega),
    (hu.sub l1 (Nat.le_refl _)).shift (fun k k1 k2 => ⟨k - (mid + m - start - m), by simp only [rot]; rw [if_pos (by omega), if_neg (by omega)], by omega⟩) (by omega), (hv.sub l4 (Nat.le_refl _)).congr fun k k1 k2 => by simp only [rot]; rw [if_neg (by omega)]⟩
/-- One element is put where it belongs among the others, to the right · to the left. -/
def mvr (x : Nat → α) (a k : Nat) : Nat → α := rot x a (a + 1) (k + 1)
theorem mvr_zero (x : Nat → α) (a : Nat) : mvr x a a = x := by
  funext k; simp only [mvr, rot]
  by_cases h : a ≤ k ∧ k < a + 1
  · rw [if_pos h, if_neg (by omega)]; congr 1; omega
  · rw [if_neg h]
theorem mvr_succ (x : Nat → α) {a k : Nat} (h : a ≤ k) : swp (mvr x a k) k (k + 1) = mvr x a (k + 1) := by
  funext i; simp only [swp, mvr, rot]
  by_cases h1 : i = k
  · subst h1
    rw [if_pos rfl, if_neg (by omega), if_pos (by omega), if_pos (by omega)]; congr 1; omega
  · rw [if_neg h1]
    by_cases h2 : i = k + 1
    · subst h2
      rw [if_pos rfl, if_pos (by omega), if_neg (by omega), if_pos (by omega), if_neg (by omega)]; congr 1; omega
    · rw [if_neg h2]
      by_cases h3 : a ≤ i ∧ i < k + 1
      · rw [if_pos h3, if_pos (by omega), if_pos (by omega), if_pos (by omega)]
      · rw [if_neg h3, if_neg (by omega)]
theorem mvr_on (h : SWO lt) {x : Nat → α} {a b i : Nat} (hi : a < i) (hb : i ≤ b) (hv : On lt x (a + 1) b) (h1 : ∀ k, a + 1 ≤ k → k < i → lt (x k) (x a) = true) (h2 : ∀ k, i ≤ k → k < b → lt (x k) (x a) = false) : On lt (mvr x a (i - 1)) a b := by
  intro p q g1 g2 g3
  simp only [mvr, rot]
  by_cases c1 : q < i - 1
  · rw [if_pos (by omega), if_pos (by omega), if_pos (by omega), if_pos (by omega)]
    exact hv _ _ (by omega) (by omega) (by omega)
  · by_cases c2 : q = i - 1
    · rw [if_pos (by omega), if_neg (by omega), if_pos (by omega), if_pos (by omega), show q - (i - 1 + 1 - (a + 1)) = a by omega]
      exact h.asymm _ _ (h1 _ (by omega) (by omega))
    · rw [if_neg (by omega)]
      by_cases c3 : p < i - 1
      · rw [if_pos (by omega), if_pos (by omega)]
        exact hv _ _ (by omega) (by omega) (by omega)
      · by_cases c4 : p = i - 1
        · rw [if_pos (by omega), if_neg (by omega), show p - (i - 1 + 1 - (a + 1)) = a by omega]
          exact h2 _ (by omega) (by omega)
        · rw [if_neg (by omega)]
          exact hv _ _ (by omega) (by omega) (by omega)
theorem Re.mvr {a b c k : Nat} (x : Nat → α) (h1 : a ≤ c) (h2 : c ≤ k) (h3 : k < b) : Re a b x (Srt.mvr x c k) := Re.rot x h1 (by omega) (by omega) (by omega)
def mvl (x : Nat → α) (k m : Nat) : Nat → α := rot x k m (m + 1)
theorem mvl_zero (x : Nat → α) (m : Nat) : mvl x m m = x := by
  funext k; simp only [mvl, rot]
  by_cases h : m ≤ k ∧ k < m + 1
  · rw [if_pos h, if_pos (by omega)]; congr 1; omega
  · rw [if_neg h]
theorem mvl_succ (x : Nat → α) {k m : Nat} (h : k < m) : swp (mvl x (k + 1) m) (k + 1) k = mvl x k m := by
  funext i; simp only [swp, mvl, rot]
  by_cases h1 : i = k + 1
  · subst h1
    rw [if_pos rfl, if_neg (by omega), if_pos (by omega), if_neg (by omega)]; congr 1; omega
  · rw [if_neg h1]
    by_cases h2 : i = k
    · subst h2
      rw [if_pos rfl, if_pos (by omega), if_pos (by omega), if_pos (by omega), if_pos (by omega)]; congr 1; omega
    · rw [if_neg h2]
      by_cases h3 : k + 1 ≤ i ∧ i < m + 1
      · rw [if_pos h3, if_neg (by omega), if_pos (by omega), if_neg (by omega)]
      · rw [if_neg h3, if_neg (by omega)]
theorem mvl_on (h : SWO lt) {x : Nat → α} {a m i : Nat} (hi : a ≤ i) (hb : i ≤ m) (hu : On lt x a m) (h1 : ∀ k, a ≤ k → k < i → lt (x m) (x k) = false) (h2 : ∀ k, i ≤ k → k < m → lt (x m) (x k) = true) : On lt (mvl x i m) a (m + 1) := by
  intro p q g1 g2 g3
  simp only [mvl, rot]
  by_cases c1 : q < i
  · rw [if_neg (by omega), if_neg (by omega)]
    exact hu _ _ (by omega) (by omega) (by omega)
  · by_cases c2 : q = i
    · subst c2
      rw [if_pos (by omega), if_pos (by omega), if_neg (by omega), show q + (m - q) = m by omega]
      exact h1 _ (by omega) (by omega)
    · rw [if_pos (by omega), if_neg (by omega)]
      by_cases c3 : p < i
      · rw [if_neg (by omega)]
        exact hu _ _ (by omega) (by omega) (by omega)
      · by_cases c4 : p = i
        · subst c4
          rw [if_pos (by omega), if_pos (by omega), show p + (m - p) = m by omega]
          exact h.asymm _ _ (h2 _ (by omega) (by omega))
        · rw [if_pos (by omega), if_neg (by omega)]
          exact hu _ _ (by omega) (by omega) (by omega)
theorem Re.mvl {a b k m : Nat} (x : Nat → α) (h1 : a ≤ k) (h2 : k ≤ m) (h3 : m < b) : Re a b x (Srt.mvl x k m) := Re.rot x h1 h2 (by omega) (by omega)

/-! ## What comes of it, for lists -/
def row (n : Nat) (x : Nat → α) : List α := (List.range n).map x
theorem Re.perm {n : Nat} {x y : Nat → α} (h : Re 0 n x y) : (row n y).Perm (row n x) := by
  obtain ⟨s, t, p1, p2, p3, p4⟩ := h
  have e : row n y = ((List.range n).map s).map x := by simp only [row, List.map_map]; exact List.map_congr_left fun k _ => p4 k
  rw [e]
  refine List.Perm.map _ ?_
  have hin : ∀ k, k < n → s k < n := fun k hk => Classical.byContradiction fun hn => by
    have h3 := p3 (s k) (by omega)
    have h4 : s k = k := by rw [← p1 (s k), h3, p1]
    omega
  have hin' : ∀ k, k < n → t k < n := fun k hk => Classical.byContradiction fun hn => by
    have h3 := p3 (t k) (by omega)
    rw [p2] at h3; omega
  refine (List.perm_ext_iff_of_nodup ?_ List.nodup_range).2 fun k => ?_
  · rw [List.nodup_iff_pairwise_ne, List.pairwise_map]
    exact (List.nodup_iff_pairwise_ne.1 List.nodup_range).imp fun {a b} hne e => hne (by rw [← p1 a, e, p1])
  · simp only [List.mem_map, List.mem_range]
    constructor
    · rintro ⟨i, hi, rfl⟩; exact hin i hi
    · intro hk; exact ⟨t k, hin' k hk, p2 k⟩
theorem On.pairwise {n : Nat} {x : Nat → α} (h : On lt x 0 n) : (row n x).Pairwise (fun a b => lt b a = false) := by
  rw [List.pairwise_iff_getElem]
  intro i j hi hj hij
  simp only [row, List.length_map, List.length_range] at hi hj
  simp only [row, List.getElem_map, List.getElem_range]
  exact h i j (Nat.zero_le _) hij hj
/-- A row in order is told by what is in it. -/
theorem unique (h : ∀ x y, lt x y = false → lt y x = false → x = y) : ∀ {l m : List α}, l.Perm m → l.Pairwise (fun a b => lt b a = false) → m.Pairwise (fun a b => lt b a = false) → l = m := by
  intro l m hp h1 h2
  exact hp.eq_of_pairwise (fun a b _ _ ha hb => h _ _ hb ha) h1 h2
end Srt
end Go.Eng
end
section
namespace Go.Eng
open Go Go.RowKit
set_option linter.unusedVariables false
set_option linter.unusedSimpArgs false
variable {r : Option Nat} {n N : Nat} {P : Program} {D : List Deferred} {E : Env} {H : World → Prop} {Q : Exit → Act → World → Prop} {ops : Array Oper} {rest : List Oper}
variable {w0 : World} {Rs L : List Res} {d : Nat} {ty : TypeId}

/-! ## 1. Many pieces of memory as one -/
def SepOk : List Res → World → Prop
  | [], _ => True
  | R :: Rs, W => R.ok W ∧ (∀ S ∈ Rs, ∀ b, R.fp b → S.fp b → False) ∧ SepOk Rs W
theorem SepOk.loc {W W' : World} : ∀ {Rs : List Res}, (∀ b, (∃ R ∈ Rs, R.fp b) → W'.heap[b]? = W.heap[b]?) → SepOk Rs W → SepOk Rs W'
  | [], _, _ => trivial
  | R :: Rs, h, ⟨h1, h2, h3⟩ => ⟨R.loc W W' (fun b hb => h b ⟨R, by simp, hb⟩) h1, h2, SepOk.loc (fun b ⟨S, hS, hb⟩ => h b ⟨S, by simp [hS], hb⟩) h3⟩
theorem SepOk.ok {W : World} : ∀ {Rs : List Res}, SepOk Rs W → ∀ S ∈ Rs, S.ok W
  | [], _, S, hS => by simp at hS
  | R :: Rs, ⟨h1, _, h3⟩, S, hS => by
    rcases List.mem_cons.1 hS with rfl | hS
    · exact h1
    · exact SepOk.ok h3 S hS
def starR (Rs : List Res) : Res where
  fp := fun b => ∃ R ∈ Rs, R.fp b
  ok := SepOk Rs
  loc := fun W W' h hk => SepOk.loc h hk
theorem HPs.sep {lo : Nat} {W : World} : ∀ {Rs : List Res}, HPs lo Rs W → SepOk Rs W
  | [], _ => trivial
  | R :: Rs, ⟨h1, _, h3, h4⟩ => ⟨h1, h3, HPs.sep h4⟩
theorem HPs.of_sep {lo : Nat} {W : World} : ∀ {Rs : List Res}, SepOk Rs W → (∀ S ∈ Rs, ∀ b, S.fp b → lo ≤ b ∧ b < W.heap.size) → HPs lo Rs W
  | [], _, _ => trivial
  | R :: Rs, ⟨h1, h3, h4⟩, h => ⟨h1, h R (by simp), h3, HPs.of_sep h4 (fun S hS => h S (by simp [hS]))⟩
theorem HPs.app {lo : Nat} {W : World} : ∀ {Xs Ys : List Res}, HPs lo (Xs ++ Ys) W → HPs lo Xs W ∧ HPs lo Ys W ∧ ∀ X ∈ Xs, ∀ Y ∈ Ys, ∀ b, X.fp b → Y.fp b → False
  | [], Ys, h => ⟨trivial, h, by simp⟩
  | X :: Xs, Ys, ⟨h1, h2, h3, h4⟩ => by
    obtain ⟨k1, k2, k3⟩ := HPs.app h4
    refine ⟨⟨h1, h2, fun S hS => h3 S (by simp [hS]), k1⟩, k2, fun Z hZ Y hY b hb hY' => ?_⟩
    rcases List.mem_cons.1 hZ with rfl | hZ
    · exact h3 Y (by simp [hY]) b hb hY'
    · exact k3 Z hZ Y hY b hb hY'
theorem HPs.of_app {lo : Nat} {W : World} : ∀ {Xs Ys : List Res}, HPs lo Xs W → HPs lo Ys W → (∀ X ∈ Xs, ∀ Y ∈ Ys, ∀ b, X.fp b → Y.fp b → False) → HPs lo (Xs ++ Ys) W
  | [], Ys, _, h, _ => h
  | X :: Xs, Ys, ⟨h1, h2, h3, h4⟩, h, hd => ⟨h1, h2, fun S hS b hb hSb => by
      rcases List.mem_append.1 hS with hS | hS
      · exact h3 S hS b hb hSb
      · exact hd X (by simp) S hS b hb hSb, HPs.of_app h4 h (fun Z hZ => hd Z (by simp [hZ]))⟩
theorem HP.star {W : World} {Xs Ys : List Res} (h : HP w0 (Xs ++ Ys) W) : HP w0 (starR Xs :: Ys) W := by
  obtain ⟨k1, k2, k3⟩ := h.res.app
  exact ⟨h.below, k1.sep, fun b ⟨R, hR, hb⟩ => HPs.lt k1 R hR b hb, fun S hS b ⟨R, hR, hb⟩ hSb => k3 R hR S hS b hb hSb, k2⟩
theorem HP.unstar {W : World} {Xs Ys : List Res} (h : HP w0 (starR Xs :: Ys) W) : HP w0 (Xs ++ Ys) W := by
  obtain ⟨hb, h1, h2, h3, h4⟩ := h
  exact ⟨hb, HPs.of_app (HPs.of_sep h1 (fun S hS b hSb => h2 b ⟨S, hS, hSb⟩)) h4 (fun X hX Y hY b hXb hYb => h3 Y hY b ⟨X, hX, hXb⟩ hYb)⟩
/-- A piece more. -/
theorem HP.star_cons {W : World} {X : Res} {Xs Ys : List Res} (h : HP w0 (X :: starR Xs :: Ys) W) : HP w0 (starR (X :: Xs) :: Ys) W := by
  have h1 : HP w0 (starR Xs :: X :: Ys) W := h.swap
  have h2 := h1.unstar
  have h3 : HP w0 (X :: (Xs ++ Ys)) W := h2.perm List.perm_middle
  exact HP.star (Xs := X :: Xs) h3
theorem HP.star_nil {W : World} {Ys : List Res} (h : HP w0 Ys W) : HP w0 (starR [] :: Ys) W := HP.star (Xs := []) h
theorem starR_ok {W : World} {Xs : List Res} (h : (starR Xs).ok W) {X : Res} (hX : X ∈ Xs) : X.ok W := SepOk.ok h X hX
/-- A piece of memory seen as another one (of the same blocks or fewer). -/
theorem HP.view {W : World} {Rs : List Res} {R : Res} {f : Res → List Res} (h : HP w0 Rs W) (hp : Pos Rs R f) (R' : Res) (hok : R.ok W → R'.ok W) (hfp : ∀ b, R'.fp b → R.fp b) : HP w0 (f R') W :=
  h.put hp R' (Below.refl _ _) (fun _ _ _ => rfl) (hok (h.mem_ok hp)) (fun b hb => ⟨.inl (hfp b hb), (HPs.lt h.res _ hp.mem b (hfp b hb)).2⟩)

/-! ## 2. A row of records in a block, by a function of the places -/
section rows
variable {α : Type} {K : Nat} {enc : α → List Value}
abbrev fl (enc : α → List Value) (n : Nat) (x : Nat → α) : List Value := (Srt.row n x).flatMap enc
theorem row_len (n : Nat) (x : Nat → α) : (Srt.row n x).length = n := by simp [Srt.row]
theorem row_get {n : Nat} {x : Nat → α} {i : Nat} (h : i < (Srt.row n x).length) : (Srt.row n x)[i] = x i := by simp [Srt.row]
theorem row_of_list (l : List α) (d : α) : Srt.row l.length (fun i => l.getD i d) = l := by
  apply List.ext_getElem
  · simp [Srt.row]
  · intro i h1 h2; simp [Srt.row, List.getD_eq_getElem?_getD, h2]
theorem fl_len (hK : ∀ x, (enc x).length = K) (n : Nat) (x : Nat → α) : (fl enc n x).length = n * K := by
  rw [fl, length_flatMap_enc hK, row_len]
theorem fl_drop (hK : ∀ x, (enc x).length = K) {n : Nat} {x : Nat → α} {i : Nat} (hi : i < n) : ∃ rest, (fl enc n x).drop (i * K) = enc (x i) ++ rest := by
  have hl : i < (Srt.row n x).length := by rw [row_len]; exact hi
  rw [fl, drop_flatMap_enc hK, List.drop_eq_getElem_cons hl, List.flatMap_cons, row_get hl]
  exact ⟨_, rfl⟩
theorem fl_val (hK : ∀ x, (enc x).length = K) {n : Nat} {x : Nat → α} {i : Nat} (hi : i < n) : (Kind.agg K).val ((fl enc n x).drop (i * K)) = some (.agg (enc (x i)).toArray) := by
  obtain ⟨rest, e⟩ := fl_drop hK hi (x := x)
  have hk := hK (x i)
  rw [e]
  have : Nat.ble K (enc (x i) ++ rest).length = true := by rw [Nat.ble_eq]; simp; omega
  simp only [Kind.val, this, cond_true]
  rw [List.take_append_of_le_length (by omega), List.take_of_length_le (by omega)]
theorem splice_app : ∀ (us A B C : List Value), B.length = us.length → splice (A ++ B ++ C) A.length us = A ++ us ++ C
  | [], A, B, C, h => by cases B with
    | nil => simp [splice]
    | cons b B => simp at h
  | u :: us, A, B, C, h => by
    cases B with
    | nil => simp at h
    | cons b B =>
      have ih := splice_app us (A ++ [u]) B C (by simpa using h)
      rw [splice]
      have e1 : (A ++ b :: B ++ C).set A.length u = (A ++ [u]) ++ B ++ C := by
        simp [List.set_append]
      rw [e1]
      have e2 : A.length + 1 = (A ++ [u]).length := by simp
      rw [e2, ih]
      simp
theorem row_split {n : Nat} {x : Nat → α} {i : Nat} (hi : i < n) : Srt.row n x = (Srt.row n x).take i ++ [x i] ++ (Srt.row n x).drop (i + 1) := by
  have hl : i < (Srt.row n x).length := by rw [row_len]; exact hi
  conv => lhs; rw [← List.take_append_drop i (Srt.row n x), List.drop_eq_getElem_cons hl, row_get hl]
  simp
theorem row_upd {n : Nat} {x : Nat → α} {i : Nat} {v : α} (hi : i < n) : Srt.row n (Srt.upd x i v) = (Srt.row n x).take i ++ [v] ++ (Srt.row n x).drop (i + 1) := by
  apply List.ext_getElem
  · simp [row_len]; omega
  · intro j h1 h2
    rw [row_get h1]
    simp only [Srt.upd]
    rw [row_len] at h1
    by_cases h3 : j < i
    · rw [if_neg (by omega), List.getElem_append_left (by simp [row_len]; omega), List.getElem_append_left (by simp [row_len]; omega), List.getElem_take, row_get]
    · by_cases h4 : j = i
      · subst h4
        rw [if_pos rfl, List.getElem_append_left (by simp [row_len]; omega), List.getElem_append_right (by simp [row_len]; omega)]
        simp
      · rw [if_neg h4, List.getElem_append_right (by simp [row_len]; omega), List.getElem_drop, row_get]
        congr 1; simp [row_len]; omega
theorem fl_splice (hK : ∀ x, (enc x).length = K) {n : Nat} {x : Nat → α} {i : Nat} {v : α} (hi : i < n) : splice (fl enc n x) (i * K) (enc v) = fl enc n (Srt.upd x i v) := by
  have e0 : ((Srt.row n x).take i).length = i := by simp [row_len]; omega
  have e1 : (((Srt.row n x).take i).flatMap enc).length = i * K := by rw [length_flatMap_enc hK, e0]
  rw [fl, fl, row_upd hi]
  conv => lhs; rw [row_split hi]
  simp only [List.flatMap_append, List.flatMap_cons, List.flatMap_nil, List.append_nil]
  rw [← e1]
  exact splice_app _ _ _ _ (by rw [hK, hK])
/-- A record is stored into its place. -/
theorem stR {T b o T0 i m : Nat} {x : Nat → α} {u : α} {f : Res → List Res} {p y : Operand} (hK : ∀ x, (enc x).length = K) (hs : SizeOf P T K) (hx : E.ev p = some (.pointer (some ⟨b, o, none⟩))) (hy : E.ev y = some (.agg (enc u).toArray)) (ho : o = i * K) (hi : i < m)
    (hp : Pos Rs (cellR b T0 (fl enc m x)) f) (h1 : (enc u).all flat1 = true) :
    OpE r n P (.store T p y) ty E (HP w0 Rs) (fun _ : Unit => undef) (fun _ => True) (fun _ => HP w0 (f (cellR b T0 (fl enc m (Srt.upd x i u))))) := by
  have h := st (r := r) (n := n) (ty := ty) (w0 := w0) hs hx hy (us := enc u) rfl (hK u) hp (by
    rw [fl_len hK, hK, ho, Nat.ble_eq]
    have := Nat.mul_le_mul_right K (show i + 1 ≤ m by omega)
    rw [Nat.add_mul] at this; omega) h1
  subst ho
  rw [fl_splice hK hi] at h
  exact h
theorem ldR {T b o T0 i m : Nat} {x : Nat → α} {f : Res → List Res} {p : Operand} (hK : ∀ x, (enc x).length = K) (hk : KindOf P T (.agg K)) (hx : E.ev p = some (.pointer (some ⟨b, o, none⟩))) (ho : o = i * K) (hi : i < m)
    (hp : Pos Rs (cellR b T0 (fl enc m x)) f) : OpP P (.load T p) ty E (HP w0 Rs) (.agg (enc (x i)).toArray) := by
  subst ho
  exact ld hk hx hp (fl_val hK hi)
end rows
end Go.Eng
namespace Go.Eng
open Go Go.RowKit
set_option linter.unusedVariables false
set_option linter.unusedSimpArgs false
variable {r : Option Nat} {n N : Nat} {P : Program} {D : List Deferred} {E : Env} {H : World → Prop} {Q : Exit → Act → World → Prop} {ops : Array Oper} {rest : List Oper}
variable {w0 : World} {Rs L : List Res} {d : Nat} {ty : TypeId} {Z : World → Prop} {i : Nat} {l : List (Nat × DK)} {o : Oper} {ps : String} {af : Array Edge}
/-! ## 3. Calls of closures with what they hold -/
theorem retvC {f : Operand} {args : List Operand} {ats : Array TypeId} {g : Nat} {vs cap : List Value} {v : Value}
    (he : Enters P g) (hf : E.ev f = some (.func (.func g) #[] cap.toArray)) (hv : E.evs args = some vs) (hc : ∀ W, HP w0 Rs W → RetV P g (vs ++ cap) W v) :
    OpE r n P (.call { callee := .value f, args := args.toArray, argTypes := ats }) ty E (HP w0 Rs) (fun _ : Unit => v) (fun _ => True) (fun _ => HP w0 Rs) :=
  calls_ (first := []) he hf hv (by simp) (fun W hw => (hc W hw).mono fun e W' ⟨h1, h2⟩ => ⟨(), h1, trivial, hw.step h2⟩)
theorem xvC {f : Operand} {args : List Operand} {ats : Array TypeId} {g : Nat} {vs cap : List Value} {v : Value} (hN : Nat.blt d N = true)
    (he : Enters P g) (hf : E.ev f = some (.func (.func g) #[] cap.toArray)) (hv : E.evs args = some vs) (hc : ∀ W, HP w0 Rs W → RetV P g (vs ++ cap) W v) (k : XL r n P ops Q rest N D ((d, v) :: E) (HP w0 Rs)) :
    XL r n P ops Q ({ dst := some d, op := .call { callee := .value f, args := args.toArray, argTypes := ats }, type := ty, pos := ps, after := af, guard := none } :: rest) N D E (HP w0 Rs) :=
  xe hN (retvC he hf hv hc) fun _ _ => k
theorem retC {f : Operand} {args : List Operand} {ats : Array TypeId} {g : Nat} {vs cap : List Value} {σ : Type} {val : σ → Value} {φ : σ → Prop} {R : σ → List Res}
    (he : Enters P g) (hf : E.ev f = some (.func (.func g) #[] cap.toArray)) (hv : E.evs args = some vs) (hc : ∀ W, HP w0 Rs W → Ret P g (vs ++ cap) W val φ R) :
    OpE r n P (.call { callee := .value f, args := args.toArray, argTypes := ats }) ty E (HP w0 Rs) val φ (fun s => HP w0 (R s ++ Rs)) :=
  calls_ (first := []) he hf hv (by simp) (fun W hw => (hc W hw).mono fun e W' ⟨s, h1, h2, h3⟩ => ⟨s, h1, h2, hw.join h3⟩)
theorem xrC {f : Operand} {args : List Operand} {ats : Array TypeId} {g : Nat} {vs cap : List Value} {σ : Type} {val : σ → Value} {φ : σ → Prop} {R : σ → List Res} (hN : Nat.blt d N = true)
    (he : Enters P g) (hf : E.ev f = some (.func (.func g) #[] cap.toArray)) (hv : E.evs args = some vs) (hc : ∀ W, HP w0 Rs W → Ret P g (vs ++ cap) W val φ R) (k : ∀ s, φ s → XL r n P ops Q rest N D ((d, val s) :: E) (HP w0 (R s ++ Rs))) :
    XL r n P ops Q ({ dst := some d, op := .call { callee := .value f, args := args.toArray, argTypes := ats }, type := ty, pos := ps, after := af, guard := none } :: rest) N D E (HP w0 Rs) :=
  xe hN (retC he hf hv hc) k
theorem retmC {f : Operand} {args : List Operand} {ats : Array TypeId} {g : Nat} {vs cap : List Value} {σ : Type} {val : σ → Value} {φ : σ → Prop} {R : σ → List Res} {It Rs' : List Res}
    (he : Enters P g) (hf : E.ev f = some (.func (.func g) #[] cap.toArray)) (hv : E.evs args = some vs) (ht : Takes Rs It Rs') (hc : RetM P w0 g (vs ++ cap) It val φ R) :
    OpE r n P (.call { callee := .value f, args := args.toArray, argTypes := ats }) ty E (HP w0 Rs) val φ (fun s => HP w0 (R s ++ Rs')) :=
  calls_ (first := []) he hf hv (by simp) (fun W hw => hc w0 Rs' W (Below.refl _ _) (hw.perm ht.perm))
theorem xmC {f : Operand} {args : List Operand} {ats : Array TypeId} {g : Nat} {vs cap : List Value} {σ : Type} {val : σ → Value} {φ : σ → Prop} {R : σ → List Res} {It Rs' : List Res} (hN : Nat.blt d N = true)
    (he : Enters P g) (hf : E.ev f = some (.func (.func g) #[] cap.toArray)) (hv : E.evs args = some vs) (ht : Takes Rs It Rs') (hc : RetM P w0 g (vs ++ cap) It val φ R) (k : ∀ s, φ s → XL r n P ops Q rest N D ((d, val s) :: E) (HP w0 (R s ++ Rs'))) :
    XL r n P ops Q ({ dst := some d, op := .call { callee := .value f, args := args.toArray, argTypes := ats }, type := ty, pos := ps, after := af, guard := none } :: rest) N D E (HP w0 Rs) :=
  xe hN (retmC he hf hv ht hc) k
/-- A guarded call that tells a value alone, let by: it floats. -/
theorem dqT {f : Operand} {args : List Operand} {ats : Array TypeId} {g j t : Nat} {b c : Bool} {vs : List Value} {v : Value} (ho : ops[i]? = some o) (hd : o.dst = some d) (hN : Nat.blt d N = true) (hg : o.guard = some (j, b)) (ht : (ops[j]?).bind (·.dst) = some t) (hgc : E.get t = some (.bool c)) (e : c = b)
    (hop : o.op = .call { callee := .value f, args := args.toArray, argTypes := ats }) (he : Enters P g) (hf : E.ev f = some (.func (.func g) #[] #[])) (hv : E.evs args = some vs)
    (hc : ∀ W, Z W → RetV P g vs W v) (k : DC r n P ops Q N D w0 Z l ((d, v) :: E) L) : DC r n P ops Q N D w0 Z ((i, .p) :: l) E L :=
  .pure ho hd hN (.inl ⟨.inr ⟨j, b, t, hg, ht, by rw [hgc, e]⟩, by
    rw [hop]
    intro d p af g a W K Q ha hw kk
    have := calls_ (r := r) (n := n) (ty := o.type) (ats := ats) (H := fun X => X = W ∧ Z W) (σ := Unit) (val := fun _ => v) (φ := fun _ => True) (H' := fun _ W' => Below W.heap.size W W') (first := []) (cap := []) (us := vs) he hf hv (by simp)
      (fun X hX => by rw [hX.1]; exact (hc W hX.2).mono fun e W' ⟨h1, h2⟩ => ⟨(), h1, trivial, h2⟩)
    exact this d p af g a W K Q ha ⟨rfl, hw⟩ fun _ _ W' hW' => kk W' hW'⟩) k
/-- A guarded load, let by. -/
theorem dlT {v : Value} {j t : Nat} {b c : Bool} (ho : ops[i]? = some o) (hd : o.dst = some d) (hN : Nat.blt d N = true) (hg : o.guard = some (j, b)) (ht : (ops[j]?).bind (·.dst) = some t) (hgc : E.get t = some (.bool c)) (e : c = b) (h : OpP P o.op o.type E (HP w0 L) v) (k : DC r n P ops Q N D w0 Z l ((d, v) :: E) L) :
    DC r n P ops Q N D w0 Z ((i, .l) :: l) E L := .load ho hd hN (.inl ⟨.inr ⟨j, b, t, hg, ht, by rw [hgc, e]⟩, (h.weaken fun W ⟨Fr, hw⟩ => hw.left).q⟩) k

/-! ## 4. A join, with what holds of its ghost -/
abbrev JoinQ {σ : Type} (N : Nat) (D : List Deferred) (E' : σ → Env) (φ : σ → Prop) (H' : σ → World → Prop) (Q : Exit → Act → World → Prop) : Exit → Act → World → Prop := Exit.then (fun a W => ∃ s, φ s ∧ Has N D (E' s) a ∧ H' s W) Q
theorem xc_joinP {x y : Code} {σ : Type} (E' : σ → Env) (φ : σ → Prop) (H' : σ → World → Prop)
    (hx : XC r n P x (JoinQ N D E' φ H' Q) N D E H) (hy : ∀ s, φ s → XC r n P y Q N D (E' s) (H' s)) : XC r n P (Code.seq x y) Q N D E H :=
  xc_seq fun a W ha hw => wpIn_mono (hx a W ha hw) fun e a' W' hq => by
    cases e <;> first | exact hq | (obtain ⟨s, h0, h1, h2⟩ := hq; exact hy s h0 a' W' h1 h2)
theorem xq_joinP {σ : Type} {E' : σ → Env} {φ : σ → Prop} {H' : σ → World → Prop} (s : σ) (hφ : φ s) (hs : E.sub (E' s)) (hH : ∀ W, H W → H' s W) : XQ (JoinQ N D E' φ H' Q) .normal N D E H :=
  fun a W ha hw => ⟨s, hφ, ha.of_sub hs, hH W hw⟩
/-- The row in a block, stored into, in a region that draws. -/
theorem dstR {α : Type} {K : Nat} {enc : α → List Value} {T b of T0 k m : Nat} {x : Nat → α} {u : α} {f : Res → List Res} {p y : Operand} (ho : ops[i]? = some o) (hd : o.dst = none) (hg : o.guard = none) (hop : o.op = .store T p y)
    (hK : ∀ x, (enc x).length = K) (hs : SizeOf P T K) (hx : E.ev p = some (.pointer (some ⟨b, of, none⟩))) (hy : E.ev y = some (.agg (enc u).toArray)) (hof : of = k * K) (hi : k < m)
    (hp : Pos L (cellR b T0 (fl enc m x)) f) (h1 : (enc u).all flat1 = true) (hz : ∀ Fr W, HP w0 (f (cellR b T0 (fl enc m (Srt.upd x k u))) ++ Fr) W → Z W)
    (kk : DC r n P ops Q N D w0 Z l E (f (cellR b T0 (fl enc m (Srt.upd x k u))))) : DC r n P ops Q N D w0 Z ((i, .x) :: l) E L :=
  de0 ho hd (.inl hg) (fun Fr => by rw [hop]; exact stR hK hs hx hy hof hi (hp.app Fr) h1) hz kk
end Go.Eng
end
section
namespace Go.Eng
open Go Go.RowKit Go.Maps
set_option linter.unusedVariables false
set_option linter.unusedSimpArgs false
variable {r : Option Nat} {n N : Nat} {P : Program} {D : List Deferred} {E : Env} {H : World → Prop} {Q : Exit → Act → World → Prop} {ops : Array Oper} {rest : List Oper}
variable {w0 : World} {Rs L : List Res} {d : Nat} {ty : TypeId} {Z : World → Prop} {i : Nat} {l : List (Nat × DK)} {o : Oper} {ps : String} {af : Array Edge}
theorem mapR_below {k e : TypeId} {q : IntKind} {b m : Nat} {g : Lit → Int} {w W : World} (h : (mapR P k e q b m g).ok w) (hb : Below w.heap.size w W) : (mapR P k e q b m g).ok W := by
  refine (mapR P k e q b m g).loc w W (fun x hx => hb.block x ?_) h
  obtain ⟨D, ⟨es, clock, h1, h2⟩, h3, h4⟩ := h
  simp only [mapR] at hx; subst hx
  rcases Nat.lt_or_ge x w.heap.size with h | h
  · exact h
  · rw [Array.getElem?_eq_none h] at h1; cases h1
theorem mlkF {T k e b m : Nat} {q : IntKind} {g : Lit → Int} {x y : Operand} {key : Value} {kl : Lit} (hM : MapOf P T k e q) (hx : E.ev x = some (.map (some b))) (hy : E.ev y = some key) (hk : keyOf P k key = some kl) (hm : ∀ W, H W → (mapR P k e q b m g).ok W) :
    OpP P (.lookup T x y false) ty E H (.int q (g kl)) :=
  ⟨by simp, fun ρ W ho hw d p af gg => by
    have e1 := ho x (by simp [Op.operands]) _ hx
    have e2 := ho y (by simp [Op.operands]) _ hy
    obtain ⟨D, h1, h2, h3⟩ := hm W hw
    obtain ⟨c, hrun, hat, _⟩ := h1.lookup_int hM.K hM.ht hM.he (hM.hz W) hk
    have := h3 kl (hM.K.key hk)
    rw [hat] at this
    simp only [DataW.lit.injEq, Lit.int.injEq, true_and] at this
    subst this
    simp [execOp, e1, e2, hrun]⟩
/-- append, mapUpdate in a region that draws. -/
theorem dap {T e k bytes m c nn : Nat} {v : Value} {xs news : List Value} {ad : Addr} {x y : Operand} {f : Res → List Res} (ho : ops[i]? = some o) (hd : o.dst = some d) (hN : Nat.blt d N = true) (hg : o.guard = none)
    (hop : o.op = .call { callee := .builtin .append, args := #[x, y], argTypes := #[T, T] }) (hT : ElemOf P T e k bytes) (hx : E.ev x = some v) (hy : E.ev y = some (.slice (some ad) m c))
    (hp : Pos L (ownR e k v nn xs) f) (hl : news.length = m * k) (hnews : ∀ Fr W, HP w0 (L ++ Fr) W → ∀ j u, news[j]? = some u → W.cell? (ad.add j) = some u) (h1 : ∀ u ∈ news, u.oneCell' = true)
    (h63 : nn + m ≤ maxLen) (hbytes : (nn + m) * bytes ≤ 140737488355328) (hz : ∀ (s : Option Addr × Nat) (Fr : List Res) (W : World), HP w0 (f (ownR e k (.slice s.1 (nn + m) s.2) (nn + m) (xs ++ news)) ++ Fr) W → Z W)
    (kk : ∀ s : Option Addr × Nat, True → DC r n P ops Q N D w0 Z l ((d, .slice s.1 (nn + m) s.2) :: E) (f (ownR e k (.slice s.1 (nn + m) s.2) (nn + m) (xs ++ news)))) : DC r n P ops Q N D w0 Z ((i, .x) :: l) E L :=
  de (σ := Option Addr × Nat) (L' := fun s => f (ownR e k (.slice s.1 (nn + m) s.2) (nn + m) (xs ++ news))) ho hd hN (.inl hg) (fun Fr => by rw [hop]; exact apS hT hx hy (hp.app Fr) hl (hnews Fr) h1 h63 hbytes) hz kk
theorem nwF {b T : Nat} {vs : List Value} {f : Res → List Res} (hp : Pos L (cellR b T vs) f) : ∀ Fr W, HP w0 (L ++ Fr) W → ∀ j u, vs[j]? = some u → W.cell? ((⟨b, 0, none⟩ : Addr).add j) = some u := fun Fr => nw (hp.app Fr)
theorem dmu {T k e b m : Nat} {q : IntKind} {g : Lit → Int} {x y z : Operand} {key : Value} {kl : Lit} {v : Int} {f : Res → List Res} (ho : ops[i]? = some o) (hd : o.dst = none) (hg : o.guard = none) (hop : o.op = .mapUpdate T x y z)
    (hM : MapOf P T k e q) (hx : E.ev x = some (.map (some b))) (hy : E.ev y = some key) (hv : E.ev z = some (.int q v)) (hk : keyOf P k key = some kl) (hw : (Lit.int q v).wf = true)
    (hm : m < maxLen) (hp : Pos L (mapR P k e q b m g) f) (hz : ∀ Fr W, HP w0 (f (mapR P k e q b (m + 1) (mput g kl v)) ++ Fr) W → Z W)
    (kk : DC r n P ops Q N D w0 Z l E (f (mapR P k e q b (m + 1) (mput g kl v)))) : DC r n P ops Q N D w0 Z ((i, .x) :: l) E L :=
  de0 ho hd (.inl hg) (fun Fr => by rw [hop]; exact mu hM hx hy hv hk hw hm (hp.app Fr)) hz kk
/-- An element that is an aggregate, of an array value. -/
theorem ixvA {T len e k : Nat} {x i : Operand} {q : IntKind} {j : Int} {cs us : Array Value} (hT : P.underlying T = some (.array len e)) (ha : ∀ w, (isAgg e).run P w = .ok true w) (hs : SizeOf P e k) (hx : E.ev x = some (.agg cs)) (hi : E.ev i = some (.int q j)) (h0 : 0 ≤ j) (h1 : j < len) (hv : cs.extract (j.toNat * k) (j.toNat * k + k) = us) :
    OpP P (.index T x i) ty E H (.agg us) :=
  ⟨by simp, fun ρ W ho hw d p af g => by
    have e1 := ho x (by simp [Op.operands]) _ hx
    have e2 := ho i (by simp [Op.operands]) _ hi
    subst hv
    simp [execOp, e1, e2, Instr.index, asIntOf, run_underlying hT, h0, h1, part, ha W, hs W, Sem.run_bind, Result.andThen]⟩
/-- The memory of a map as a mere fact. -/
theorem map_of {k e : TypeId} {q : IntKind} {b m : Nat} {g : Lit → Int} {W : World} {f : Res → List Res} (h : HP w0 Rs W) (hp : Pos Rs (mapR P k e q b m g) f) : (mapR P k e q b m g).ok W := h.mem_ok hp
end Go.Eng
namespace Go.Eng
open Go Go.RowKit
set_option linter.unusedVariables false
variable {r : Option Nat} {n N : Nat} {P : Program} {D : List Deferred} {E : Env} {H : World → Prop} {Q : Exit → Act → World → Prop} {w0 : World}
/-! Leaving a round, what is no longer spoken of dropped. -/
theorem xq_bodyW {α : Type} {J : List α → List Res → Prop} {Jc : Code → List α → List Res → Prop} {pre' : List α} {Fr L1 : List Res} (hs : ∀ W, H W → HP w0 (L1 ++ Fr) W) (h : J pre' L1) : XQ (BodyQ w0 J Jc pre' Fr) .normal N D E H := fun a W _ hw => ⟨L1, h, hs W hw⟩
theorem xq_body_retW {α : Type} {J : List α → List Res → Prop} {Jc : Code → List α → List Res → Prop} {pre' : List α} {Fr L1 : List Res} (hs : ∀ W, H W → HP w0 (L1 ++ Fr) W) (h : Jc .ret pre' L1) : XQ (BodyQ w0 J Jc pre' Fr) .ret N D E H := fun a W _ hw => ⟨L1, h, hs W hw⟩
theorem xq_body_exitW {α : Type} {id : Nat} {J : List α → List Res → Prop} {Jc : Code → List α → List Res → Prop} {pre' : List α} {Fr L1 : List Res} (hs : ∀ W, H W → HP w0 (L1 ++ Fr) W) (h : Jc (.exit id) pre' L1) : XQ (BodyQ w0 J Jc pre' Fr) (.exit id) N D E H := fun a W _ hw => ⟨L1, h, hs W hw⟩
end Go.Eng
end
section
namespace Go.Eng
open Go Go.RowKit
set_option linter.unusedVariables false
set_option linter.unusedSimpArgs false
variable {r : Option Nat} {n N : Nat} {P : Program} {D : List Deferred} {E : Env} {H : World → Prop} {Q : Exit → Act → World → Prop} {ops : Array Oper} {rest : List Oper}
variable {w0 : World} {Rs L : List Res} {d : Nat} {ty : TypeId}
/-! # Loops in which loops over functions stand -/
def marksL (bs : List Nat) : List Res := bs.map fun b => objR b (.deferred (some []))
def marksD (bs : List Nat) : List Deferred := bs.map mark
abbrev LoopDQ {σ : Type} (N : Nat) (D' : σ → List Deferred) (E' : σ → Env) (φ : σ → Prop) (H' : σ → World → Prop) (μ : σ → Nat) (s : σ) (Q : Exit → Act → World → Prop) : Exit → Act → World → Prop :=
  Exit.then (fun a W => ∃ t, μ t < μ s ∧ φ t ∧ Has N (D' t) (E' t) a ∧ H' t W) Q
theorem xc_loopD {c : Code} {σ : Type} (D' : σ → List Deferred) (E' : σ → Env) (φ : σ → Prop) (H' : σ → World → Prop) (μ : σ → Nat) (s0 : σ) (h0 : φ s0) (hD : D = D' s0) (hs : E.sub (E' s0)) (hH : ∀ W, H W → H' s0 W)
    (round : ∀ s, φ s → XC r n P c (LoopDQ N D' E' φ H' μ s Q) N (D' s) (E' s) (H' s)) : XC r n P (Code.loop c) Q N D E H := by
  intro a W ha hw
  refine wpIn_loop_ghost (fun k a W => ∃ s, μ s = k ∧ φ s ∧ Has N (D' s) (E' s) a ∧ H' s W) (μ s0) ⟨s0, rfl, h0, hD ▸ ha.of_sub hs, hH W hw⟩ ?_
  rintro k a W ⟨s, rfl, h0, h1, h2⟩
  refine wpIn_mono (round s h0 a W h1 h2) fun e a' W' hq => ?_
  cases e <;> first | exact hq | (obtain ⟨t, h1, h4, h2, h3⟩ := hq; exact ⟨_, h1, t, rfl, h4, h2, h3⟩)
theorem xq_roundD {σ : Type} {D' : σ → List Deferred} {E' : σ → Env} {φ : σ → Prop} {H' : σ → World → Prop} {μ : σ → Nat} {s : σ} (t : σ) (hφ : φ t) (hμ : μ t < μ s) (hD : D = D' t) (hs : E.sub (E' t)) (hH : ∀ W, H W → H' t W) :
    XQ (LoopDQ N D' E' φ H' μ s Q) .normal N D E H := fun a W ha hw => ⟨t, hμ, hφ, hD ▸ ha.of_sub hs, hH W hw⟩
theorem leaves_marks {fn : Func} {R : Ending → World → Prop} {a : Act} {u : FrameMode} (hu : u ≠ .run)
    (hr : ∀ W, HP w0 Rs W → LeavesInM (RF none) 0 P fn a.tmps R [] u W) : ∀ (bs : List Nat) (W : World), HP w0 (marksL bs ++ Rs) W → LeavesInM (RF none) 0 P fn a.tmps R (marksD bs) u W
  | [], W, hw => hr W hw
  | b :: bs, W, hw => by
    have hw' := (hw.putObj (.head (R := objR b (.deferred (some [])))) (.deferred none)).drop
    have ht := run_takeDeferred (P := P) (w := W) (b := b) (ds := []) (hw.mem_ok (.head (R := objR b (.deferred (some [])))))
    exact ⟨hu, .inl ⟨b, _, rfl, ht, leaves_marks hu hr bs _ hw'⟩⟩
/-- Leaving where any number of such loops have been run. -/
theorem leaveMs {fn : Func} {R : Ending → World → Prop} {e : Exit} {v : Value} {bs : List Nat} {Rs' : List Res} (he : e = .ret ∨ e = .normal) (ht : Take Rs (starR (marksL bs)) Rs')
    (hr : Rets P fn N (marksD bs) E (HP w0 Rs') v) (hR : ∀ W, HP w0 Rs' W → R (.returned v) W) : XQ (bodyPostM (RF none) 0 P fn R) e N (marksD bs) E (HP w0 Rs) := by
  intro a W ha hw
  have hw1 := (hw.perm ht.perm).unstar
  have hd := ha.defers
  rcases he with rfl | rfl
  · show LeavesInM _ _ _ _ _ _ a.defers _ _
    rw [hd]
    refine leaves_marks (by simp) (fun W' hw' => ?_) bs W hw1
    exact ⟨_, hr a W' ⟨ha.defers, ha.size, ha.get⟩ hw', hR W' hw'⟩
  · show LeavesInM _ _ _ _ _ _ a.defers _ _
    rw [hd]
    refine leaves_marks (by simp) (fun W' hw' => ?_) bs W hw1
    exact ⟨_, hr a W' ⟨ha.defers, ha.size, ha.get⟩ hw', hR W' hw'⟩
theorem marks_cons {b : Nat} {bs : List Nat} {W : World} (h : HP w0 (objR b (.deferred (some [])) :: starR (marksL bs) :: Rs) W) : HP w0 (starR (marksL (b :: bs)) :: Rs) W := h.star_cons
theorem marks_nil {W : World} (h : HP w0 Rs W) : HP w0 (starR (marksL []) :: Rs) W := h.star_nil
/-! xs[i:j:k] of a slice -/
theorem vs3 {T e k m c : Nat} {A : Option Addr} {x lo hi mx : Operand} {q q' q'' : IntKind} {i j l : Int} (hT : SliceOf P T e k) (hx : E.ev x = some (.slice A m c)) (hl : E.ev lo = some (.int q i)) (hh : E.ev hi = some (.int q' j)) (hm : E.ev mx = some (.int q'' l)) (h0 : 0 ≤ i) (h1 : i ≤ j) (h2 : j ≤ l) (h3 : l ≤ c) :
    OpP P (.slice T x (some lo) (some hi) (some mx)) ty E H (.slice (offA A i.toNat k l.toNat) (j.toNat - i.toNat) (l.toNat - i.toNat)) :=
  ⟨by simp, fun ρ W ho hw d p af g => by
    have e1 := ho x (by simp [Op.operands]) _ hx
    have e2 := ho lo (by simp [Op.operands]) _ hl
    have e3 := ho hi (by simp [Op.operands]) _ hh
    have e4 := ho mx (by simp [Op.operands]) _ hm
    have b0 := run_sb (P := P) W (q := q'') .slice3Acap (show 0 ≤ l by omega) h3
    have b1 := run_sb (P := P) W (q := q') (m := l.toNat) .slice3B (show 0 ≤ j by omega) (by omega)
    have b2 := run_sb (P := P) W (q := q) (m := j.toNat) .slice3C h0 (by omega)
    simp [execOp, e1, e2, e3, e4, Instr.sliceAt, Instr.slice, Instr.sliceBounds, run_underlying hT.1, b0, b1, b2, hT.2 W, offA]⟩
/-- A load in the line that changes nothing. -/
theorem dasy {v : Value} {Z : World → Prop} {l : List (Nat × DK)} {o : Oper} {i : Nat} {ops : Array Oper} (ho : ops[i]? = some o) (hd : o.dst = some d) (hN : Nat.blt d N = true) (hg : o.guard = none) (h : OpP P o.op o.type E (HP w0 L) v) (hz : ∀ Fr W, HP w0 (L ++ Fr) W → Z W)
    (k : DC r n P ops Q N D w0 Z l ((d, v) :: E) L) : DC r n P ops Q N D w0 Z ((i, .y) :: l) E L :=
  .effy (σ := Unit) (val := fun _ => v) (φ := fun _ => True) (L' := fun _ => L) ho (.inl hg) (by rw [hd]; simpa using hN) (fun Fr => (h.weaken fun W => HP.left).eff) (fun _ => hz) (fun _ W h => h) (by rw [hd]; exact fun _ _ => k)
end Go.Eng
end
