/- Part 2 of the walks and plain lemmas that the claim rests on. -/
import Derived.Laws.BytesString
import Derived.Laws.IdiomCopy
import Derived.Laws.IdiomStrings
import Derived.Laws.MakeOwn
import Derived.Maps.AppendAt
import Derived.OrdersIn
import Derived.Test.YtfdnhjfbbggmiaaGreatDoorP1
section
namespace Go.Eng
open Go Go.RowKit
set_option linter.unusedVariables false
set_option linter.unusedSimpArgs false
variable {r : Option Nat} {n N : Nat} {P : Program} {D : List Deferred} {E : Env} {H : World → Prop} {Q : Exit → Act → World → Prop} {ops : Array Oper} {rest : List Oper}
variable {w0 : World} {Rs : List Res} {dst : Option Nat} {d : Nat} {ty : TypeId} {ps : String} {af : Array Edge} {op : Op}

/-! # A region that draws its order: one proof in one order serves all -/
theorem HPs.perm {lo : Nat} {W : World} {Rs Rs' : List Res} (h : List.Perm Rs Rs') : HPs lo Rs W → HPs lo Rs' W := by
  induction h with
  | nil => exact id
  | cons x hp ih => rintro ⟨h1, h2, h3, h4⟩; exact ⟨h1, h2, fun S hS => h3 S (hp.mem_iff.2 hS), ih h4⟩
  | swap x y l =>
    rintro ⟨h1, h2, h3, h4, h5, h6, h7⟩
    exact ⟨h4, h5, fun T hT b hS hTb => by
      rcases List.mem_cons.1 hT with rfl | hT
      · exact h3 x (by simp) b hTb hS
      · exact h6 T hT b hS hTb, h1, h2, fun T hT => h3 T (by simp [hT]), h7⟩
  | trans _ _ ih1 ih2 => exact fun h => ih2 (ih1 h)
theorem HP.perm {W : World} {Rs Rs' : List Res} (h : List.Perm Rs Rs') (hw : HP w0 Rs W) : HP w0 Rs' W := ⟨hw.below, hw.res.perm h⟩

/-- What lays a new block, whatever the slots hold. -/
def freshVal (op : Op) (b : Nat) : Value := match op with
  | .buildSlice _ len _ => .slice (some ⟨b, 0, none⟩) len len
  | _ => .pointer (some ⟨b, 0, none⟩)
def Fresh (P : Program) (op : Op) (T : TypeId) (vs : List Value) : Prop := (∀ c, op ≠ .defer c) ∧
  ∀ (a : Act) (W : World) (d : Option Nat) (ty : TypeId) (p : String) (af : Array Edge) (g : Option (Nat × Bool)), (execOp a.eval { dst := d, op := op, type := ty, pos := p, after := af, guard := g }).run P W = .ok (.value (freshVal op W.heap.size)) (W.alloc (.cells vs.toArray T))
theorem Fresh.alloc {T : TypeId} {vs : List Value} (hz : ZeroOf P T vs) : Fresh P (.alloc T) T vs := ⟨by simp, fun a W d ty p af g => by simp [execOp, run_alloc hz W, freshVal]⟩
theorem Fresh.uniq {T T' : Nat} {vs us : List Value} {op : Op} (h1 : Fresh P op T vs) (h2 : Fresh P op T' us) : T = T' ∧ vs = us := by
  have := (h1.2 { tmps := #[], defers := [] } default none 0 "" #[] none).symm.trans (h2.2 { tmps := #[], defers := [] } default none 0 "" #[] none)
  injection this with _ e
  have h3 := congrArg (fun w : World => w.heap.back?) e
  simp only [World.alloc, Array.back?_push, Option.some.injEq, Obj.cells.injEq] at h3
  exact ⟨h3.2.1, by simpa using h3.1⟩
/-- p: it reckons (and may come at any time behind what it reads) · a: an allocation, which may come at any time · x: a step of the one line of effects · l: it reads memory; each step of the line behind it waits for it · y: a step of the line that only adds memory. -/
inductive DK | p | a | x | l | y
def DK.toN : DK → Nat | .p => 0 | .a => 1 | .x => 2 | .l => 3 | .y => 4
theorem DK.toN_inj : ∀ {d1 d2 : DK}, d1.toN = d2.toN → d1 = d2 := by
  intro d1 d2 h
  cases d1 <;> cases d2 <;> first | rfl | cases h
instance : DecidableEq DK := fun d1 d2 => decidable_of_iff (d1.toN = d2.toN) ⟨DK.toN_inj, fun h => h ▸ rfl⟩

def lk (ops : Array Oper) (o : Oper) : List Nat := (o.op.operands.toList.filterMap fun | .tmp t => some t | _ => none) ++ (match o.guard with | some (j, _) => ((ops[j]?).bind (·.dst)).toList | none => [])
def dir (ops : Array Oper) (i : Nat) : List Nat := match ops[i]? with
  | none => []
  | some o => (o.after.toList.filter (Region.binds .any ·)).map (·.on)

/-- The guard lets it by. -/
def GOK (ops : Array Oper) (E : Env) (o : Oper) : Prop := o.guard = none ∨ ∃ j b t, o.guard = some (j, b) ∧ (ops[j]?).bind (·.dst) = some t ∧ E.get t = some (.bool b)
def GNo (ops : Array Oper) (E : Env) (o : Oper) : Prop := ∃ j b t, o.guard = some (j, b) ∧ (ops[j]?).bind (·.dst) = some t ∧ E.get t = some (.bool (!b))

/-- It comes to v, and what it leaves besides is nobody's: a reckoning; a call by a contract that tells a value alone. -/
def OpQ (r : Option Nat) (n : Nat) (P : Program) (op : Op) (ty : TypeId) (E : Env) (Z : World → Prop) (v : Value) : Prop :=
  ∀ (d : Option Nat) (p : String) (af : Array Edge) (g : Option (Nat × Bool)) (a : Act) (W : World) (K : Act → World → Prop) (Q : Exit → Act → World → Prop), Opn E op a.eval → Z W →
    (∀ W', Below W.heap.size W W' → K (a.put d v) W') → Oper.wpIn (RF r) n P { dst := d, op := op, type := ty, pos := p, after := af, guard := g } a W K Q
theorem OpP.q {Z : World → Prop} {v : Value} (h : OpP P op ty E Z v) : OpQ r n P op ty E Z v := fun d p af g a W K Q ha hw k => by
  refine ⟨fun f _ => RF_fn r f, ?_⟩
  rw [Oper.semAt_eq _ _ _ h.nd, h.run a.eval W ha hw]
  exact k W (Below.refl _ _)
/-- What an operation that only reckons comes to; or it is passed over. -/
def OpV (r : Option Nat) (n : Nat) (P : Program) (ops : Array Oper) (o : Oper) (E : Env) (Z : World → Prop) (v : Value) : Prop := (GOK ops E o ∧ OpQ r n P o.op o.type E Z v) ∨ (GNo ops E o ∧ v = undef)

theorem OpV.weaken {o : Oper} {Z Z' : World → Prop} {v : Value} (h : OpV r n P ops o E Z v) (hm : ∀ W, Z' W → Z W) : OpV r n P ops o E Z' v := by
  rcases h with ⟨hg, hq⟩ | h
  · exact .inl ⟨hg, fun d p af g a W K Q ha hw k => hq d p af g a W K Q ha (hm W hw) k⟩
  · exact .inr h
def ZL (w0 : World) (L : List Res) (W : World) : Prop := ∃ Fr, HP w0 (L ++ Fr) W
def ZK (w0 : World) (Z : World → Prop) (L : List Res) : DK → World → Prop
  | .l => ZL w0 L
  | _ => Z
/-- THE CHAIN: the operations of a region in one order, each by its rule. Z: what stands throughout. L: the memory. -/
inductive DC (r : Option Nat) (n : Nat) (P : Program) (ops : Array Oper) (Q : Exit → Act → World → Prop) (N : Nat) (D : List Deferred) (w0 : World) (Z : World → Prop) : List (Nat × DK) → Env → List Res → Prop
  | done {E : Env} {L : List Res} (h : XQ Q .normal N D E (HP w0 L)) : DC r n P ops Q N D w0 Z [] E L
  | pure {i : Nat} {l : List (Nat × DK)} {o : Oper} {d : Nat} {v : Value} {E : Env} {L : List Res} (ho : ops[i]? = some o) (hd : o.dst = some d) (hN : Nat.blt d N = true) (h : OpV r n P ops o E Z v) (k : DC r n P ops Q N D w0 Z l ((d, v) :: E) L) : DC r n P ops Q N D w0 Z ((i, .p) :: l) E L
  | load {i : Nat} {l : List (Nat × DK)} {o : Oper} {d : Nat} {v : Value} {E : Env} {L : List Res} (ho : ops[i]? = some o) (hd : o.dst = some d) (hN : Nat.blt d N = true) (h : OpV r n P ops o E (ZL w0 L) v) (k : DC r n P ops Q N D w0 Z l ((d, v) :: E) L) : DC r n P ops Q N D w0 Z ((i, .l) :: l) E L
  | alloc {i : Nat} {l : List (Nat × DK)} {o : Oper} {d T : Nat} {vs : List Value} {E : Env} {L : List Res} (ho : ops[i]? = some o) (hg : o.guard = none) (hd : o.dst = some d) (hN : Nat.blt d N = true) (hz : Fresh P o.op T vs)
      (k : ∀ b, DC r n P ops Q N D w0 Z l ((d, freshVal o.op b) :: E) (cellR b T vs :: L)) : DC r n P ops Q N D w0 Z ((i, .a) :: l) E L
  | eff {i : Nat} {l : List (Nat × DK)} {o : Oper} {σ : Type} {val : σ → Value} {φ : σ → Prop} {L' : σ → List Res} {E : Env} {L : List Res} (ho : ops[i]? = some o) (hg : GOK ops E o) (hN : o.dst.all (Nat.blt · N) = true)
      (h : ∀ Fr, OpE r n P o.op o.type E (HP w0 (L ++ Fr)) val φ (fun s => HP w0 (L' s ++ Fr))) (hz : ∀ s Fr W, HP w0 (L' s ++ Fr) W → Z W)
      (k : ∀ s, φ s → DC r n P ops Q N D w0 Z l (Env.put o.dst (val s) E) (L' s)) : DC r n P ops Q N D w0 Z ((i, .x) :: l) E L
  | effy {i : Nat} {l : List (Nat × DK)} {o : Oper} {σ : Type} {val : σ → Value} {φ : σ → Prop} {L' : σ → List Res} {E : Env} {L : List Res} (ho : ops[i]? = some o) (hg : GOK ops E o) (hN : o.dst.all (Nat.blt · N) = true)
      (h : ∀ Fr, OpE r n P o.op o.type E (HP w0 (L ++ Fr)) val φ (fun s => HP w0 (L' s ++ Fr))) (hz : ∀ s Fr W, HP w0 (L' s ++ Fr) W → Z W) (hL : ∀ s W, ZL w0 (L' s) W → ZL w0 L W)
      (k : ∀ s, φ s → DC r n P ops Q N D w0 Z l (Env.put o.dst (val s) E) (L' s)) : DC r n P ops Q N D w0 Z ((i, .y) :: l) E L
  | pass {i : Nat} {l : List (Nat × DK)} {o : Oper} {E : Env} {L : List Res} (ho : ops[i]? = some o) (hd : o.dst = none) (h : GNo ops E o) (k : DC r n P ops Q N D w0 Z l E L) : DC r n P ops Q N D w0 Z ((i, .x) :: l) E L

/-! ## The look at the edges -/
def dstAt (ops : Array Oper) (i : Nat) : Option Nat := (ops[i]?).bind (·.dst)
def lkAt (ops : Array Oper) (i : Nat) : List Nat := match ops[i]? with | none => [] | some o => lk ops o
/-- Of what stands at i, with 'pre' ahead of it (in whatever order) and 'post' behind it. -/
def look1 (ops : Array Oper) (pre : List (Nat × DK)) (i : Nat) (k : DK) (post : List (Nat × DK)) : Bool :=
  -- the edges lead back
  (dir ops i).all (fun j => pre.any (fun q => q.1 == j)) &&
  -- its slot is nobody else's; who reads that slot ahead of it has gone ahead; and then it is a step of the line
  pre.all (fun q =>
    (match dstAt ops i with
     | none => true
     | some d => (dstAt ops q.1 != some d) && (!(lkAt ops q.1).contains d || ((dir ops i).contains q.1 && (k == .x || k == .y)))) &&
    -- what it reads and was written ahead of it has gone ahead
    (match dstAt ops q.1 with
     | none => true
     | some t => !(lkAt ops i).contains t || (dir ops i).contains q.1)) &&
  (match dstAt ops i with
   | none => k != .p && k != .l
   | some d => k == .x || k == .y || !(lkAt ops i).contains d) &&
  -- nothing behind a step of the line is ready ahead of it
  (k == .p || k == .l || lookPost post) &&
  -- a step of the line waits for what reads memory ahead of it
  (k != .x || pre.all (fun q => q.2 != .l || (dir ops i).contains q.1))
  where
  lookPost : List (Nat × DK) → Bool := fun post => behind post
  behind : List (Nat × DK) → Bool
    | [] => true
    | (j, kj) :: rest => (kj == .a || (dir ops j).any (fun q => q == i || (post.any (fun z => z.1 == q && z.2 != .a)))) && behind rest
def lookAll (ops : Array Oper) : List (Nat × DK) → List (Nat × DK) → Bool
  | _, [] => true
  | pre, (i, k) :: post => look1 ops pre i k post && lookAll ops ((i, k) :: pre) post
def nodupB : List Nat → Bool
  | [] => true
  | x :: xs => !xs.contains x && nodupB xs
def drawOK (ops : Array Oper) (l : List (Nat × DK)) : Bool := lookAll ops [] l && nodupB (l.map (·.1)) && (List.range ops.size).all (fun i => (l.map (·.1)).contains i) && l.all (fun q => Nat.blt q.1 ops.size)

section sound
variable {Z : World → Prop}
theorem behind_spec {i : Nat} {all : List (Nat × DK)} : ∀ {post : List (Nat × DK)}, look1.behind ops i all post = true → ∀ j kj, (j, kj) ∈ post → kj ≠ .a → ∃ q ∈ dir ops j, q = i ∨ ∃ z ∈ all, z.1 = q ∧ z.2 ≠ .a
  | [], _, j, kj, hm, _ => by simp at hm
  | (j', k') :: rest, h, j, kj, hm, hk => by
    simp only [look1.behind, Bool.and_eq_true, Bool.or_eq_true] at h
    rcases List.mem_cons.1 hm with e | hm
    · cases e
      rcases h.1 with h1 | h1
      · exact absurd (by simpa using h1) hk
      · obtain ⟨q, hq, h2⟩ := List.any_eq_true.1 h1
        refine ⟨q, hq, ?_⟩
        simp only [Bool.or_eq_true] at h2
        rcases h2 with h2 | h2
        · exact .inl (by simpa using h2)
        · obtain ⟨z, hz, h3⟩ := List.any_eq_true.1 h2
          simp only [Bool.and_eq_true] at h3
          exact .inr ⟨z, hz, by simpa using h3.1, by simpa using h3.2⟩
    · exact behind_spec h.2 j kj hm hk

structure Look (ops : Array Oper) (pre : List (Nat × DK)) (i : Nat) (k : DK) (post : List (Nat × DK)) : Prop where
  back : ∀ j ∈ dir ops i, ∃ q ∈ pre, q.1 = j
  uniq : ∀ q ∈ pre, ∀ d, dstAt ops i = some d → dstAt ops q.1 ≠ some d
  over : ∀ q ∈ pre, ∀ d, dstAt ops i = some d → d ∈ lkAt ops q.1 → q.1 ∈ dir ops i ∧ (k = .x ∨ k = .y)
  data : ∀ q ∈ pre, ∀ t, dstAt ops q.1 = some t → t ∈ lkAt ops i → q.1 ∈ dir ops i
  self : k ≠ .x → k ≠ .y → ∀ d, dstAt ops i = some d → d ∉ lkAt ops i
  lds : k = .x → ∀ q ∈ pre, q.2 = .l → q.1 ∈ dir ops i
  post : k ≠ .p → k ≠ .l → ∀ j kj, (j, kj) ∈ post → kj ≠ .a → ∃ q ∈ dir ops j, q = i ∨ ∃ z ∈ post, z.1 = q ∧ z.2 ≠ .a
theorem look1_spec {pre post : List (Nat × DK)} {i : Nat} {k : DK} (h : look1 ops pre i k post = true) : Look ops pre i k post := by
  simp only [look1, Bool.and_eq_true] at h
  obtain ⟨⟨⟨⟨h1, h2⟩, h3⟩, h4⟩, h5⟩ := h
  refine ⟨fun j hj => ?_, fun q hq d hd => ?_, fun q hq d hd hm => ?_, fun q hq t ht hm => ?_, fun hk hky d hd => ?_, fun hk q hq hl => ?_, fun hk hkl j kj hm ha => ?_⟩
  · obtain ⟨q, hq, e⟩ := List.any_eq_true.1 (List.all_eq_true.1 h1 j hj); exact ⟨q, hq, by simpa using e⟩
  · have := List.all_eq_true.1 h2 q hq; simp only [Bool.and_eq_true, hd] at this; simpa using this.1.1
  · have := List.all_eq_true.1 h2 q hq
    simp only [Bool.and_eq_true, hd, Bool.or_eq_true] at this
    rcases this.1.2 with h | h
    · simp at h; exact absurd hm h
    · exact ⟨by simpa using h.1, by have := h.2; simp only [Bool.or_eq_true, beq_iff_eq] at this; exact this⟩
  · have := List.all_eq_true.1 h2 q hq
    simp only [Bool.and_eq_true, ht, Bool.or_eq_true] at this
    rcases this.2 with h | h
    · simp at h; exact absurd hm h
    · simpa using h
  · rw [hd] at h3
    simp only [Bool.or_eq_true] at h3
    rcases h3 with (h | h) | h
    · exact absurd (by simpa using h) hk
    · exact absurd (by simpa using h) hky
    · simpa using h
  · subst hk
    simp only [bne_self_eq_false, Bool.false_or] at h5
    have := List.all_eq_true.1 h5 q hq
    simpa [hl] using this
  · simp only [Bool.or_eq_true] at h4
    rcases h4 with (h | h) | h
    · exact absurd (by simpa using h) hk
    · exact absurd (by simpa using h) hkl
    · exact behind_spec h j kj hm ha

theorem lookAll_split : ∀ (A : List (Nat × DK)) {B pre : List (Nat × DK)}, lookAll ops pre (A ++ B) = true → lookAll ops (A.reverse ++ pre) B = true
  | [], B, pre, h => by simpa using h
  | (i, k) :: A, B, pre, h => by
    simp only [List.cons_append, lookAll, Bool.and_eq_true] at h
    have := lookAll_split A h.2
    simpa using this
theorem look_at {canon A B : List (Nat × DK)} {i : Nat} {k : DK} (h : lookAll ops [] canon = true) (e : canon = A ++ (i, k) :: B) : Look ops A.reverse i k B := by
  have := lookAll_split A (pre := []) (by rw [← e]; exact h)
  simp only [List.append_nil, lookAll, Bool.and_eq_true] at this
  exact look1_spec this.1
/-- Where the run of a region stands. -/
structure DS (r : Option Nat) (n : Nat) (P : Program) (ops : Array Oper) (Q : Exit → Act → World → Prop) (N : Nat) (D : List Deferred) (w0 : World) (Z : World → Prop)
    (canon : List (Nat × DK)) (listed : Array Bool) (pend : List Nat) (park : List (Nat × Nat × Nat × List Value)) (pre l : List (Nat × DK)) (E : Env) (L : List Res) (a : Act) (W : World) : Prop where
  whole : lookAll ops [] canon = true
  split : canon = pre.reverse ++ l
  nodup : (pre.map (·.1) ++ l.map (·.1)).Nodup
  lt : ∀ i, i ∈ pre.map (·.1) ∨ i ∈ l.map (·.1) → i < ops.size
  all : ∀ i, i < ops.size → i ∈ pre.map (·.1) ∨ i ∈ l.map (·.1)
  size : listed.size = ops.size
  lst : ∀ i, i < ops.size → (listed[i]? = some true ↔ (i ∈ pre.map (·.1) ∧ i ∉ pend) ∨ ∃ p ∈ park, p.1 = i)
  pends : ∀ i ∈ pend, ∃ k, (i, k) ∈ pre ∧ (k = .p ∨ k = .l) ∧ ∃ o d Ei v, ops[i]? = some o ∧ o.dst = some d ∧ Nat.blt d N = true ∧ OpV r n P ops o Ei (ZK w0 Z L k) v ∧ E.get d = some v ∧ ∀ t ∈ lk ops o, Ei.get t = E.get t
  pnd : pend.Nodup
  parks : ∀ p ∈ park, (p.1, DK.a) ∈ l ∧ ∃ o d, ops[p.1]? = some o ∧ o.dst = some d ∧ Fresh P o.op p.2.2.1 p.2.2.2 ∧ a.tmps[d]? = some (freshVal o.op p.2.1)
  knd : (park.map (·.1)).Nodup
  mem : HP w0 (L ++ park.map (fun p => cellR p.2.1 p.2.2.1 p.2.2.2)) W
  slots : ∀ t v, E.get t = some v → (∀ i ∈ pend, dstAt ops i ≠ some t) → (∀ p ∈ park, dstAt ops p.1 ≠ some t) → a.tmps[t]? = some v
  defers : a.defers = D
  tsize : a.tmps.size = N
  zed : ∀ Fr W, HP w0 (L ++ Fr) W → Z W
  chain : DC r n P ops Q N D w0 Z l E L

theorem DS.looks {canon : List (Nat × DK)} {listed : Array Bool} {a : Act} {W : World} {pend : List Nat} {park : List (Nat × Nat × Nat × List Value)} {pre l : List (Nat × DK)} {E : Env} {L : List Res} (h : DS r n P ops Q N D w0 Z canon listed pend park pre l E L a W) : lookAll ops pre l = true := by
  have := lookAll_split pre.reverse (pre := []) (B := l) (by rw [← h.split]; exact h.whole)
  simpa using this

theorem ZeroOf.uniq {T : Nat} {vs us : List Value} (h1 : ZeroOf P T vs) (h2 : ZeroOf P T us) : vs = us := by
  obtain ⟨z, a, b⟩ := h1
  obtain ⟨y, c, d⟩ := h2
  have := (a default).symm.trans (c default)
  injection this with e
  subst e
  have := b.symm.trans d
  simpa using this

theorem get_cons_ne {E : Env} {d t : Nat} {v : Value} (h : t ≠ d) : Env.get ((d, v) :: E) t = E.get t := by
  simp only [Env.get]
  cases hb : Nat.beq t d with
  | true => exact absurd (Nat.eq_of_beq_eq_true hb) h
  | false => rfl
theorem get_cons_eq {E : Env} {d : Nat} {v : Value} : Env.get ((d, v) :: E) d = some v := by simp [Env.get]

theorem DS.pend_pre {canon : List (Nat × DK)} {listed : Array Bool} {pend : List Nat} {park : List (Nat × Nat × Nat × List Value)} {pre l : List (Nat × DK)} {E : Env} {L : List Res} {a : Act} {W : World} (h : DS r n P ops Q N D w0 Z canon listed pend park pre l E L a W) {i : Nat} (hi : i ∈ pend) : ∃ k, (i, k) ∈ pre ∧ (k = .p ∨ k = .l) :=
  let ⟨k, h1, h2, _⟩ := h.pends i hi; ⟨k, h1, h2⟩
theorem DS.pend_mem {canon : List (Nat × DK)} {listed : Array Bool} {pend : List Nat} {park : List (Nat × Nat × Nat × List Value)} {pre l : List (Nat × DK)} {E : Env} {L : List Res} {a : Act} {W : World} (h : DS r n P ops Q N D w0 Z canon listed pend park pre l E L a W) {i : Nat} (hi : i ∈ pend) : i ∈ pre.map (·.1) :=
  let ⟨k, h1, h2, _⟩ := h.pends i hi; List.mem_map.2 ⟨_, h1, rfl⟩
theorem ZK.drop {c : Res} {L : List Res} {w0 : World} {Z : World → Prop} : ∀ (k : DK) (W : World), ZK w0 Z (c :: L) k W → ZK w0 Z L k W
  | .l, W, ⟨Fr, h⟩ => ⟨Fr, HP.drop h⟩
  | .p, W, h => h
  | .a, W, h => h
  | .x, W, h => h
  | .y, W, h => h
theorem DS.push {canon : List (Nat × DK)} {listed : Array Bool} {a : Act} {W : World} {i : Nat} {kk : DK} {rest : List (Nat × DK)} {pend : List Nat} {park : List (Nat × Nat × Nat × List Value)} {pre : List (Nat × DK)} {E : Env} {L : List Res} {o : Oper} {d : Nat} {v : Value}
    (h : DS r n P ops Q N D w0 Z canon listed pend park pre ((i, kk) :: rest) E L a W) (hkk : kk = .p ∨ kk = .l) (ho : ops[i]? = some o) (hd : o.dst = some d) (hN : Nat.blt d N = true) (hv : OpV r n P ops o E (ZK w0 Z L kk) v) (k : DC r n P ops Q N D w0 Z rest ((d, v) :: E) L) :
    DS r n P ops Q N D w0 Z canon listed (i :: pend) park ((i, kk) :: pre) rest ((d, v) :: E) L a W := by
  have hl := h.looks
  simp only [lookAll, Bool.and_eq_true] at hl
  have lo := look1_spec hl.1
  have hnd := h.nodup
  have hi : i ∉ pre.map (·.1) := fun hm => by
    have := List.nodup_append.1 hnd
    exact this.2.2 i hm i (by simp) rfl
  have hi2 : i ∉ rest.map (·.1) := by
    have := (List.nodup_append.1 hnd).2.1
    simp at this
    simpa using this.1
  have hda : dstAt ops i = some d := by simp [dstAt, ho, hd]
  have hlk : lkAt ops i = lk ops o := by simp [lkAt, ho]
  refine
    ⟨h.whole, by rw [h.split]; simp, ?_, ?_, ?_, h.size, ?_, ?_, ?_, ?_, h.knd, h.mem, ?_, h.defers, h.tsize, h.zed, k⟩
  · simp only [List.map_cons, List.cons_append]
    have := hnd
    rw [List.map_cons, List.nodup_append] at this
    obtain ⟨n1, n2, n3⟩ := this
    refine List.nodup_cons.2 ⟨?_, List.nodup_append.2 ⟨n1, (List.nodup_cons.1 n2).2, fun x hx y hy => n3 x hx y (by simp [hy])⟩⟩
    simp only [List.mem_append, not_or]
    exact ⟨hi, hi2⟩
  · intro x hx; exact h.lt x (by simp at hx ⊢; rcases hx with (rfl | hx) | hx; exact .inr (.inl rfl); exact .inl hx; exact .inr (.inr hx))
  · intro x hx; rcases h.all x hx with hx | hx
    · exact .inl (by simp at hx ⊢; exact .inr hx)
    · simp at hx ⊢; rcases hx with rfl | hx; exact .inl (.inl rfl); exact .inr hx
  · intro x hx
    rw [h.lst x hx]
    constructor
    · rintro (⟨h1, h2⟩ | h1)
      · exact .inl ⟨by simp at h1 ⊢; exact .inr h1, by simp; exact ⟨fun e => hi (by subst e; exact h1), h2⟩⟩
      · exact .inr h1
    · rintro (⟨h1, h2⟩ | h1)
      · simp only [List.mem_cons, not_or] at h2
        simp only [List.map_cons, List.mem_cons] at h1
        exact .inl ⟨h1.resolve_left h2.1, h2.2⟩
      · exact .inr h1
  · intro j hj
    rcases List.mem_cons.1 hj with rfl | hj
    · refine ⟨kk, by simp, hkk, o, d, E, v, ho, hd, hN, hv, get_cons_eq, fun t ht => ?_⟩
      have : d ∉ lk ops o := by rw [← hlk]; exact lo.self (by rcases hkk with rfl | rfl <;> simp) (by rcases hkk with rfl | rfl <;> simp) d hda
      rw [get_cons_ne (fun (e : t = d) => this (by rw [← e]; exact ht))]
    · obtain ⟨kj, p1, hkj, oj, dj, Ej, vj, p2, p3, p4, p5, p6, p7⟩ := h.pends j hj
      refine ⟨kj, by simp [p1], hkj, oj, dj, Ej, vj, p2, p3, p4, p5, ?_, fun t ht => ?_⟩
      · rw [get_cons_ne (fun e => lo.uniq _ p1 d hda (by simp [dstAt, p2, p3, e]))]; exact p6
      · have hne : t ≠ d := fun e => by
          have := (lo.over _ p1 d hda (by simp only [lkAt, p2]; exact e ▸ ht)).2
          rcases hkk with rfl | rfl <;> rcases this with this | this <;> cases this
        rw [get_cons_ne hne]; exact p7 t ht
  · exact List.nodup_cons.2 ⟨fun hm => hi (List.mem_map.2 ⟨_, (h.pend_pre hm).choose_spec.1, rfl⟩), h.pnd⟩
  · intro p hp
    obtain ⟨k1, k2⟩ := h.parks p hp
    refine ⟨?_, k2⟩
    rcases List.mem_cons.1 k1 with e | hm
    · rcases hkk with rfl | rfl <;> cases e
    · exact hm
  · intro t u hu h1 h2
    by_cases e : t = d
    · exact absurd (by rw [hda, e]) (h1 i (by simp))
    · rw [get_cons_ne e] at hu
      exact h.slots t u hu (fun j hj => h1 j (by simp [hj])) h2
/-- The head of what is left: reckonings go over to what may come at any time; an allocation that has come takes its place. -/
theorem DS.absorb {canon : List (Nat × DK)} {listed : Array Bool} {a : Act} {W : World} : ∀ (l : List (Nat × DK)) {pend : List Nat} {park : List (Nat × Nat × Nat × List Value)} {pre : List (Nat × DK)} {E : Env} {L : List Res},
    DS r n P ops Q N D w0 Z canon listed pend park pre l E L a W →
    ∃ pend' park' pre' l' E' L', DS r n P ops Q N D w0 Z canon listed pend' park' pre' l' E' L' a W ∧ (l' = [] ∨ (∃ i kx rest, (kx = .x ∨ kx = .y) ∧ l' = (i, kx) :: rest) ∨ ∃ i rest, l' = (i, .a) :: rest ∧ ∀ p ∈ park', p.1 ≠ i)
  | [], pend, park, pre, E, L, h => ⟨pend, park, pre, [], E, L, h, .inl rfl⟩
  | (i, .x) :: rest, pend, park, pre, E, L, h => ⟨_, _, _, _, _, _, h, .inr (.inl ⟨i, .x, rest, .inl rfl, rfl⟩)⟩
  | (i, .y) :: rest, pend, park, pre, E, L, h => ⟨_, _, _, _, _, _, h, .inr (.inl ⟨i, .y, rest, .inr rfl, rfl⟩)⟩
  | (i, .p) :: rest, pend, park, pre, E, L, h => by
    cases h.chain with
    | @pure _ _ o d v _ _ ho hd hN hv k => exact DS.absorb rest (h.push (.inl rfl) ho hd hN hv k)
  | (i, .l) :: rest, pend, park, pre, E, L, h => by
    cases h.chain with
    | @load _ _ o d v _ _ ho hd hN hv k => exact DS.absorb rest (h.push (.inr rfl) ho hd hN hv k)
  | (i, .a) :: rest, pend, park, pre, E, L, h => by
    by_cases hp : ∃ p ∈ park, p.1 = i
    · obtain ⟨p, hpm, hpi⟩ := hp
      obtain ⟨s, t, hst⟩ := List.append_of_mem hpm
      have hl := h.looks
      simp only [lookAll, Bool.and_eq_true] at hl
      have lo := look1_spec hl.1
      have hnd := h.nodup
      have hi : i ∉ pre.map (·.1) := fun hm => by
        have := List.nodup_append.1 hnd
        exact this.2.2 i hm i (by simp) rfl
      have hi2 : i ∉ rest.map (·.1) := by
        have := (List.nodup_append.1 hnd).2.1
        simp at this
        simpa using this.1
      obtain ⟨k1, o', d', q1, q3, q4, q5⟩ := h.parks p hpm
      cases h.chain with
      | @alloc _ _ o d T vs _ _ ho hg hd hN hz k =>
        rw [hpi, ho] at q1
        cases q1
        rw [hd] at q3
        obtain rfl : d = d' := by simpa using q3
        have hvs : vs = p.2.2.2 := (hz.uniq q4).2
        obtain rfl : T = p.2.2.1 := (hz.uniq q4).1
        have hda : dstAt ops i = some d := by simp [dstAt, ho, hd]
        have hperm : List.Perm park (p :: (s ++ t)) := by rw [hst]; exact List.perm_middle
        have hpn : ((p :: (s ++ t)).map (·.1)).Nodup := (hperm.map _).nodup_iff.1 h.knd
        have hne : ∀ q ∈ (s ++ t), q.1 ≠ i := fun q hq e => by
          simp only [List.map_cons, List.nodup_cons] at hpn
          exact hpn.1 (List.mem_map.2 ⟨q, hq, by rw [e, hpi]⟩)
        refine DS.absorb rest (pend := pend) (park := (s ++ t)) (pre := (i, .a) :: pre) (E := (d, freshVal o'.op p.2.1) :: E) (L := cellR p.2.1 p.2.2.1 vs :: L)
          ⟨h.whole, by rw [h.split]; simp, ?_, ?_, ?_, h.size, ?_, ?_, h.pnd, ?_, ?_, ?_, ?_, h.defers, h.tsize, ?_, k p.2.1⟩
        · simp only [List.map_cons, List.cons_append]
          have := hnd
          rw [List.map_cons, List.nodup_append] at this
          obtain ⟨n1, n2, n3⟩ := this
          refine List.nodup_cons.2 ⟨?_, List.nodup_append.2 ⟨n1, (List.nodup_cons.1 n2).2, fun x hx y hy => n3 x hx y (by simp [hy])⟩⟩
          simp only [List.mem_append, not_or]
          exact ⟨hi, hi2⟩
        · intro x hx; exact h.lt x (by simp at hx ⊢; rcases hx with (rfl | hx) | hx; exact .inr (.inl rfl); exact .inl hx; exact .inr (.inr hx))
        · intro x hx; rcases h.all x hx with hx | hx
          · exact .inl (by simp at hx ⊢; exact .inr hx)
          · simp at hx ⊢; rcases hx with rfl | hx; exact .inl (.inl rfl); exact .inr hx
        · intro x hx
          rw [h.lst x hx]
          constructor
          · rintro (⟨h1, h2⟩ | ⟨q, h1, h2⟩)
            · exact .inl ⟨by simp at h1 ⊢; exact .inr h1, h2⟩
            · by_cases e : q = p
              · subst e
                exact .inl ⟨by simp [← h2, hpi], fun hm => by
                  have := h.pend_mem hm
                  rw [← h2, hpi] at this
                  exact hi this⟩
              · exact .inr ⟨q, (List.mem_cons.1 (hperm.mem_iff.1 h1)).resolve_left e, h2⟩
          · rintro (⟨h1, h2⟩ | ⟨q, h1, h2⟩)
            · simp only [List.map_cons, List.mem_cons] at h1
              rcases h1 with rfl | h1
              · exact .inr ⟨p, hpm, hpi⟩
              · exact .inl ⟨h1, h2⟩
            · exact .inr ⟨q, hperm.mem_iff.2 (List.mem_cons_of_mem _ h1), h2⟩
        · intro j hj
          obtain ⟨kj, p1, hkj, oj, dj, Ej, vj, p2, p3, p4, p5, p6, p7⟩ := h.pends j hj
          refine ⟨kj, by simp [p1], hkj, oj, dj, Ej, vj, p2, p3, p4, p5.weaken (ZK.drop kj), ?_, fun t ht => ?_⟩
          · rw [get_cons_ne (fun e => lo.uniq _ p1 d hda (by simp [dstAt, p2, p3, e]))]; exact p6
          · have hne : t ≠ d := fun e => by
              have := (lo.over _ p1 d hda (by simp only [lkAt, p2]; exact e ▸ ht)).2
              rcases this with this | this <;> cases this
            rw [get_cons_ne hne]; exact p7 t ht
        · intro q hq
          obtain ⟨m1, m2⟩ := h.parks q (hperm.mem_iff.2 (List.mem_cons_of_mem _ hq))
          refine ⟨?_, m2⟩
          rcases List.mem_cons.1 m1 with e | hm
          · have : q.1 = i := by cases e; rfl
            exact absurd this (hne q hq)
          · exact hm
        · exact (List.nodup_cons.1 hpn).2
        · refine HP.perm ?_ h.mem
          rw [hvs]
          have e1 := (hperm.map (fun p => cellR p.2.1 p.2.2.1 p.2.2.2)).append_left L
          refine e1.trans ?_
          simp only [List.map_cons, List.cons_append]
          exact List.perm_middle
        · intro t u hu h1 h2
          by_cases e : t = d
          · subst e
            rw [get_cons_eq] at hu
            cases hu
            exact q5
          · rw [get_cons_ne e] at hu
            refine h.slots t u hu h1 (fun q hq => ?_)
            by_cases e' : q = p
            · subst e'; rw [hpi, hda]; simpa using fun e'' => e e''.symm
            · exact h2 q ((List.mem_cons.1 (hperm.mem_iff.1 hq)).resolve_left e')
        · intro Fr W' hw'
          exact h.zed Fr W' (HP.drop hw')
    · exact ⟨_, _, _, _, _, _, h, .inr (.inr ⟨i, rest, rfl, fun p hp' e => hp ⟨p, hp', e⟩⟩)⟩

theorem split_uniq {α : Type} : ∀ {A X B C : List α} {x : α}, (A ++ x :: B).Nodup → A ++ x :: B = X ++ x :: C → A = X
  | [], [], _, _, _, _, _ => rfl
  | [], y :: X, B, C, x, hn, e => by
    simp at e
    obtain ⟨rfl, e⟩ := e
    subst e
    simp at hn
  | y :: A, [], B, C, x, hn, e => by
    simp at e
    obtain ⟨rfl, e⟩ := e
    subst e
    simp at hn
  | y :: A, z :: X, B, C, x, hn, e => by
    simp at e
    obtain ⟨rfl, e⟩ := e
    simp only [List.cons_append, List.nodup_cons] at hn
    rw [split_uniq hn.2 e]
/-- Of two entries of the order one stands ahead of the other. -/
theorem order2 {canon : List (Nat × DK)} {q p : Nat × DK} (hq : q ∈ canon) (hp : p ∈ canon) (hne : q ≠ p) :
    (∃ A B, canon = A ++ p :: B ∧ q ∈ A) ∨ (∃ A B, canon = A ++ q :: B ∧ p ∈ A) := by
  obtain ⟨A, B, e⟩ := List.append_of_mem hq
  rw [e] at hp
  rcases List.mem_append.1 hp with h | h
  · exact .inr ⟨A, B, e, h⟩
  · rcases List.mem_cons.1 h with h | h
    · exact absurd h.symm hne
    · obtain ⟨C, B', e'⟩ := List.append_of_mem h
      exact .inl ⟨A ++ q :: C, B', by rw [e, e']; simp, by simp⟩

section step
variable {canon : List (Nat × DK)} {listed : Array Bool} {pend : List Nat} {park : List (Nat × Nat × Nat × List Value)} {pre l : List (Nat × DK)} {L : List Res} {a : Act} {W : World}
theorem DS.notListed (h : DS r n P ops Q N D w0 Z canon listed pend park pre l E L a W) {i : Nat} (hi : i ∈ pend) : listed[i]? ≠ some true := fun e => by
  have hp := h.pend_mem hi
  have hlt := h.lt i (.inl hp)
  rcases (h.lst i hlt).1 e with ⟨_, h2⟩ | ⟨p, hp', e'⟩
  · exact h2 hi
  · have h3 := (h.parks p hp').1
    rw [e'] at h3
    exact (List.nodup_append.1 h.nodup).2.2 i hp i (List.mem_map.2 ⟨_, h3, rfl⟩) rfl
theorem DS.kind_uniq (h : DS r n P ops Q N D w0 Z canon listed pend park pre l E L a W) {i : Nat} {k k' : DK} (h1 : (i, k) ∈ canon) (h2 : (i, k') ∈ canon) : k = k' := by
  have hnd : (canon.map (·.1)).Nodup := by
    rw [h.split, List.map_append, List.map_reverse]
    have := h.nodup
    exact (List.Perm.append_right _ (List.reverse_perm _)).nodup_iff.2 this
  obtain ⟨A, B, e⟩ := List.append_of_mem h1
  rw [e] at h2 hnd
  simp only [List.map_append, List.map_cons] at hnd
  obtain ⟨_, n2, n3⟩ := List.nodup_append.1 hnd
  rcases List.mem_append.1 h2 with h | h
  · exact absurd rfl (n3 i (List.mem_map.2 ⟨_, h, rfl⟩) i (by simp))
  · rcases List.mem_cons.1 h with h | h
    · cases h; rfl
    · exact absurd (List.mem_map.2 ⟨_, h, rfl⟩) (List.nodup_cons.1 n2).1
theorem DS.in_canon (h : DS r n P ops Q N D w0 Z canon listed pend park pre l E L a W) {q : Nat × DK} : q ∈ canon ↔ q ∈ pre ∨ q ∈ l := by rw [h.split]; simp
theorem DS.cnd (h : DS r n P ops Q N D w0 Z canon listed pend park pre l E L a W) : (canon.map (·.1)).Nodup := by
  rw [h.split, List.map_append, List.map_reverse]
  exact (List.Perm.append_right _ (List.reverse_perm _)).nodup_iff.2 h.nodup
theorem nodup_of_map {α β : Type} (f : α → β) {l : List α} (h : (l.map f).Nodup) : l.Nodup := by
  induction l with
  | nil => simp
  | cons x l ih =>
    simp only [List.map_cons, List.nodup_cons] at h
    exact List.nodup_cons.2 ⟨fun hm => h.1 (List.mem_map.2 ⟨x, hm, rfl⟩), ih h.2⟩
/-- Where an entry stands that is the next one, or was passed: nothing that is left stands ahead of it. -/
theorem DS.ahead (h : DS r n P ops Q N D w0 Z canon listed pend park pre l E L a W) {q : Nat × DK} (hq : q ∈ pre ∨ ∃ rest, l = q :: rest) {A B : List (Nat × DK)} (e : canon = A ++ q :: B) : ∀ p ∈ A, p ∈ pre := by
  have hn : canon.Nodup := nodup_of_map _ h.cnd
  have key : ∃ X C, canon = X ++ q :: C ∧ ∀ p ∈ X, p ∈ pre := by
    rcases hq with hq | ⟨rest, hl⟩
    · obtain ⟨X, Y, e'⟩ := List.append_of_mem (List.mem_reverse.2 hq)
      exact ⟨X, Y ++ l, by rw [h.split, e']; simp, fun p hp => List.mem_reverse.1 (by rw [e']; simp [hp])⟩
    · exact ⟨pre.reverse, rest, by rw [h.split, hl], fun p hp => List.mem_reverse.1 hp⟩
  obtain ⟨X, C, e', hX⟩ := key
  have := split_uniq (by rw [← e]; exact hn) (e.symm.trans e')
  subst this
  exact hX
/-- What an operation that may come now reads. -/
theorem DS.reads (h : DS r n P ops Q N D w0 Z canon listed pend park pre l E L a W) {i : Nat} {k : DK} (hq : (i, k) ∈ pre ∨ ∃ rest, l = (i, k) :: rest) (hdir : ∀ j ∈ dir ops i, listed[j]? = some true)
    (hun : ∀ p ∈ park, p.1 ≠ i) (hself : k = .x ∨ k = .y → i ∉ pend) {t : Nat} {v : Value} (ht : t ∈ lkAt ops i) (hv : E.get t = some v) : a.tmps[t]? = some v := by
  have hic : (i, k) ∈ canon := h.in_canon.2 (hq.imp id (fun ⟨rest, e⟩ => by rw [e]; simp))
  refine h.slots t v hv (fun j hj e => ?_) (fun p hp e => ?_)
  · obtain ⟨kj, hjp, hkj⟩ := h.pend_pre hj
    have hjc : (j, kj) ∈ canon := h.in_canon.2 (.inl hjp)
    have hkx : kj ≠ .x := by rcases hkj with rfl | rfl <;> simp
    have hky : kj ≠ .y := by rcases hkj with rfl | rfl <;> simp
    by_cases hij : j = i
    · subst hij
      have := h.kind_uniq hic hjc
      subst this
      obtain ⟨A, B, e'⟩ := List.append_of_mem hjc
      exact (look_at h.whole e').self hkx hky t e ht
    · have hne : (j, kj) ≠ (i, k) := fun e' => hij (by cases e'; rfl)
      rcases order2 hjc hic hne with ⟨A, B, e', hA⟩ | ⟨A, B, e', hA⟩
      · exact h.notListed hj (hdir j ((look_at h.whole e').data _ (by simpa using hA) t e ht))
      · have := ((look_at h.whole e').over _ (by simpa using hA) t e ht).2
        exact this.elim hkx hky
  · have hpl := (h.parks p hp).1
    have hpc : (p.1, DK.a) ∈ canon := h.in_canon.2 (.inr hpl)
    have hne : (p.1, DK.a) ≠ (i, k) := fun e' => hun p hp (by cases e'; rfl)
    rcases order2 hpc hic hne with ⟨A, B, e', hA⟩ | ⟨A, B, e', hA⟩
    · have := h.ahead hq e' _ hA
      exact (List.nodup_append.1 h.nodup).2.2 _ (List.mem_map.2 ⟨_, this, rfl⟩) _ (List.mem_map.2 ⟨_, hpl, rfl⟩) rfl
    · have := ((look_at h.whole e').over _ (by simpa using hA) t e ht).2
      rcases this with this | this <;> cases this
/-- Slots of two are unlike. -/
theorem DS.dst_ne (h : DS r n P ops Q N D w0 Z canon listed pend park pre l E L a W) {q p : Nat × DK} (hq : q ∈ canon) (hp : p ∈ canon) (hne : q ≠ p) {d : Nat} (hd : dstAt ops q.1 = some d) : dstAt ops p.1 ≠ some d := fun e => by
  rcases order2 hq hp hne with ⟨A, B, e', hA⟩ | ⟨A, B, e', hA⟩
  · exact (look_at h.whole (i := p.1) (k := p.2) e').uniq _ (by simpa using hA) d e hd
  · exact (look_at h.whole (i := q.1) (k := q.2) e').uniq _ (by simpa using hA) d hd e
theorem lk_op {o : Oper} {i t : Nat} (ho : ops[i]? = some o) (h : Operand.tmp t ∈ o.op.operands.toList) : t ∈ lkAt ops i := by
  simp only [lkAt, ho, lk]
  exact List.mem_append_left _ (List.mem_filterMap.2 ⟨_, h, rfl⟩)
theorem lk_guard {o : Oper} {i j t : Nat} {b : Bool} (ho : ops[i]? = some o) (hg : o.guard = some (j, b)) (ht : (ops[j]?).bind (·.dst) = some t) : t ∈ lkAt ops i := by
  simp only [lkAt, ho, lk, hg, ht]
  simp
theorem evOf {E : Env} {a : Act} (h : ∀ t v, E.get t = some v → P.funcs.size = P.funcs.size → a.tmps[t]? = some v) : True := trivial
theorem opn_of {op : Op} {Ei : Env} {a : Act} (h : ∀ t v, Operand.tmp t ∈ op.operands.toList → Ei.get t = some v → a.tmps[t]? = some v) : Opn Ei op a.eval := by
  intro x hx v hv
  cases x with
  | tmp t => simp only [Env.ev] at hv; simp [Act.eval, Array.getD_eq_getD_getElem?, h t v hx hv]
  | const c => simp only [Env.ev, Option.some.injEq] at hv; exact hv
  | global g => simp only [Env.ev, Option.some.injEq] at hv; exact hv
  | func f => simp only [Env.ev, Option.some.injEq] at hv; exact hv
theorem wanted_yes {o : Oper} {Ei : Env} {a : Act} (h : GOK ops Ei o) (hs : ∀ j b t, o.guard = some (j, b) → (ops[j]?).bind (·.dst) = some t → ∀ v, Ei.get t = some v → a.tmps[t]? = some v) : Region.wanted o (yielded ops a.tmps) = true := by
  rcases h with h | ⟨j, b, t, h1, h2, h3⟩
  · simp [Region.wanted, h]
  · have := hs j b t h1 h2 _ h3
    simp [Region.wanted, h1, yielded, h2, this]
theorem wanted_no {o : Oper} {Ei : Env} {a : Act} (h : GNo ops Ei o) (hs : ∀ j b t, o.guard = some (j, b) → (ops[j]?).bind (·.dst) = some t → ∀ v, Ei.get t = some v → a.tmps[t]? = some v) : Region.wanted o (yielded ops a.tmps) = false := by
  obtain ⟨j, b, t, h1, h2, h3⟩ := h
  have := hs j b t h1 h2 _ h3
  simp [Region.wanted, h1, yielded, h2, this]
theorem put_get {a : Act} {d t : Nat} {v : Value} (hs : a.tmps.size = N) (hN : Nat.blt d N = true) : (a.put (some d) v).tmps[t]? = if t = d then some v else a.tmps[t]? := by
  have hd' : d < N := Nat.le_of_ble_eq_true hN
  simp only [Act.put, Array.getElem?_setIfInBounds]
  by_cases e : t = d
  · subst e; simp [hs, hd']
  · rw [if_neg (by omega), if_neg e]
theorem set_listed {listed : Array Bool} {i x : Nat} (hi : i < listed.size) : (listed.setIfInBounds i true)[x]? = if x = i then some true else listed[x]? := by
  rw [Array.getElem?_setIfInBounds]
  by_cases e : x = i
  · subst e; simp [hi]
  · rw [if_neg (by omega), if_neg e]

/-- (A) a reckoning comes. -/
theorem DS.stepP (h : DS r n P ops Q N D w0 Z canon listed pend park pre l E L a W) {i : Nat} (hi : i ∈ pend) (hdir : ∀ j ∈ dir ops i, listed[j]? = some true) {K : Act → World → Prop}
    (hK : ∀ a' W' E L pend park pre l, DS r n P ops Q N D w0 Z canon (listed.setIfInBounds i true) pend park pre l E L a' W' → K a' W') : wpOpIn (RF r) n P ops Q i K a W := by
  obtain ⟨kk, hpre, hkk, o, d, Ei, v, ho, hd, hN, hv, hEd, hlk⟩ := h.pends i hi
  have hil : i < ops.size := h.lt i (.inl (List.mem_map.2 ⟨_, hpre, rfl⟩))
  have hnp : ∀ p ∈ park, p.1 ≠ i := fun p hp e => by
    have := (h.parks p hp).1
    rw [e] at this
    exact (List.nodup_append.1 h.nodup).2.2 i (List.mem_map.2 ⟨_, hpre, rfl⟩) i (List.mem_map.2 ⟨_, this, rfl⟩) rfl
  have hread : ∀ t v, t ∈ lkAt ops i → Ei.get t = some v → a.tmps[t]? = some v := fun t u ht hu =>
    h.reads (.inl hpre) hdir hnp (fun e => by rcases hkk with rfl | rfl <;> rcases e with e | e <;> cases e) ht (by rw [← hlk t (by simpa [lkAt, ho] using ht)]; exact hu)
  have hda : dstAt ops i = some d := by simp [dstAt, ho, hd]
  have hpc : (i, kk) ∈ canon := h.in_canon.2 (.inl hpre)
  have hkx : kk ≠ .x := by rcases hkk with rfl | rfl <;> simp
  have next : ∀ W', Below W.heap.size W W' → K (a.put o.dst v) W' := fun W' hB => by
    refine hK _ _ E L (pend.erase i) park pre l ⟨h.whole, h.split, h.nodup, h.lt, h.all, by simp [h.size], fun x hx => ?_, fun j hj => h.pends j (List.mem_of_mem_erase hj), h.pnd.erase i, fun p hp => ?_, h.knd, h.mem.step hB, fun t u hu h1 h2 => ?_, ?_, ?_, h.zed, h.chain⟩
    · rw [set_listed (by rw [h.size]; exact hil)]
      by_cases e : x = i
      · subst e
        simp only [if_true, true_iff]
        exact .inl ⟨List.mem_map.2 ⟨_, hpre, rfl⟩, fun hm => (List.Nodup.mem_erase_iff h.pnd).1 hm |>.1 rfl⟩
      · rw [if_neg e, h.lst x hx]
        constructor
        · rintro (⟨h1, h2⟩ | h1)
          · exact .inl ⟨h1, fun hm => h2 (List.mem_of_mem_erase hm)⟩
          · exact .inr h1
        · rintro (⟨h1, h2⟩ | h1)
          · exact .inl ⟨h1, fun hm => h2 ((List.Nodup.mem_erase_iff h.pnd).2 ⟨e, hm⟩)⟩
          · exact .inr h1
    · obtain ⟨m1, oj, dj, m2, m4, m5, m6⟩ := h.parks p hp
      refine ⟨m1, oj, dj, m2, m4, m5, ?_⟩
      rw [hd, put_get h.tsize hN, if_neg ?_]
      · exact m6
      · intro e
        have := h.dst_ne hpc (h.in_canon.2 (.inr m1)) (fun e' => by rcases hkk with rfl | rfl <;> cases e') hda
        exact this (by simp [dstAt, m2, m4, e])
    · rw [hd, put_get h.tsize hN]
      by_cases e : t = d
      · subst e; rw [if_pos rfl, ← hEd, hu]
      · rw [if_neg e]
        refine h.slots t u hu (fun j hj => ?_) h2
        by_cases e' : j = i
        · subst e'; rw [hda]; simpa using fun e'' => e e''.symm
        · exact h1 j ((List.Nodup.mem_erase_iff h.pnd).2 ⟨e', hj⟩)
    · rw [hd]; exact h.defers
    · rw [hd]; simp [Act.put, h.tsize]
  have hguard : ∀ j b t, o.guard = some (j, b) → (ops[j]?).bind (·.dst) = some t → ∀ v, Ei.get t = some v → a.tmps[t]? = some v := fun j b t h1 h2 u hu => hread t u (lk_guard ho h1 h2) hu
  unfold wpOpIn
  simp only [ho]
  rcases hv with ⟨hg, hop⟩ | ⟨hg, rfl⟩
  · rw [if_pos (wanted_yes hg hguard)]
    have hZ : ZK w0 Z L kk W := by rcases hkk with rfl | rfl; exact h.zed _ W h.mem; exact ⟨_, h.mem⟩
    exact hop o.dst o.pos o.after o.guard a W K Q (opn_of fun t u ht hu => hread t u (lk_op ho ht) hu) hZ next
  · rw [if_neg (by rw [wanted_no hg hguard]; simp)]
    exact ⟨fun f _ => RF_fn r f, next W (Below.refl _ _)⟩

/-- What is left when a step of the line has been taken: the pieces that do not hang on what it did. -/
theorem DS.next_ {i : Nat} {k : DK} {rest : List (Nat × DK)} (h : DS r n P ops Q N D w0 Z canon listed pend park pre ((i, k) :: rest) E L a W) (hdir : ∀ j ∈ dir ops i, listed[j]? = some true) (hk : (k = .a ∨ k = .y) ∨ k = .x) (hun : ∀ p ∈ park, p.1 ≠ i)
    {E' : Env} {L' : List Res} {a' : Act} {W' : World} (hE : ∀ t, dstAt ops i ≠ some t → E'.get t = E.get t) (ha : ∀ t, dstAt ops i ≠ some t → a'.tmps[t]? = a.tmps[t]?) (hown : ∀ t, dstAt ops i = some t → ∀ v, E'.get t = some v → a'.tmps[t]? = some v)
    (hd : a'.defers = D) (hs : a'.tmps.size = N) (hm : HP w0 (L' ++ park.map (fun p => cellR p.2.1 p.2.2.1 p.2.2.2)) W') (hz : ∀ Fr W, HP w0 (L' ++ Fr) W → Z W) (hc : DC r n P ops Q N D w0 Z rest E' L')
    (hov : k = .a ∨ k = .y → ∀ W, ZL w0 L' W → ZL w0 L W) :
    DS r n P ops Q N D w0 Z canon (listed.setIfInBounds i true) pend park ((i, k) :: pre) rest E' L' a' W' := by
  have hnd := h.nodup
  have hi : i ∉ pre.map (·.1) := fun hm => (List.nodup_append.1 hnd).2.2 i hm i (by simp) rfl
  have hi2 : i ∉ rest.map (·.1) := by
    have := (List.nodup_append.1 hnd).2.1
    simp at this
    simpa using this.1
  have hil : i < ops.size := h.lt i (.inr (by simp))
  have hic : (i, k) ∈ canon := h.in_canon.2 (.inr (by simp))
  have hsplit : canon = pre.reverse ++ (i, k) :: rest := h.split
  have lo := look_at h.whole hsplit
  refine ⟨h.whole, by rw [h.split]; simp, ?_, ?_, ?_, by simp [h.size], fun x hx => ?_, fun j hj => ?_, h.pnd, fun p hp => ?_, h.knd, hm, fun t u hu h1 h2 => ?_, hd, hs, hz, hc⟩
  · simp only [List.map_cons, List.cons_append]
    have := hnd
    rw [List.map_cons, List.nodup_append] at this
    obtain ⟨n1, n2, n3⟩ := this
    refine List.nodup_cons.2 ⟨?_, List.nodup_append.2 ⟨n1, (List.nodup_cons.1 n2).2, fun x hx y hy => n3 x hx y (by simp [hy])⟩⟩
    simp only [List.mem_append, not_or]
    exact ⟨hi, hi2⟩
  · intro x hx; exact h.lt x (by simp at hx ⊢; rcases hx with (rfl | hx) | hx; exact .inr (.inl rfl); exact .inl hx; exact .inr (.inr hx))
  · intro x hx; rcases h.all x hx with hx | hx
    · exact .inl (by simp at hx ⊢; exact .inr hx)
    · simp at hx ⊢; rcases hx with rfl | hx; exact .inl (.inl rfl); exact .inr hx
  · rw [set_listed (by rw [h.size]; exact hil)]
    by_cases e : x = i
    · subst e
      simp only [if_true, true_iff]
      exact .inl ⟨by simp, fun hm' => hi (h.pend_mem hm')⟩
    · rw [if_neg e, h.lst x hx]
      constructor
      · rintro (⟨h1, h2⟩ | h1)
        · exact .inl ⟨by simp at h1 ⊢; exact .inr h1, h2⟩
        · exact .inr h1
      · rintro (⟨h1, h2⟩ | h1)
        · simp only [List.map_cons, List.mem_cons] at h1
          exact .inl ⟨h1.resolve_left e, h2⟩
        · exact .inr h1
  · obtain ⟨kj, p1, hkj, oj, dj, Ej, vj, p2, p3, p4, p5, p6, p7⟩ := h.pends j hj
    have hjA : (j, kj) ∈ pre.reverse.reverse := by simpa using p1
    have p5' : OpV r n P ops oj Ej (ZK w0 Z L' kj) vj := by
      rcases hkj with rfl | rfl
      · exact p5
      · rcases hk with hk | hk
        · exact p5.weaken (hov hk)
        · exact absurd (hdir j (lo.lds hk _ hjA rfl)) (h.notListed hj)
    refine ⟨kj, by simp [p1], hkj, oj, dj, Ej, vj, p2, p3, p4, p5', ?_, fun t ht => ?_⟩
    · rw [hE dj (fun e => lo.uniq (j, kj) hjA dj e (by simp [dstAt, p2, p3]))]; exact p6
    · rw [p7 t ht]
      refine (hE t (fun e => ?_)).symm
      have hin : t ∈ lkAt ops j := by simpa [lkAt, p2] using ht
      exact h.notListed hj (hdir j (lo.over (j, kj) hjA t e hin).1)
  · obtain ⟨m1, oj, dj, m2, m4, m5, m6⟩ := h.parks p hp
    have m1' : (p.1, DK.a) ∈ rest := by
      rcases List.mem_cons.1 m1 with e | hm'
      · exact absurd (by cases e; rfl) (hun p hp)
      · exact hm'
    refine ⟨m1', oj, dj, m2, m4, m5, ?_⟩
    rw [ha dj ?_]
    · exact m6
    · intro e
      exact h.dst_ne hic (h.in_canon.2 (.inr m1)) (fun e' => hun p hp (by cases e'; rfl)) e (by simp [dstAt, m2, m4])
  · by_cases e : dstAt ops i = some t
    · exact hown t e u hu
    · rw [ha t e]
      rw [hE t e] at hu
      exact h.slots t u hu h1 h2

/-- (B) a step of the line. -/
theorem DS.stepX {i : Nat} {rest : List (Nat × DK)} (h : DS r n P ops Q N D w0 Z canon listed pend park pre ((i, .x) :: rest) E L a W) (hdir : ∀ j ∈ dir ops i, listed[j]? = some true) {K : Act → World → Prop}
    (hK : ∀ a' W' E L pend park pre l, DS r n P ops Q N D w0 Z canon (listed.setIfInBounds i true) pend park pre l E L a' W' → K a' W') : wpOpIn (RF r) n P ops Q i K a W := by
  have hnd := h.nodup
  have hnp : ∀ p ∈ park, p.1 ≠ i := fun p hp e => by
    have h1 := h.in_canon.2 (.inr (h.parks p hp).1)
    rw [e] at h1
    have := h.kind_uniq h1 (h.in_canon.2 (.inr (by simp)) : (i, DK.x) ∈ canon)
    cases this
  have hipend : i ∉ pend := fun hm => (List.nodup_append.1 hnd).2.2 i (h.pend_mem hm) i (by simp) rfl
  have hread : ∀ t v, t ∈ lkAt ops i → E.get t = some v → a.tmps[t]? = some v := fun t u ht hu => h.reads (.inr ⟨rest, rfl⟩) hdir hnp (fun _ => hipend) ht hu
  unfold wpOpIn
  cases h.chain with
  | @eff _ _ o σ val φ L' _ _ ho hg hN hop hz k =>
    simp only [ho]
    have hguard : ∀ j b t, o.guard = some (j, b) → (ops[j]?).bind (·.dst) = some t → ∀ v, E.get t = some v → a.tmps[t]? = some v := fun j b t h1 h2 u hu => hread t u (lk_guard ho h1 h2) hu
    rw [if_pos (wanted_yes hg hguard)]
    refine hop _ o.dst o.pos o.after o.guard a W K Q (opn_of fun t u ht hu => hread t u (lk_op ho ht) hu) h.mem (fun s hs W' hW' => ?_)
    have hdo : dstAt ops i = o.dst := by simp [dstAt, ho]
    refine hK _ _ _ _ _ _ _ _ (h.next_ hdir (.inr rfl) hnp (E' := Env.put o.dst (val s) E) (L' := L' s) ?_ ?_ ?_ ?_ ?_ hW' (hz s) (k s hs) (by simp))
    · intro t ht
      rw [hdo] at ht
      cases hd : o.dst with
      | none => rfl
      | some d => simp only [Env.put]; exact get_cons_ne (fun e => ht (by rw [hd, e]))
    · intro t ht
      rw [hdo] at ht
      cases hd : o.dst with
      | none => rfl
      | some d =>
        rw [hd] at hN ht
        rw [put_get h.tsize (by simpa using hN), if_neg (fun e => ht (by rw [e]))]
    · intro t ht v hv
      rw [hdo] at ht
      rw [ht] at hN hv ⊢
      simp only [Env.put] at hv
      rw [get_cons_eq] at hv
      rw [put_get h.tsize (by simpa using hN), if_pos rfl, ← hv]
    · cases o.dst <;> exact h.defers
    · cases o.dst <;> simp [Act.put, h.tsize]
  | @pass _ _ o _ _ ho hd hg k =>
    simp only [ho]
    have hguard : ∀ j b t, o.guard = some (j, b) → (ops[j]?).bind (·.dst) = some t → ∀ v, E.get t = some v → a.tmps[t]? = some v := fun j b t h1 h2 u hu => hread t u (lk_guard ho h1 h2) hu
    rw [if_neg (by rw [wanted_no hg hguard]; simp)]
    have hdo : dstAt ops i = none := by simp [dstAt, ho, hd]
    exact ⟨fun f _ => RF_fn r f, hK _ _ _ _ _ _ _ _ (h.next_ hdir (.inr rfl) hnp (E' := E) (L' := L) (fun _ _ => rfl) (fun t _ => by rw [hd]; rfl) (fun t ht => by rw [hdo] at ht; cases ht) (by rw [hd]; exact h.defers) (by rw [hd]; exact h.tsize) h.mem h.zed k (by simp))⟩

/-- (B') a step of the line that only adds memory. -/
theorem DS.stepY {i : Nat} {rest : List (Nat × DK)} (h : DS r n P ops Q N D w0 Z canon listed pend park pre ((i, .y) :: rest) E L a W) (hdir : ∀ j ∈ dir ops i, listed[j]? = some true) {K : Act → World → Prop}
    (hK : ∀ a' W' E L pend park pre l, DS r n P ops Q N D w0 Z canon (listed.setIfInBounds i true) pend park pre l E L a' W' → K a' W') : wpOpIn (RF r) n P ops Q i K a W := by
  have hnd := h.nodup
  have hnp : ∀ p ∈ park, p.1 ≠ i := fun p hp e => by
    have h1 := h.in_canon.2 (.inr (h.parks p hp).1)
    rw [e] at h1
    have := h.kind_uniq h1 (h.in_canon.2 (.inr (by simp)) : (i, DK.y) ∈ canon)
    cases this
  have hipend : i ∉ pend := fun hm => (List.nodup_append.1 hnd).2.2 i (h.pend_mem hm) i (by simp) rfl
  have hread : ∀ t v, t ∈ lkAt ops i → E.get t = some v → a.tmps[t]? = some v := fun t u ht hu => h.reads (.inr ⟨rest, rfl⟩) hdir hnp (fun _ => hipend) ht hu
  unfold wpOpIn
  cases h.chain with
  | @effy _ _ o σ val φ L' _ _ ho hg hN hop hz hL k =>
    simp only [ho]
    have hguard : ∀ j b t, o.guard = some (j, b) → (ops[j]?).bind (·.dst) = some t → ∀ v, E.get t = some v → a.tmps[t]? = some v := fun j b t h1 h2 u hu => hread t u (lk_guard ho h1 h2) hu
    rw [if_pos (wanted_yes hg hguard)]
    refine hop _ o.dst o.pos o.after o.guard a W K Q (opn_of fun t u ht hu => hread t u (lk_op ho ht) hu) h.mem (fun s hs W' hW' => ?_)
    have hdo : dstAt ops i = o.dst := by simp [dstAt, ho]
    refine hK _ _ _ _ _ _ _ _ (h.next_ hdir (.inl (.inr rfl)) hnp (E' := Env.put o.dst (val s) E) (L' := L' s) ?_ ?_ ?_ ?_ ?_ hW' (hz s) (k s hs) (fun _ => hL s))
    · intro t ht
      rw [hdo] at ht
      cases hd : o.dst with
      | none => rfl
      | some d => simp only [Env.put]; exact get_cons_ne (fun e => ht (by rw [hd, e]))
    · intro t ht
      rw [hdo] at ht
      cases hd : o.dst with
      | none => rfl
      | some d =>
        rw [hd] at hN ht
        rw [put_get h.tsize (by simpa using hN), if_neg (fun e => ht (by rw [e]))]
    · intro t ht v hv
      rw [hdo] at ht
      rw [ht] at hN hv ⊢
      simp only [Env.put] at hv
      rw [get_cons_eq] at hv
      rw [put_get h.tsize (by simpa using hN), if_pos rfl, ← hv]
    · cases o.dst <;> exact h.defers
    · cases o.dst <;> simp [Act.put, h.tsize]

theorem exec_alloc {o : Oper} {T : Nat} {vs : List Value} (hz : Fresh P o.op T vs) {K : Act → World → Prop} {a : Act} {W : World} (hK : K (a.put o.dst (freshVal o.op W.heap.size)) (W.alloc (.cells vs.toArray T))) : o.wpIn (RF r) n P a W K Q := by
  refine ⟨fun f _ => RF_fn r f, ?_⟩
  rw [Oper.semAt_eq _ _ _ hz.1]
  have : (execOp a.eval o).run P W = .ok (.value (freshVal o.op W.heap.size)) (W.alloc (.cells vs.toArray T)) := hz.2 a W o.dst o.type o.pos o.after o.guard
  rw [this]
  exact hK
/-- (C) an allocation at its place. -/
theorem DS.stepA {i : Nat} {rest : List (Nat × DK)} (h : DS r n P ops Q N D w0 Z canon listed pend park pre ((i, .a) :: rest) E L a W) (hun : ∀ p ∈ park, p.1 ≠ i) (hdir : ∀ j ∈ dir ops i, listed[j]? = some true) {K : Act → World → Prop}
    (hK : ∀ a' W' E L pend park pre l, DS r n P ops Q N D w0 Z canon (listed.setIfInBounds i true) pend park pre l E L a' W' → K a' W') : wpOpIn (RF r) n P ops Q i K a W := by
  unfold wpOpIn
  have hlo := look_at h.whole h.split
  cases h.chain with
  | @alloc _ _ o d T vs _ _ ho hg hd hN hz k =>
    simp only [ho]
    rw [if_pos (by simp [Region.wanted, hg])]
    have hdo : dstAt ops i = some d := by simp [dstAt, ho, hd]
    refine exec_alloc hz (hK _ _ _ _ _ _ _ _ (h.next_ hdir (.inl (.inl rfl)) hun (E' := (d, freshVal o.op W.heap.size) :: E) (L' := cellR W.heap.size T vs :: L) ?_ ?_ ?_ ?_ ?_ (h.mem.alloc T vs) ?_ (k W.heap.size) ?_))
    · intro t ht; rw [hdo] at ht; exact get_cons_ne (fun e => ht (by rw [e]))
    · intro t ht; rw [hdo] at ht; rw [hd, put_get h.tsize hN, if_neg (fun e => ht (by rw [e]))]
    · intro t ht v hv
      rw [hdo] at ht
      cases ht
      rw [get_cons_eq] at hv
      rw [hd, put_get h.tsize hN, if_pos rfl, ← hv]
    · rw [hd]; exact h.defers
    · rw [hd]; simp [Act.put, h.tsize]
    · intro Fr W' hw'; exact h.zed Fr W' hw'.drop
    · rintro _ W' ⟨Fr, hw'⟩; exact ⟨Fr, HP.drop hw'⟩
/-- (D) an allocation ahead of its place. -/
theorem DS.stepK {i : Nat} (h : DS r n P ops Q N D w0 Z canon listed pend park pre l E L a W) (hil : (i, DK.a) ∈ l) (hun : ∀ p ∈ park, p.1 ≠ i)
    (hal : ∃ o T vs d, ops[i]? = some o ∧ o.guard = none ∧ o.dst = some d ∧ Nat.blt d N = true ∧ Fresh P o.op T vs) {K : Act → World → Prop}
    (hK : ∀ a' W' E L pend park pre l, DS r n P ops Q N D w0 Z canon (listed.setIfInBounds i true) pend park pre l E L a' W' → K a' W') : wpOpIn (RF r) n P ops Q i K a W := by
  obtain ⟨o, T, vs, d, ho, hg, hd, hN, hz⟩ := hal
  unfold wpOpIn
  simp only [ho]
  rw [if_pos (by simp [Region.wanted, hg])]
  have hdo : dstAt ops i = some d := by simp [dstAt, ho, hd]
  have hlt : i < ops.size := h.lt i (.inr (List.mem_map.2 ⟨_, hil, rfl⟩))
  have hic : (i, DK.a) ∈ canon := h.in_canon.2 (.inr hil)
  have hipre : i ∉ pre.map (·.1) := fun hm => (List.nodup_append.1 h.nodup).2.2 i hm i (List.mem_map.2 ⟨_, hil, rfl⟩) rfl
  refine exec_alloc hz (hK _ _ E L pend ((i, W.heap.size, T, vs) :: park) pre l ⟨h.whole, h.split, h.nodup, h.lt, h.all, by simp [h.size], fun x hx => ?_, h.pends, h.pnd, fun p hp => ?_, ?_, ?_, fun t u hu h1 h2 => ?_, ?_, ?_, h.zed, h.chain⟩)
  · rw [set_listed (by rw [h.size]; exact hlt)]
    by_cases e : x = i
    · subst e
      simp only [if_true, true_iff]
      exact .inr ⟨_, List.mem_cons_self, rfl⟩
    · rw [if_neg e, h.lst x hx]
      constructor
      · rintro (h1 | ⟨p, h1, h2⟩)
        · exact .inl h1
        · exact .inr ⟨p, List.mem_cons_of_mem _ h1, h2⟩
      · rintro (h1 | ⟨p, h1, h2⟩)
        · exact .inl h1
        · rcases List.mem_cons.1 h1 with rfl | h1
          · exact absurd h2.symm e
          · exact .inr ⟨p, h1, h2⟩
  · rcases List.mem_cons.1 hp with rfl | hp
    · exact ⟨hil, o, d, ho, hd, hz, by rw [hd, put_get h.tsize hN, if_pos rfl]⟩
    · obtain ⟨m1, oj, dj, m2, m4, m5, m6⟩ := h.parks p hp
      refine ⟨m1, oj, dj, m2, m4, m5, ?_⟩
      rw [hd, put_get h.tsize hN, if_neg ?_]
      · exact m6
      · intro e
        exact h.dst_ne hic (h.in_canon.2 (.inr m1)) (fun e' => hun p hp (by cases e'; rfl)) hdo (by simp [dstAt, m2, m4, e])
  · simp only [List.map_cons, List.nodup_cons]
    exact ⟨fun hm => by obtain ⟨p, h1, h2⟩ := List.mem_map.1 hm; exact hun p h1 h2, h.knd⟩
  · refine HP.perm ?_ (h.mem.alloc T vs)
    simp only [List.map_cons]
    exact List.perm_middle.symm
  · rw [hd, put_get h.tsize hN, if_neg (fun e => h2 _ List.mem_cons_self (by rw [hdo, e]))]
    exact h.slots t u hu h1 (fun p hp => h2 p (List.mem_cons_of_mem _ hp))
  · rw [hd]; exact h.defers
  · rw [hd]; simp [Act.put, h.tsize]

theorem ready_spec {listed : Array Bool} {i : Nat} (h : i ∈ Region.ready .any ops listed) : i < ops.size ∧ listed.getD i true = false ∧ ∀ j ∈ dir ops i, listed[j]? = some true := by
  simp only [Region.ready, List.mem_filter, List.mem_range, Bool.and_eq_true] at h
  obtain ⟨h1, h2, h3⟩ := h
  refine ⟨h1, by simpa using h2, fun j hj => ?_⟩
  obtain ⟨o, ho⟩ : ∃ o, ops[i]? = some o := ⟨ops[i], by simp [h1]⟩
  simp only [dir, ho] at hj
  simp only [ho, Option.map_some, Option.getD_some] at h3
  obtain ⟨e, he, rfl⟩ := List.mem_map.1 hj
  simp only [List.mem_filter] at he
  have := (Array.all_eq_true'.1 h3) e (by simpa using he.1)
  simp only [Bool.or_eq_true, Bool.not_eq_true', he.2] at this
  rcases this with h | h
  · cases h
  · rw [Array.getD_eq_getD_getElem?] at h
    cases hx : listed[e.on]? with
    | none => simp [hx] at h
    | some b => simp [hx] at h; simp [h]
theorem ready_mk {listed : Array Bool} {i : Nat} (h1 : i < ops.size) (h2 : listed[i]? = some false) (h3 : ∀ j ∈ dir ops i, listed[j]? = some true) : i ∈ Region.ready .any ops listed := by
  simp only [Region.ready, List.mem_filter, List.mem_range, Bool.and_eq_true]
  refine ⟨h1, by simp [Array.getD_eq_getD_getElem?, h2], ?_⟩
  obtain ⟨o, ho⟩ : ∃ o, ops[i]? = some o := ⟨ops[i], by simp [h1]⟩
  simp only [ho, Option.map_some, Option.getD_some]
  refine Array.all_eq_true'.2 fun e he => ?_
  simp only [Bool.or_eq_true, Bool.not_eq_true']
  cases hb : Region.binds .any e with
  | false => exact .inl rfl
  | true =>
    refine .inr ?_
    have : e.on ∈ dir ops i := by
      simp only [dir, ho]
      exact List.mem_map.2 ⟨e, List.mem_filter.2 ⟨by simpa using he, hb⟩, rfl⟩
    simp [Array.getD_eq_getD_getElem?, h3 _ this]
theorem first_not {α : Type} (p : α → Bool) : ∀ (l : List α), (∃ x ∈ l, p x = false) → ∃ A x B, l = A ++ x :: B ∧ p x = false ∧ ∀ y ∈ A, p y = true
  | [], ⟨x, hx, _⟩ => by simp at hx
  | x :: l, h => by
    cases hp : p x with
    | false => exact ⟨[], x, l, rfl, hp, by simp⟩
    | true =>
      obtain ⟨A, y, B, e, h1, h2⟩ := first_not p l (by
        obtain ⟨y, hy, h1⟩ := h
        rcases List.mem_cons.1 hy with rfl | hy
        · rw [hp] at h1; cases h1
        · exact ⟨y, hy, h1⟩)
      exact ⟨x :: A, y, B, by rw [e]; rfl, h1, fun z hz => by rcases List.mem_cons.1 hz with rfl | hz; exact hp; exact h2 z hz⟩

def unl (listed : Array Bool) : Nat := listed.toList.count false
theorem count_set : ∀ (l : List Bool) (i : Nat), l[i]? = some false → (l.set i true).count false + 1 = l.count false
  | [], i, h => by simp at h
  | b :: l, 0, h => by simp at h; subst h; simp
  | b :: l, i + 1, h => by
    have := count_set l i (by simpa using h)
    simp only [List.set_cons_succ, List.count_cons]
    omega
theorem unl_set {listed : Array Bool} {i : Nat} (h : listed[i]? = some false) : unl (listed.setIfInBounds i true) + 1 = unl listed := by
  unfold unl
  have := count_set listed.toList i (by simpa using h)
  simpa using this

/-- Some operation is ready while one is left. -/
theorem DS.progress (h : DS r n P ops Q N D w0 Z canon listed pend park pre l E L a W) {i : Nat} (hi : i < ops.size) (hl : listed[i]? = some false) : Region.ready .any ops listed ≠ [] := by
  have hex : ∃ q ∈ canon, (listed[q.1]? == some true) = false := by
    rcases h.all i hi with hm | hm <;> obtain ⟨q, hq, rfl⟩ := List.mem_map.1 hm
    · exact ⟨q, h.in_canon.2 (.inl hq), by simp [hl]⟩
    · exact ⟨q, h.in_canon.2 (.inr hq), by simp [hl]⟩
  obtain ⟨A, q, B, e, h1, h2⟩ := first_not (fun q : Nat × DK => listed[q.1]? == some true) canon hex
  have hqc : q ∈ canon := by rw [e]; simp
  have hlt : q.1 < ops.size := h.lt q.1 ((h.in_canon.1 hqc).imp (fun h => List.mem_map.2 ⟨_, h, rfl⟩) (fun h => List.mem_map.2 ⟨_, h, rfl⟩))
  have hq : listed[q.1]? = some false := by
    cases hx : listed[q.1]? with
    | none => rw [Array.getElem?_eq_none_iff] at hx; rw [h.size] at hx; omega
    | some b => cases b with
      | false => rfl
      | true => simp [hx] at h1
  have := ready_mk hlt hq (fun j hj => by
    obtain ⟨p, hp, rfl⟩ := (look_at h.whole (i := q.1) (k := q.2) e).back j hj
    simpa using h2 p (by simpa using hp))
  intro hr
  rw [hr] at this
  simp at this

theorem DS.finish (h : DS r n P ops Q N D w0 Z canon listed pend park pre l E L a W) (hall : ∀ i, i < ops.size → listed[i]? = some true) : Q .normal a W := by
  obtain ⟨pend', park', pre', l', E', L', h', hd⟩ := DS.absorb l h
  have hp : pend' = [] := by
    cases hp : pend' with
    | nil => rfl
    | cons j js =>
      have hj : j ∈ pend' := by rw [hp]; simp
      exact absurd (hall j (h'.lt j (.inl (h'.pend_mem hj)))) (h'.notListed hj)
  have notl : ∀ i k rest, l' = (i, k) :: rest → (∀ p ∈ park', p.1 ≠ i) → False := fun i k rest e hun => by
    have hm : i ∈ l'.map (·.1) := by rw [e]; simp
    rcases (h'.lst i (h'.lt i (.inr hm))).1 (hall i (h'.lt i (.inr hm))) with ⟨h1, _⟩ | ⟨p, h1, h2⟩
    · exact (List.nodup_append.1 h'.nodup).2.2 i h1 i hm rfl
    · exact hun p h1 h2
  rcases hd with rfl | ⟨i, kx, rest, hkx, e⟩ | ⟨i, rest, e, hun⟩
  · have hk : park' = [] := by
      cases hk : park' with
      | nil => rfl
      | cons p ps => have := (h'.parks p (by rw [hk]; simp)).1; simp at this
    subst hp
    subst hk
    cases h'.chain with
    | done hq =>
      have hm := h'.mem
      simp only [List.map_nil, List.append_nil] at hm
      exact hq a W ⟨h'.defers, h'.tsize, fun t v hv => h'.slots t v hv (by simp) (by simp)⟩ hm
  · refine (notl i kx rest e fun p hp' e' => ?_).elim
    have h1 := h'.in_canon.2 (.inr (h'.parks p hp').1)
    rw [e'] at h1
    have := h'.kind_uniq h1 (h'.in_canon.2 (.inr (by rw [e]; simp)) : (i, kx) ∈ canon)
    rcases hkx with rfl | rfl <;> cases this
  · exact (notl i .a rest e hun).elim

def AllocOK (P : Program) (N : Nat) (ops : Array Oper) (canon : List (Nat × DK)) : Prop :=
  ∀ q ∈ canon, q.2 = .a → ∃ o T vs d, ops[q.1]? = some o ∧ o.guard = none ∧ o.dst = some d ∧ Nat.blt d N = true ∧ Fresh P o.op T vs

theorem DS.run (hal : AllocOK P N ops canon) : ∀ (fuel : Nat) (listed : Array Bool) (pend : List Nat) (park : List (Nat × Nat × Nat × List Value)) (pre l : List (Nat × DK)) (E : Env) (L : List Res) (a : Act) (W : World),
    DS r n P ops Q N D w0 Z canon listed pend park pre l E L a W → unl listed = fuel → wpAnyIn (RF r) n P .any ops Q fuel listed a W := by
  intro fuel
  induction fuel with
  | zero =>
    intro listed pend park pre l E L a W h hf
    have hall : ∀ i, i < ops.size → listed[i]? = some true := fun i hi => by
      have hi' : i < listed.size := by rw [h.size]; exact hi
      cases hb : listed[i] with
      | true => simp [hi', hb]
      | false =>
        exfalso
        have := unl_set (listed := listed) (i := i) (by simp [hi', hb])
        omega
    refine ⟨?_, h.finish hall⟩
    rw [List.eq_nil_iff_forall_not_mem]
    intro i hm
    have h1 := ready_spec hm
    have := hall i h1.1
    simp [Array.getD_eq_getD_getElem?, this] at h1
  | succ fuel ih =>
    intro listed pend park pre l E L a W h hf
    refine ⟨fun hr => ?_, fun i hi => ?_⟩
    · have : ∃ i, i < ops.size ∧ listed[i]? = some false := by
        have hc : 0 < listed.toList.count false := by unfold unl at hf; omega
        obtain ⟨i, hi, e⟩ := List.getElem_of_mem (List.count_pos_iff.1 hc)
        refine ⟨i, by rw [← h.size]; simpa using hi, ?_⟩
        simp at hi
        simp [hi]
        simpa using e
      obtain ⟨i, h1, h2⟩ := this
      exact absurd hr (h.progress h1 h2)
    · obtain ⟨h1, h2, h3⟩ := ready_spec hi
      have hl : listed[i]? = some false := by
        have hi' : i < listed.size := by rw [h.size]; exact h1
        rw [Array.getD_eq_getD_getElem?] at h2
        simp [hi'] at h2
        simp [hi', h2]
      have hK : ∀ a' W' E L pend park pre l, DS r n P ops Q N D w0 Z canon (listed.setIfInBounds i true) pend park pre l E L a' W' → wpAnyIn (RF r) n P .any ops Q fuel (listed.setIfInBounds i true) a' W' :=
        fun a' W' E L pend park pre l hs => ih _ _ _ _ _ _ _ _ _ hs (by have := unl_set hl; omega)
      obtain ⟨pend', park', pre', l', E', L', h', hd⟩ := DS.absorb l h
      have hnp : ∀ p ∈ park', p.1 ≠ i := fun p hp e => by
        have := (h'.lst i h1).2 (.inr ⟨p, hp, e⟩)
        rw [hl] at this
        cases this
      rcases h'.all i h1 with hm | hm
      · have hp : i ∈ pend' := by
          refine Classical.byContradiction fun hn => ?_
          have := (h'.lst i h1).2 (.inl ⟨hm, hn⟩)
          rw [hl] at this
          cases this
        exact h'.stepP hp h3 hK
      · obtain ⟨⟨i', k⟩, hq, e⟩ := List.mem_map.1 hm
        simp only at e
        subst e
        by_cases hka : k = .a
        · subst hka
          rcases hd with e | ⟨j, kx, rest, hkx, e⟩ | ⟨j, rest, e, hun⟩
          · rw [e] at hq; simp at hq
          · exact h'.stepK hq hnp (hal _ (h'.in_canon.2 (.inr hq)) rfl) hK
          · by_cases hij : j = i'
            · subst hij
              subst e
              exact h'.stepA hun h3 hK
            · exact h'.stepK hq hnp (hal _ (h'.in_canon.2 (.inr hq)) rfl) hK
        · -- it is the head, else something unlisted stands ahead
          have unlisted : ∀ j kj, (j, kj) ∈ l' → (∀ p ∈ park', p.1 ≠ j) → listed[j]? ≠ some true := fun j kj hj hu e => by
            have hjm : j ∈ l'.map (·.1) := List.mem_map.2 ⟨_, hj, rfl⟩
            rcases (h'.lst j (h'.lt j (.inr hjm))).1 e with ⟨h4, _⟩ | ⟨p, h4, h5⟩
            · exact (List.nodup_append.1 h'.nodup).2.2 j h4 j hjm rfl
            · exact hu p h4 h5
          have notpark : ∀ j kj, (j, kj) ∈ l' → kj ≠ .a → ∀ p ∈ park', p.1 ≠ j := fun j kj hj hk p hp e => by
            have h4 := h'.in_canon.2 (.inr (h'.parks p hp).1)
            rw [e] at h4
            exact hk (h'.kind_uniq (h'.in_canon.2 (.inr hj)) h4)
          have blocked : ∀ j kj rest, l' = (j, kj) :: rest → kj ≠ .p → kj ≠ .l → (∀ p ∈ park', p.1 ≠ j) → (i', k) ∈ rest → False := fun j kj rest e hk hkl hu hin => by
            obtain ⟨q, hqd, h4⟩ := (look_at h'.whole (by rw [h'.split, e]) : Look ops pre'.reverse.reverse j kj rest).post hk hkl i' k hin hka
            have h5 := h3 q hqd
            rcases h4 with rfl | ⟨z, hz, rfl, hza⟩
            · exact unlisted q kj (by rw [e]; simp) hu h5
            · exact unlisted z.1 z.2 (by rw [e]; simp [hz]) (notpark z.1 z.2 (by rw [e]; simp [hz]) hza) h5
          rcases hd with e | ⟨j, kx, rest, hkx, e⟩ | ⟨j, rest, e, hun⟩
          · rw [e] at hq; simp at hq
          · rw [e] at hq
            rcases List.mem_cons.1 hq with hq | hq
            · cases hq
              subst e
              rcases hkx with rfl | rfl
              · exact h'.stepX h3 hK
              · exact h'.stepY h3 hK
            · exact (blocked j kx rest e (by rcases hkx with rfl | rfl <;> simp) (by rcases hkx with rfl | rfl <;> simp) (notpark j kx (by rw [e]; simp) (by rcases hkx with rfl | rfl <;> simp)) hq).elim
          · rw [e] at hq
            rcases List.mem_cons.1 hq with hq | hq
            · cases hq; exact absurd rfl hka
            · exact (blocked j .a rest e (by simp) (by simp) hun hq).elim
end step

theorem nodupB_spec : ∀ {l : List Nat}, nodupB l = true → l.Nodup
  | [], _ => by simp
  | x :: xs, h => by
    simp only [nodupB, Bool.and_eq_true] at h
    exact List.nodup_cons.2 ⟨by simpa using h.1, nodupB_spec h.2⟩
/-- **A REGION THAT DRAWS ITS ORDER.** canon: one order, each operation with its kind; the look at the edges is reckoned; the chain is walked once. -/
theorem xc_draw {canon : List (Nat × DK)} {id : Nat} (hm : P.follows .mixedOrders = true) (hok : drawOK ops canon = true) (hal : AllocOK P N ops canon) (hz : ∀ Fr W, HP w0 (Rs ++ Fr) W → Z W)
    (h : DC r n P ops Q N D w0 Z canon E Rs) : XC r n P (Code.region id ops true) Q N D E (HP w0 Rs) := by
  intro a W ha hw
  refine wpIn_region_any hm ?_
  simp only [drawOK, Bool.and_eq_true] at hok
  obtain ⟨⟨⟨h1, h2⟩, h3⟩, h4⟩ := hok
  refine DS.run hal ops.size _ [] [] [] canon E Rs a _ ⟨h1, by simp, by simpa using nodupB_spec h2, fun i hi => ?_, fun i hi => ?_, by simp, fun i hi => ?_, by simp, by simp, by simp, by simp, ?_, fun t v hv _ _ => ha.get t v hv, ha.defers, ha.size, hz, h⟩ ?_
  · rcases hi with hi | hi
    · simp at hi
    · obtain ⟨q, hq, rfl⟩ := List.mem_map.1 hi
      exact Nat.le_of_ble_eq_true (List.all_eq_true.1 h4 q hq)
  · exact .inr (by simpa using List.all_eq_true.1 h3 i (by simpa using hi))
  · simp [hi]
  · simp only [List.map_nil, List.append_nil]
    exact hw.step ⟨rfl, rfl, rfl, Nat.le_refl _, fun _ _ => rfl⟩
  · simp [unl]
end sound
end Go.Eng
end
section
namespace Go.Eng
open Go Go.RowKit
set_option linter.unusedVariables false
set_option linter.unusedSimpArgs false
variable {r : Option Nat} {n N : Nat} {P : Program} {D : List Deferred} {E : Env} {H : World → Prop} {Q : Exit → Act → World → Prop} {ops : Array Oper} {rest : List Oper}
variable {Z : World → Prop} {w0 : World} {Rs L ZL : List Res} {d : Nat} {i : Nat} {l : List (Nat × DK)} {o : Oper}

theorem HP.left {W : World} {Fr : List Res} (h : HP w0 (L ++ Fr) W) : HP w0 L W := h.sub (List.sublist_append_left _ _)
theorem Pos.app {R : Res} {f : Res → List Res} (h : Pos L R f) (Fr : List Res) : Pos (L ++ Fr) R (fun R' => f R' ++ Fr) := by
  induction h with
  | head => exact .head
  | tail _ ih => exact .tail ih
theorem zsub {L' : List Res} (h : List.Sublist ZL L') : ∀ Fr W, HP w0 (L' ++ Fr) W → HP w0 ZL W := fun Fr W hw => hw.left.sub h

theorem dp {v : Value} (ho : ops[i]? = some o) (hd : o.dst = some d) (hN : Nat.blt d N = true) (hg : o.guard = none) (h : OpP P o.op o.type E Z v) (k : DC r n P ops Q N D w0 Z l ((d, v) :: E) L) :
    DC r n P ops Q N D w0 Z ((i, .p) :: l) E L := .pure ho hd hN (.inl ⟨.inl hg, h.q⟩) k
/-- A call that tells a value alone may float. -/
theorem dq {f : Operand} {args : List Operand} {ats : Array TypeId} {g : Nat} {vs : List Value} {v : Value} (ho : ops[i]? = some o) (hd : o.dst = some d) (hN : Nat.blt d N = true) (hg : o.guard = none)
    (hop : o.op = .call { callee := .value f, args := args.toArray, argTypes := ats }) (he : Enters P g) (hf : E.ev f = some (.func (.func g) #[] #[])) (hv : E.evs args = some vs)
    (hc : ∀ W, Z W → RetV P g vs W v) (k : DC r n P ops Q N D w0 Z l ((d, v) :: E) L) : DC r n P ops Q N D w0 Z ((i, .p) :: l) E L :=
  .pure ho hd hN (.inl ⟨.inl hg, by
    rw [hop]
    intro d p af g a W K Q ha hw kk
    have := calls_ (r := r) (n := n) (ty := o.type) (ats := ats) (H := fun X => X = W ∧ Z W) (σ := Unit) (val := fun _ => v) (φ := fun _ => True) (H' := fun _ W' => Below W.heap.size W W') (first := []) (cap := []) (us := vs) he hf hv (by simp)
      (fun X hX => by rw [hX.1]; exact (hc W hX.2).mono fun e W' ⟨h1, h2⟩ => ⟨(), h1, trivial, h2⟩)
    exact this d p af g a W K Q ha ⟨rfl, hw⟩ fun _ _ W' hW' => kk W' hW'⟩) k
/-- Guarded, and let by · guarded, and passed over. -/
theorem dpT {v : Value} {j t : Nat} {b c : Bool} (ho : ops[i]? = some o) (hd : o.dst = some d) (hN : Nat.blt d N = true) (hg : o.guard = some (j, b)) (ht : (ops[j]?).bind (·.dst) = some t) (hc : E.get t = some (.bool c)) (e : c = b)
    (h : OpP P o.op o.type E Z v) (k : DC r n P ops Q N D w0 Z l ((d, v) :: E) L) :
    DC r n P ops Q N D w0 Z ((i, .p) :: l) E L := .pure ho hd hN (.inl ⟨.inr ⟨j, b, t, hg, ht, by rw [hc, e]⟩, h.q⟩) k
theorem dpF {j t : Nat} {b c : Bool} (ho : ops[i]? = some o) (hd : o.dst = some d) (hN : Nat.blt d N = true) (hg : o.guard = some (j, b)) (ht : (ops[j]?).bind (·.dst) = some t) (hc : E.get t = some (.bool c)) (e : c = !b)
    (k : DC r n P ops Q N D w0 Z l ((d, undef) :: E) L) :
    DC r n P ops Q N D w0 Z ((i, .p) :: l) E L := .pure ho hd hN (.inr ⟨⟨j, b, t, hg, ht, by rw [hc, e]⟩, rfl⟩) k
theorem da {T : Nat} {vs : List Value} (ho : ops[i]? = some o) (hg : o.guard = none) (hop : o.op = .alloc T) (hd : o.dst = some d) (hN : Nat.blt d N = true) (hz : ZeroOf P T vs)
    (k : ∀ b, DC r n P ops Q N D w0 H l ((d, .pointer (some ⟨b, 0, none⟩)) :: E) (cellR b T vs :: L)) : DC r n P ops Q N D w0 H ((i, .a) :: l) E L := .alloc ho hg hd hN (by rw [hop]; exact Fresh.alloc hz) (by rw [hop]; exact k)
/-- A row of constants. -/
theorem dbs {T S len : Nat} {parts : List (Nat × Operand)} {vs : List Value} (ho : ops[i]? = some o) (hg : o.guard = none) (hop : o.op = .buildSlice S len parts.toArray) (hd : o.dst = some d) (hN : Nat.blt d N = true) (hz : Fresh P (.buildSlice S len parts.toArray) T vs)
    (k : ∀ b, DC r n P ops Q N D w0 H l ((d, .slice (some ⟨b, 0, none⟩) len len) :: E) (cellR b T vs :: L)) : DC r n P ops Q N D w0 H ((i, .a) :: l) E L := .alloc ho hg hd hN (by rw [hop]; exact hz) (by rw [hop]; exact k)
/-- An effect into a slot. -/
theorem de {σ : Type} {val : σ → Value} {φ : σ → Prop} {L' : σ → List Res} (ho : ops[i]? = some o) (hd : o.dst = some d) (hN : Nat.blt d N = true) (hg : GOK ops E o)
    (h : ∀ Fr, OpE r n P o.op o.type E (HP w0 (L ++ Fr)) val φ (fun s => HP w0 (L' s ++ Fr))) (hz : ∀ s Fr W, HP w0 (L' s ++ Fr) W → Z W) (k : ∀ s, φ s → DC r n P ops Q N D w0 Z l ((d, val s) :: E) (L' s)) :
    DC r n P ops Q N D w0 Z ((i, .x) :: l) E L := .eff ho hg (by rw [hd]; simpa using hN) h hz (by rw [hd]; exact k)
/-- An effect into none. -/
theorem de0 {L' : List Res} (ho : ops[i]? = some o) (hd : o.dst = none) (hg : GOK ops E o)
    (h : ∀ Fr, OpE r n P o.op o.type E (HP w0 (L ++ Fr)) (fun _ : Unit => undef) (fun _ => True) (fun _ => HP w0 (L' ++ Fr))) (hz : ∀ Fr W, HP w0 (L' ++ Fr) W → Z W) (k : DC r n P ops Q N D w0 Z l E L') :
    DC r n P ops Q N D w0 Z ((i, .x) :: l) E L := .eff (L' := fun _ => L') ho hg (by rw [hd]; rfl) h (fun s => hz) (by rw [hd]; exact fun _ _ => k)
/-- An assignment (a step of the line that only reckons). -/
theorem das {v : Value} (ho : ops[i]? = some o) (hd : o.dst = some d) (hN : Nat.blt d N = true) (hg : o.guard = none) (h : OpP P o.op o.type E (HP w0 L) v) (hz : ∀ Fr W, HP w0 (L ++ Fr) W → Z W)
    (k : DC r n P ops Q N D w0 Z l ((d, v) :: E) L) : DC r n P ops Q N D w0 Z ((i, .x) :: l) E L :=
  de (σ := Unit) (L' := fun _ => L) ho hd hN (.inl hg) (fun Fr => (h.weaken fun W => HP.left).eff) (fun _ => hz) (fun _ _ => k)
theorem das0 {v : Value} (ho : ops[i]? = some o) (hd : o.dst = none) (hg : o.guard = none) (h : OpP P o.op o.type E (HP w0 L) v) (hz : ∀ Fr W, HP w0 (L ++ Fr) W → Z W)
    (k : DC r n P ops Q N D w0 Z l E L) : DC r n P ops Q N D w0 Z ((i, .x) :: l) E L :=
  .eff (σ := Unit) (L' := fun _ => L) ho (.inl hg) (by rw [hd]; rfl) (fun Fr => (h.weaken fun W => HP.left).eff) (fun _ => hz) (by rw [hd]; exact fun _ _ => k)
/-- A store. -/
theorem dst_ {T b off T0 m : Nat} {vs us : List Value} {v : Value} {f : Res → List Res} {x y : Operand} (ho : ops[i]? = some o) (hd : o.dst = none) (hg : o.guard = none) (hop : o.op = .store T x y)
    (hs : SizeOf P T m) (hx : E.ev x = some (.pointer (some ⟨b, off, none⟩))) (hy : E.ev y = some v) (hu : v.cells = us.toArray) (hm : us.length = m)
    (hp : Pos L (cellR b T0 vs) f) (hl : Nat.ble (off + us.length) vs.length = true) (h1 : us.all flat1 = true) (hz : ∀ Fr W, HP w0 (f (cellR b T0 (splice vs off us)) ++ Fr) W → Z W)
    (k : DC r n P ops Q N D w0 Z l E (f (cellR b T0 (splice vs off us)))) : DC r n P ops Q N D w0 Z ((i, .x) :: l) E L :=
  de0 ho hd (.inl hg) (fun Fr => by rw [hop]; exact st hs hx hy hu hm (hp.app Fr) hl h1) hz k
theorem dbx {T : Nat} {vs : List Value} {x : Operand} {v : Value} (ho : ops[i]? = some o) (hd : o.dst = some d) (hN : Nat.blt d N = true) (hg : o.guard = none) (hop : o.op = .box T x) (hx : E.ev x = some v) (hv : v.cells = vs.toArray) (hz : ∀ Fr W, HP w0 (L ++ Fr) W → Z W)
    (k : ∀ b, DC r n P ops Q N D w0 Z l ((d, .pointer (some ⟨b, 0, none⟩)) :: E) (cellR b T vs :: L)) : DC r n P ops Q N D w0 Z ((i, .x) :: l) E L :=
  de (σ := Nat) (L' := fun b => cellR b T vs :: L) ho hd hN (.inl hg) (fun Fr => by rw [hop]; exact bx hx hv) (fun b Fr W hw => hz Fr W (HP.drop (R := cellR b T vs) hw)) (fun b _ => k b)
/-- Calls. -/
theorem dv {f : Operand} {args : List Operand} {ats : Array TypeId} {g : Nat} {vs : List Value} {v : Value} (ho : ops[i]? = some o) (hd : o.dst = some d) (hN : Nat.blt d N = true) (hg : GOK ops E o)
    (hop : o.op = .call { callee := .value f, args := args.toArray, argTypes := ats }) (he : Enters P g) (hf : E.ev f = some (.func (.func g) #[] #[])) (hv : E.evs args = some vs)
    (hc : ∀ W, HP w0 L W → RetV P g vs W v) (hz : ∀ Fr W, HP w0 (L ++ Fr) W → Z W) (k : DC r n P ops Q N D w0 Z l ((d, v) :: E) L) : DC r n P ops Q N D w0 Z ((i, .x) :: l) E L :=
  de (σ := Unit) (L' := fun _ => L) ho hd hN hg (fun Fr => by rw [hop]; exact retv he hf hv (fun W hw => hc W hw.left)) (fun _ => hz) (fun _ _ => k)
theorem dr {f : Operand} {args : List Operand} {ats : Array TypeId} {g : Nat} {vs : List Value} {σ : Type} {val : σ → Value} {φ : σ → Prop} {R : σ → List Res} (ho : ops[i]? = some o) (hd : o.dst = some d) (hN : Nat.blt d N = true) (hg : GOK ops E o)
    (hop : o.op = .call { callee := .value f, args := args.toArray, argTypes := ats }) (he : Enters P g) (hf : E.ev f = some (.func (.func g) #[] #[])) (hv : E.evs args = some vs)
    (hc : ∀ W, HP w0 L W → Ret P g vs W val φ R) (hz : ∀ Fr W, HP w0 (L ++ Fr) W → Z W) (k : ∀ s, φ s → DC r n P ops Q N D w0 Z l ((d, val s) :: E) (R s ++ L)) : DC r n P ops Q N D w0 Z ((i, .x) :: l) E L :=
  de (L' := fun s => R s ++ L) ho hd hN hg (fun Fr => by rw [hop]; simpa only [List.append_assoc] using ret he hf hv (fun W hw => hc W hw.left)) (fun s Fr W hw => hz Fr W (hw.sub ((List.sublist_append_right _ _).append_right _))) k
/-- A load that the steps of the line behind it wait for. -/
theorem dl {v : Value} (ho : ops[i]? = some o) (hd : o.dst = some d) (hN : Nat.blt d N = true) (hg : o.guard = none) (h : OpP P o.op o.type E (HP w0 L) v) (k : DC r n P ops Q N D w0 Z l ((d, v) :: E) L) :
    DC r n P ops Q N D w0 Z ((i, .l) :: l) E L := .load ho hd hN (.inl ⟨.inl hg, (h.weaken fun W ⟨Fr, hw⟩ => hw.left).q⟩) k
/-- Steps of the line that only add memory. -/
theorem dey {σ : Type} {val : σ → Value} {φ : σ → Prop} {R : σ → Res} (ho : ops[i]? = some o) (hd : o.dst = some d) (hN : Nat.blt d N = true) (hg : GOK ops E o)
    (h : ∀ Fr, OpE r n P o.op o.type E (HP w0 (L ++ Fr)) val φ (fun s => HP w0 (R s :: L ++ Fr))) (hz : ∀ s Fr W, HP w0 (R s :: L ++ Fr) W → Z W) (k : ∀ s, φ s → DC r n P ops Q N D w0 Z l ((d, val s) :: E) (R s :: L)) :
    DC r n P ops Q N D w0 Z ((i, .y) :: l) E L := .effy (L' := fun s => R s :: L) ho hg (by rw [hd]; simpa using hN) h hz (fun s W ⟨Fr, hw⟩ => ⟨Fr, HP.drop hw⟩) (by rw [hd]; exact k)
theorem dvy {f : Operand} {args : List Operand} {ats : Array TypeId} {g : Nat} {vs : List Value} {v : Value} (ho : ops[i]? = some o) (hd : o.dst = some d) (hN : Nat.blt d N = true) (hg : GOK ops E o)
    (hop : o.op = .call { callee := .value f, args := args.toArray, argTypes := ats }) (he : Enters P g) (hf : E.ev f = some (.func (.func g) #[] #[])) (hv : E.evs args = some vs)
    (hc : ∀ W, HP w0 L W → RetV P g vs W v) (hz : ∀ Fr W, HP w0 (L ++ Fr) W → Z W) (k : DC r n P ops Q N D w0 Z l ((d, v) :: E) L) : DC r n P ops Q N D w0 Z ((i, .y) :: l) E L :=
  .effy (σ := Unit) (val := fun _ => v) (φ := fun _ => True) (L' := fun _ => L) ho hg (by rw [hd]; simpa using hN) (fun Fr => by rw [hop]; exact retv he hf hv (fun W hw => hc W hw.left)) (fun _ => hz) (fun _ W h => h) (by rw [hd]; exact fun _ _ => k)
theorem dry {f : Operand} {args : List Operand} {ats : Array TypeId} {g : Nat} {vs : List Value} {σ : Type} {val : σ → Value} {φ : σ → Prop} {R : σ → List Res} (ho : ops[i]? = some o) (hd : o.dst = some d) (hN : Nat.blt d N = true) (hg : GOK ops E o)
    (hop : o.op = .call { callee := .value f, args := args.toArray, argTypes := ats }) (he : Enters P g) (hf : E.ev f = some (.func (.func g) #[] #[])) (hv : E.evs args = some vs)
    (hc : ∀ W, HP w0 L W → Ret P g vs W val φ R) (hz : ∀ s Fr W, HP w0 (R s ++ L ++ Fr) W → Z W) (k : ∀ s, φ s → DC r n P ops Q N D w0 Z l ((d, val s) :: E) (R s ++ L)) : DC r n P ops Q N D w0 Z ((i, .y) :: l) E L :=
  .effy (L' := fun s => R s ++ L) ho hg (by rw [hd]; simpa using hN) (fun Fr => by rw [hop]; simpa only [List.append_assoc] using ret he hf hv (fun W hw => hc W hw.left)) hz (fun s W ⟨Fr, hw⟩ => ⟨Fr, hw.sub ((List.sublist_append_right _ _).append_right _)⟩) (by rw [hd]; exact k)
theorem dend (h : XQ Q .normal N D E (HP w0 L)) : DC r n P ops Q N D w0 H [] E L := .done h
end Go.Eng
end
section
namespace Go.Eng
open Go Go.RowKit
set_option linter.unusedVariables false
set_option linter.unusedSimpArgs false
variable {r : Option Nat} {n N : Nat} {P : Program} {D : List Deferred} {E : Env} {H : World → Prop} {Q : Exit → Act → World → Prop} {ops : Array Oper} {rest : List Oper}
variable {w0 : World} {Rs : List Res} {dst : Option Nat} {d : Nat} {ty : TypeId} {ps : String} {af : Array Edge} {op : Op}

/-! ## 1. Rows that are read -/
def RowA (W : World) (k : Nat) (A : Option Addr) (n : Nat) (cs : List Value) : Prop :=
  cs.length = n * k ∧ n ≤ 9223372036854775807 ∧ (0 < n → ∃ b off, A = some ⟨b, off, none⟩ ∧ Cells W b off cs)
theorem RowA.below {w W : World} {k n : Nat} {A : Option Addr} {cs : List Value} (h : RowA w k A n cs) (hb : Below w.heap.size w W) : RowA W k A n cs :=
  ⟨h.1, h.2.1, fun hn => let ⟨b, off, e, hc⟩ := h.2.2 hn; ⟨b, off, e, hc.below hb⟩⟩
theorem RowA.nil (W : World) (k : Nat) (A : Option Addr) : RowA W k A 0 [] := ⟨by simp, by omega, fun h => absurd h (by omega)⟩
theorem RowA.cells {W : World} {k n b off : Nat} {cs : List Value} (h : RowA W k (some ⟨b, off, none⟩) n cs) (hn : 0 < n) : Cells W b off cs := by
  obtain ⟨b', off', e, hc⟩ := h.2.2 hn
  cases e; exact hc
theorem Cells.drop {W : World} {b off : Nat} {cs : List Value} (h : Cells W b off cs) (i : Nat) : Cells W b (off + i) (cs.drop i) := fun j v hj => by
  rw [List.getElem?_drop] at hj
  have := h _ _ hj
  rwa [← Nat.add_assoc] at this
theorem Cells.take {W : World} {b off : Nat} {cs : List Value} (h : Cells W b off cs) (i : Nat) : Cells W b off (cs.take i) := fun j v hj => by
  rw [List.getElem?_take] at hj
  split at hj
  · exact h _ _ hj
  · cases hj

/-! ## 2. Rows of one's own that may grow -/
def ownR (e k : Nat) (v : Value) (n : Nat) (xs : List Value) : Res where
  fp := fun b => v.ownBlock = some b
  ok := fun W => W.ownsRow 0 e k v n xs
  loc := fun W W' h hk => by
    refine ⟨hk.1, ?_⟩
    rcases hk.2 with h1 | ⟨g, cap, cur, h1, h2, h3, h4⟩
    · exact .inl h1
    · exact .inr ⟨g, cap, cur, h1, h2, by rw [h g (by rw [h1]; rfl)]; exact h3, h4⟩
theorem ownR_form {e k n : Nat} {v : Value} {xs : List Value} {W : World} (h : (ownR e k v n xs).ok W) : ∃ A c, v = .slice A n c := by
  rcases h.2 with ⟨rfl, rfl⟩ | ⟨g, cap, cur, rfl, _⟩
  · exact ⟨none, 0, rfl⟩
  · exact ⟨_, cap, rfl⟩
theorem ownR_row {e k n c : Nat} {A : Option Addr} {xs : List Value} {W : World} (h : (ownR e k (.slice A n c) n xs).ok W) : RowA W k A n xs := by
  refine ⟨h.1, ?_, fun hn => ?_⟩
  · rcases h.2 with ⟨_, rfl⟩ | ⟨g, cap, cur, _, _, _, h1, h2, _⟩
    · omega
    · simp only [maxLen] at h2; omega
  · rcases h.2 with ⟨_, rfl⟩ | ⟨g, cap, cur, e', _, hg, h1, h2, h3, h4⟩
    · omega
    · cases e'
      refine ⟨g, 0, rfl, fun i u hu => ?_⟩
      rw [← h4, List.getElem?_take] at hu
      split at hu
      · simp [World.cell?, hg]; simpa using hu
      · cases hu
theorem ownR_nil (w0 W : World) {Rs : List Res} (e k : Nat) (h : HP w0 Rs W) : HP w0 (ownR e k (.slice none 0 0) 0 [] :: Rs) W :=
  h.add _ (Below.refl _ _) (World.ownsRow_nil _ _ _ _) (fun b hb => by simp [ownR, Value.ownBlock] at hb)
/-- A block of cells read as a row of one's own. -/
theorem ownR_of_cell {w0 W : World} {Rs : List Res} {b e k n : Nat} {vs : List Value} {f : Res → List Res} (h : HP w0 Rs W) (hp : Pos Rs (cellR b e vs) f) (hl : vs.length = n * k) (hn : n ≤ maxLen) : HP w0 (f (ownR e k (.slice (some ⟨b, 0, none⟩) n n) n vs)) W := by
  refine h.put hp _ (Below.refl _ _) (fun _ _ _ => rfl) ⟨hl, .inr ⟨b, n, vs.toArray, rfl, by omega, h.cell hp, Nat.le_refl _, hn, by simpa using hl, by rw [← hl]; simp⟩⟩ (fun b' hb => ?_)
  simp [ownR, Value.ownBlock] at hb
  subst hb
  exact ⟨.inl rfl, (HPs.lt h.res _ hp.mem b rfl).2⟩

/-! ## 3. Slices' operations -/
def SliceOf (P : Program) (T e k : Nat) : Prop := P.underlying T = some (.slice e) ∧ SizeOf P e k
theorem ix {T e k b off m c : Nat} {x i : Operand} {q : IntKind} {j : Int} (hT : SliceOf P T e k) (hx : E.ev x = some (.slice (some ⟨b, off, none⟩) m c)) (hi : E.ev i = some (.int q j)) (h0 : 0 ≤ j) (h1 : j < m) :
    OpP P (.indexAddr T x i) ty E H (.pointer (some ⟨b, off + j.toNat * k, none⟩)) :=
  ⟨by simp, fun ρ W ho hw d p af g => by
    have e1 := ho x (by simp [Op.operands]) _ hx
    have e2 := ho i (by simp [Op.operands]) _ hi
    simp [execOp, e1, e2, Instr.indexAt, asIntOf, run_underlying hT.1, h0, h1, hT.2 W, Addr.add_lit]⟩
/-- An element of an array variable. -/
def ArrayOf (P : Program) (T len e k : Nat) : Prop := P.underlying T = some (.array len e) ∧ SizeOf P e k
theorem ixa {T len e k b off : Nat} {x i : Operand} {q : IntKind} {j : Int} (hT : ArrayOf P T len e k) (hx : E.ev x = some (.pointer (some ⟨b, off, none⟩))) (hi : E.ev i = some (.int q j)) (h0 : 0 ≤ j) (h1 : j < len) :
    OpP P (.indexAddr T x i) ty E H (.pointer (some ⟨b, off + j.toNat * k, none⟩)) :=
  ⟨by simp, fun ρ W ho hw d p af g => by
    have e1 := ho x (by simp [Op.operands]) _ hx
    have e2 := ho i (by simp [Op.operands]) _ hi
    simp [execOp, e1, e2, Instr.indexAt, Instr.sureAddr, asIntOf, run_underlying hT.1, h0, h1, hT.2 W, Addr.add_lit]⟩
/-- An element of an array value. -/
theorem ixv {T len e : Nat} {x i : Operand} {q : IntKind} {j : Int} {cs : Array Value} {v : Value} (hT : P.underlying T = some (.array len e)) (ha : ∀ w, (isAgg e).run P w = .ok false w) (hs : SizeOf P e 1) (hx : E.ev x = some (.agg cs)) (hi : E.ev i = some (.int q j)) (h0 : 0 ≤ j) (h1 : j < len) (hv : cs[j.toNat]? = some v) :
    OpP P (.index T x i) ty E H v :=
  ⟨by simp, fun ρ W ho hw d p af g => by
    have e1 := ho x (by simp [Op.operands]) _ hx
    have e2 := ho i (by simp [Op.operands]) _ hi
    simp [execOp, e1, e2, Instr.index, asIntOf, run_underlying hT, h0, h1, part, ha W, hs W, hv]⟩
theorem lenv {T e m c : Nat} {A : Option Addr} {x : Operand} (hT : P.underlying T = some (.slice e)) (hx : E.ev x = some (.slice A m c)) :
    OpP P (.call { callee := .builtin .len, args := #[x], argTypes := #[T] }) ty E H (.int .i64 m) :=
  ⟨by simp, fun ρ W ho hw d p af g => by
    have e1 := ho x (by simp [Op.operands, Call.operands]) _ hx
    simp [execOp, resolve, invoke, builtin, e1, Builtin.len_, run_underlying hT, goInt]⟩
theorem lens {T : Nat} {s : ByteArray} {x : Operand} (hT : P.underlying T = some .string) (hx : E.ev x = some (.string s)) :
    OpP P (.call { callee := .builtin .len, args := #[x], argTypes := #[T] }) ty E H (.int .i64 s.size) :=
  ⟨by simp, fun ρ W ho hw d p af g => by
    have e1 := ho x (by simp [Op.operands, Call.operands]) _ hx
    simp [execOp, resolve, invoke, builtin, e1, Builtin.len_, run_underlying hT, goInt]⟩
theorem lena {T m e : Nat} {v : Value} {x : Operand} (hT : P.underlying T = some (.array m e)) (hx : E.ev x = some v) :
    OpP P (.call { callee := .builtin .len, args := #[x], argTypes := #[T] }) ty E H (.int .i64 m) :=
  ⟨by simp, fun ρ W ho hw d p af g => by
    have e1 := ho x (by simp [Op.operands, Call.operands]) _ hx
    simp [execOp, resolve, invoke, builtin, e1, Builtin.len_, run_underlying hT, goInt]⟩
theorem minv {q : IntKind} {a b : Int} {x y : Operand} {ats : Array TypeId} (hx : E.ev x = some (.int q a)) (hy : E.ev y = some (.int q b)) :
    OpP P (.call { callee := .builtin .min, args := #[x, y], argTypes := ats }) ty E H (.int q (if b < a then b else a)) :=
  ⟨by simp, fun ρ W ho hw d p af g => by
    have e1 := ho x (by simp [Op.operands, Call.operands]) _ hx
    have e2 := ho y (by simp [Op.operands, Call.operands]) _ hy
    simp [execOp, resolve, invoke, builtin, e1, e2, Builtin.min_, Builtin.min2]⟩
theorem maxv {q : IntKind} {a b : Int} {x y : Operand} {ats : Array TypeId} (hx : E.ev x = some (.int q a)) (hy : E.ev y = some (.int q b)) :
    OpP P (.call { callee := .builtin .max, args := #[x, y], argTypes := ats }) ty E H (.int q (if a < b then b else a)) :=
  ⟨by simp, fun ρ W ho hw d p af g => by
    have e1 := ho x (by simp [Op.operands, Call.operands]) _ hx
    have e2 := ho y (by simp [Op.operands, Call.operands]) _ hy
    simp [execOp, resolve, invoke, builtin, e1, e2, Builtin.max_, Builtin.max2]⟩

/-! ## 4. Strings -/
def byteD (s : ByteArray) (i : Nat) : Nat := (s.data[i]?.getD 0).toNat
theorem byteD_eq (s : ByteArray) (i : Nat) (h : i < s.size) : (s[i]'h).toNat = byteD s i := by
  have h' : i < s.data.size := h
  simp only [byteD, Array.getElem?_eq_getElem h', Option.getD_some]; rfl
theorem byteD_lt (s : ByteArray) (i : Nat) : byteD s i < 256 := UInt8.toNat_lt _
theorem sx {T : Nat} {s : ByteArray} {x i : Operand} {q : IntKind} {j : Int} (hT : P.underlying T = some .string) (hx : E.ev x = some (.string s)) (hi : E.ev i = some (.int q j)) (h0 : 0 ≤ j) (h1 : j.toNat < s.size) :
    OpP P (.index T x i) ty E H (.int .u8 (byteD s j.toNat)) :=
  ⟨by simp, fun ρ W ho hw d p af g => by
    have e1 := ho x (by simp [Op.operands]) _ hx
    have e2 := ho i (by simp [Op.operands]) _ hi
    rw [← byteD_eq _ _ h1]
    simp [execOp, e1, e2, Instr.index, asIntOf, run_underlying hT, h0, h1]⟩
theorem run_sb (W : World) {q : IntKind} {j : Int} {m : Nat} (c : BoundsCode) (h0 : 0 ≤ j) (h1 : j ≤ m) : (Instr.sliceBound (.int q j) m c).run P W = .ok j.toNat W := by
  simp [Instr.sliceBound, asIntOf, h0, h1]
/-- s[lo:hi], s[lo:], s[:hi]. -/
theorem ss {T : Nat} {s : ByteArray} {x lo hi : Operand} {q q' : IntKind} {i j : Int} (hT : P.underlying T = some .string) (hx : E.ev x = some (.string s)) (hl : E.ev lo = some (.int q i)) (hh : E.ev hi = some (.int q' j)) (h0 : 0 ≤ i) (h1 : i ≤ j) (h2 : j ≤ s.size) :
    OpP P (.slice T x (some lo) (some hi) none) ty E H (.string (s.extract i.toNat j.toNat)) :=
  ⟨by simp, fun ρ W ho hw d p af g => by
    have e1 := ho x (by simp [Op.operands]) _ hx
    have e2 := ho lo (by simp [Op.operands]) _ hl
    have e3 := ho hi (by simp [Op.operands]) _ hh
    have b1 := run_sb (P := P) W (q := q') .sliceAlen (show 0 ≤ j by omega) h2
    have b2 := run_sb (P := P) W (q := q) (m := j.toNat) .sliceB h0 (by omega)
    simp [execOp, e1, e2, e3, Instr.sliceAt, Instr.slice, Instr.sliceBounds, run_underlying hT, b1, b2]⟩
theorem ssl {T : Nat} {s : ByteArray} {x lo : Operand} {q : IntKind} {i : Int} (hT : P.underlying T = some .string) (hx : E.ev x = some (.string s)) (hl : E.ev lo = some (.int q i)) (h0 : 0 ≤ i) (h2 : i ≤ s.size) :
    OpP P (.slice T x (some lo) none none) ty E H (.string (s.extract i.toNat s.size)) :=
  ⟨by simp, fun ρ W ho hw d p af g => by
    have e1 := ho x (by simp [Op.operands]) _ hx
    have e2 := ho lo (by simp [Op.operands]) _ hl
    have b2 := run_sb (P := P) W (q := q) (m := s.size) .sliceB h0 (by omega)
    simp [execOp, e1, e2, Instr.sliceAt, Instr.slice, Instr.sliceBounds, run_underlying hT, b2]⟩
theorem ssh {T : Nat} {s : ByteArray} {x hi : Operand} {q : IntKind} {j : Int} (hT : P.underlying T = some .string) (hx : E.ev x = some (.string s)) (hl : E.ev hi = some (.int q j)) (h0 : 0 ≤ j) (h2 : j ≤ s.size) :
    OpP P (.slice T x none (some hi) none) ty E H (.string (s.extract 0 j.toNat)) :=
  ⟨by simp, fun ρ W ho hw d p af g => by
    have e1 := ho x (by simp [Op.operands]) _ hx
    have e2 := ho hi (by simp [Op.operands]) _ hl
    have b2 := run_sb (P := P) W (q := q) (m := s.size) .sliceAlen h0 (by omega)
    simp [execOp, e1, e2, Instr.sliceAt, Instr.slice, Instr.sliceBounds, run_underlying hT, b2]⟩
/-- xs[lo:hi] of a slice. -/
def offA (A : Option Addr) (i k c : Nat) : Option Addr := if c = i then A else A.map (·.add (i * k))
theorem vs_ {T e k m c : Nat} {A : Option Addr} {x lo hi : Operand} {q q' : IntKind} {i j : Int} (hT : SliceOf P T e k) (hx : E.ev x = some (.slice A m c)) (hl : E.ev lo = some (.int q i)) (hh : E.ev hi = some (.int q' j)) (h0 : 0 ≤ i) (h1 : i ≤ j) (h2 : j ≤ c) :
    OpP P (.slice T x (some lo) (some hi) none) ty E H (.slice (offA A i.toNat k c) (j.toNat - i.toNat) (c - i.toNat)) :=
  ⟨by simp, fun ρ W ho hw d p af g => by
    have e1 := ho x (by simp [Op.operands]) _ hx
    have e2 := ho lo (by simp [Op.operands]) _ hl
    have e3 := ho hi (by simp [Op.operands]) _ hh
    have b1 := run_sb (P := P) W (q := q') .sliceAcap (show 0 ≤ j by omega) h2
    have b2 := run_sb (P := P) W (q := q) (m := j.toNat) .sliceB h0 (by omega)
    simp [execOp, e1, e2, e3, Instr.sliceAt, Instr.slice, Instr.sliceBounds, run_underlying hT.1, b1, b2, hT.2 W, offA]⟩
theorem vsl {T e k m c : Nat} {A : Option Addr} {x lo : Operand} {q : IntKind} {i : Int} (hT : SliceOf P T e k) (hx : E.ev x = some (.slice A m c)) (hl : E.ev lo = some (.int q i)) (h0 : 0 ≤ i) (h2 : i ≤ m) :
    OpP P (.slice T x (some lo) none none) ty E H (.slice (offA A i.toNat k c) (m - i.toNat) (c - i.toNat)) :=
  ⟨by simp, fun ρ W ho hw d p af g => by
    have e1 := ho x (by simp [Op.operands]) _ hx
    have e2 := ho lo (by simp [Op.operands]) _ hl
    have b2 := run_sb (P := P) W (q := q) (m := m) .sliceB h0 (by omega)
    simp [execOp, e1, e2, Instr.sliceAt, Instr.slice, Instr.sliceBounds, run_underlying hT.1, b2, hT.2 W, offA]⟩
theorem vsh {T e k m c : Nat} {A : Option Addr} {x hi : Operand} {q : IntKind} {j : Int} (hT : SliceOf P T e k) (hx : E.ev x = some (.slice A m c)) (hl : E.ev hi = some (.int q j)) (h0 : 0 ≤ j) (h2 : j ≤ c) :
    OpP P (.slice T x none (some hi) none) ty E H (.slice (offA A 0 k c) j.toNat c) :=
  ⟨by simp, fun ρ W ho hw d p af g => by
    have e1 := ho x (by simp [Op.operands]) _ hx
    have e2 := ho hi (by simp [Op.operands]) _ hl
    have b2 := run_sb (P := P) W (q := q) (m := c) .sliceAcap h0 (by omega)
    simp [execOp, e1, e2, Instr.sliceAt, Instr.slice, Instr.sliceBounds, run_underlying hT.1, b2, hT.2 W, offA]⟩
/-- arr[:] of an array variable. -/
theorem vsa {T e k m b off : Nat} {x : Operand} (hT : ArrayOf P T m e k) (hx : E.ev x = some (.pointer (some ⟨b, off, none⟩))) :
    OpP P (.slice T x none none none) ty E H (.slice (some ⟨b, off, none⟩) m m) :=
  ⟨by simp, fun ρ W ho hw d p af g => by
    have e1 := ho x (by simp [Op.operands]) _ hx
    simp [execOp, e1, Instr.sliceAt, Instr.sureAddr, Instr.sliceBounds, run_underlying hT.1, hT.2 W]
    by_cases h : m = 0
    · simp [h]
    · simp [h, Addr.add]⟩

/-! ## 5. New rows -/
/-- []T{..} -/
def BSl (P : Program) (T len : Nat) (parts : Array (Nat × Value)) (e : Nat) (cs : List Value) : Prop :=
  ∀ w, (Instr.buildSlice T len parts).run P w = .ok (.slice (some ⟨w.heap.size, 0, none⟩) len len) (w.alloc (.cells cs.toArray e))
theorem bs {T len e : Nat} {parts : List (Nat × Operand)} {vs cs : List Value} (hx : E.evs (parts.map (·.2)) = some vs) (hb : BSl P T len ((parts.map (·.1)).zip vs).toArray e cs) :
    OpE r n P (.buildSlice T len parts.toArray) ty E (HP w0 Rs) (fun b : Nat => .slice (some ⟨b, 0, none⟩) len len) (fun _ => True) (fun b => HP w0 (cellR b e cs :: Rs)) :=
  OpE.of_run (by simp) (fun ρ W ho hw => ⟨W.heap.size, _, fun d p af g => by
    have he := ho.list (by simp [Op.operands]) hx
    have h2 := map_zip ρ parts
    rw [he] at h2
    have h := hb W
    simp [execOp, h2, h], trivial, hw.alloc e cs⟩)
/-- make([]T, n) -/
def MakesOf (P : Program) (T e k bytes : Nat) (zs : Nat → List Value) : Prop :=
  ∃ (i : TypeInfo) (z : Value), P.underlying T = some (.slice e) ∧ P.info? e = some i ∧ i.zero = some z ∧ i.size = k ∧ i.bytes = bytes ∧ ∀ n, (madeCells z.cells (n * k)).toList = zs n
theorem mk {T e k bytes : Nat} {zs : Nat → List Value} {x y : Operand} {q q' : IntKind} {l c : Int} (hT : MakesOf P T e k bytes zs) (hx : E.ev x = some (.int q l)) (hy : E.ev y = some (.int q' c)) (h0 : 0 ≤ l) (h1 : l ≤ c) (hb : (bytes : Int) * c ≤ 281474976710656) (h63 : c ≤ 9223372036854775807) :
    OpE r n P (.makeSlice T x y) ty E (HP w0 Rs) (fun b : Nat => .slice (some ⟨b, 0, none⟩) l.toNat c.toNat) (fun _ => True) (fun b => HP w0 (cellR b e (zs c.toNat) :: Rs)) :=
  OpE.of_run (by simp) (fun ρ W ho hw => by
    obtain ⟨i, z, h2, h3, h4, h5, h6, h7⟩ := hT
    subst h5; subst h6
    refine ⟨W.heap.size, _, fun d p af g => ?_, trivial, hw.alloc e (zs c.toNat)⟩
    have e1 := ho x (by simp [Op.operands]) _ hx
    have e2 := ho y (by simp [Op.operands]) _ hy
    have := run_make (P := P) W T e i z h2 h3 h4 q q' l c h0 h1 hb h63
    rw [← h7]
    simp [execOp, e1, e2, this])
/-- append to a row of one's own. -/
def ElemOf (P : Program) (T e k bytes : Nat) : Prop := ∃ (i : TypeInfo) (z : Value), P.underlying T = some (.slice e) ∧ P.info? e = some i ∧ i.zero = some z ∧ i.size = k ∧ i.bytes = bytes ∧ z.cells.size = k ∧ 0 < k
theorem ap {T e k bytes m c nn : Nat} {v : Value} {xs news : List Value} {ad : Addr} {x y : Operand} {f : Res → List Res} (hT : ElemOf P T e k bytes) (hx : E.ev x = some v) (hy : E.ev y = some (.slice (some ad) m c))
    (hp : Pos Rs (ownR e k v nn xs) f) (hl : news.length = m * k) (hnews : ∀ W, HP w0 Rs W → ∀ j u, news[j]? = some u → W.cell? (ad.add j) = some u) (h1 : ∀ u ∈ news, u.oneCell' = true)
    (h63 : nn + m ≤ maxLen) (hbytes : (nn + m) * bytes ≤ 140737488355328) :
    OpE r n P (.call { callee := .builtin .append, args := #[x, y], argTypes := #[T, T] }) ty E (HP w0 Rs) (fun v' : Value => v') (fun v' => (∃ A c, v' = .slice A (nn + m) c) ∧ (v' = .slice none 0 0 ↔ v = .slice none 0 0 ∧ m = 0)) (fun v' => HP w0 (f (ownR e k v' (nn + m) (xs ++ news)))) :=
  OpE.of_run (by simp) (fun ρ W ho hw => by
    obtain ⟨i, z, g2, g3, g4, g5, g6, g7, g8⟩ := hT
    have e1 := ho x (by simp [Op.operands, Call.operands]) _ hx
    have e2 := ho y (by simp [Op.operands, Call.operands]) _ hy
    obtain ⟨v', w', hr, k2, k3, k4, k5⟩ := run_append_own_at (P := P) W 0 T ty e i z k bytes g2 g3 g4 g5 g6 g7 g8 v nn xs (hw.mem_ok hp) ad m c news hl (hnews W hw) h1 h63 hbytes (Nat.zero_le _)
    have hfp := HPs.lt hw.res _ hp.mem
    refine ⟨v', w', fun d p af g => by simp [execOp, resolve, invoke, builtin, e1, e2, hr], ⟨ownR_form (e := e) (k := k) k2, k4⟩, hw.put hp _ ?_ (fun b hb hnb => k3.block b hb (fun e => hnb e.symm)) k2 (fun b hb => ⟨?_, (k2.lt b hb).2⟩)⟩
    · exact ⟨k3.os, k3.tape, k3.output, k3.size, fun b hb => k3.block b (Nat.lt_of_lt_of_le hb hw.below.size) (fun e => by have := (hfp b e.symm).1; omega)⟩
    · rcases k5 with h5 | h5
      · exact .inl (h5.symm.trans hb)
      · exact .inr (by have hb' : v'.ownBlock = some b := hb; rw [h5] at hb'; cases hb'; exact Nat.le_refl _))
end Go.Eng
end
