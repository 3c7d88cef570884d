/- Part 1 of the walks and plain lemmas that the claim rests on. -/
import Derived.Below
import Derived.KernelRfl
import Derived.Laws.Externs
import Derived.Laws.OwnMore
import Derived.Laws.StructEq
import Derived.RangeFuncCalls
import Derived.Sort.LoopGhostIn
import Derived.TacticsIn
import Derived.WalkKit
import Derived.WalkLawsBesides
import Derived.WalkSpells
import Derived.Test.YtfdnhjfbbggmiaaGreatDoorSh
section
namespace Go.Eng
open Go Go.RowKit
set_option linter.unusedVariables false
set_option linter.unusedSimpArgs false

/-! ## 1. The fence, the frame's slots -/
def RF (r : Option Nat) : Fence := { Fence.wide with round := r }
@[simp] theorem RF_round (r : Option Nat) : (RF r).round = r := rfl
theorem RF_fn (r : Option Nat) (f : FuncId) : (RF r).fn f := trivial
theorem RF_depth (r : Option Nat) : (RF r).depth = none := rfl
theorem RF_none : RF none = Fence.wide := rfl
theorem RF_dn (r : Option Nat) (n : Nat) : (RF r).depth.isSome = true → 1 ≤ n := fun h => by simp [RF_depth] at h

abbrev Env := List (Nat × Value)
def Env.get : Env → Nat → Option Value
  | [], _ => none
  | (j, v) :: E, i => bif Nat.beq i j then some v else Env.get E i
def Env.ev (E : Env) : Operand → Option Value
  | .tmp t => E.get t
  | .const v => some v
  | .global g => some (.pointer (some ⟨g, 0, none⟩))
  | .func f => some (.func (.func f) #[] #[])
def Env.evs (E : Env) : List Operand → Option (List Value)
  | [] => some []
  | x :: xs => match E.ev x with
    | none => none
    | some v => match Env.evs E xs with
      | none => none
      | some vs => some (v :: vs)

/-- The slots of an activation: what is known of them. D: the marks of loops over functions. -/
structure Has (N : Nat) (D : List Deferred) (E : Env) (a : Act) : Prop where
  defers : a.defers = D
  size : a.tmps.size = N
  get : ∀ i v, Env.get E i = some v → a.tmps[i]? = some v

variable {r : Option Nat} {n N : Nat} {P : Program} {D : List Deferred} {E : Env} {H : World → Prop} {Q : Exit → Act → World → Prop} {ops : Array Oper} {rest : List Oper}

theorem Has.ev {a : Act} (h : Has N D E a) {x : Operand} {v : Value} (hx : E.ev x = some v) : a.eval x = v := by
  cases x with
  | tmp t => simp only [Env.ev] at hx; have := h.get t v hx; simp [Act.eval, Array.getD_eq_getD_getElem?, this]
  | const c => simp only [Env.ev, Option.some.injEq] at hx; exact hx
  | global g => simp only [Env.ev, Option.some.injEq] at hx; exact hx
  | func f => simp only [Env.ev, Option.some.injEq] at hx; exact hx

theorem Has.evs {a : Act} (h : Has N D E a) : ∀ {xs : List Operand} {vs : List Value}, E.evs xs = some vs → xs.map a.eval = vs
  | [], vs, hx => by simp [Env.evs] at hx; subst hx; rfl
  | x :: xs, vs, hx => by
    simp only [Env.evs] at hx
    cases h1 : E.ev x with
    | none => simp [h1] at hx
    | some v =>
      cases h2 : E.evs xs with
      | none => simp [h1, h2] at hx
      | some us => simp [h1, h2] at hx; subst hx; simp [h.ev h1, h.evs h2]

theorem Has.put {a : Act} (h : Has N D E a) (d : Nat) (v : Value) (hd : Nat.blt d N = true) : Has N D ((d, v) :: E) (a.put (some d) v) := by
  have hd' : d < N := Nat.le_of_ble_eq_true hd
  refine ⟨h.defers, by simp [Act.put, h.size], fun i u hi => ?_⟩
  simp only [Env.get] at hi
  by_cases e : i = d
  · subst e
    simp at hi; subst hi
    simp [Act.put, h.size, hd']
  · have : Nat.beq i d = false := by cases hb : Nat.beq i d with | false => rfl | true => exact absurd (Nat.eq_of_beq_eq_true hb) e
    simp [this] at hi
    simp only [Act.put]
    rw [Array.getElem?_setIfInBounds]
    have := h.get i u hi
    split
    · omega
    · exact this
theorem Has.put_none {a : Act} (h : Has N D E a) (v : Value) : Has N D E (a.put none v) := h

/-- Forget slots. -/
theorem Has.weaken {a : Act} (h : Has N D E a) {E' : Env} (hE : ∀ i v, Env.get E' i = some v → Env.get E i = some v) : Has N D E' a := ⟨h.defers, h.size, fun i v hi => h.get i v (hE i v hi)⟩
def Env.sub (E : Env) : List (Nat × Value) → Prop
  | [] => True
  | (i, v) :: E' => E.get i = some v ∧ Env.sub E E'
theorem Env.sub_get (E : Env) : ∀ (E' : Env), E.sub E' → ∀ i v, Env.get E' i = some v → Env.get E i = some v
  | [], _, i, v, h => by simp [Env.get] at h
  | (j, u) :: E', hs, i, v, h => by
    simp only [Env.get] at h
    cases hb : Nat.beq i j with
    | true => simp [hb] at h; subst h; have : i = j := Nat.eq_of_beq_eq_true hb; subst this; exact hs.1
    | false => simp [hb] at h; exact Env.sub_get E E' hs.2 i v h
theorem Has.of_sub {a : Act} {E' : Env} (h : Has N D E a) (hs : E.sub E') : Has N D E' a := h.weaken (Env.sub_get E E' hs)

/-! ## 2. The triples -/
def XC (r : Option Nat) (n : Nat) (P : Program) (c : Code) (Q : Exit → Act → World → Prop) (N : Nat) (D : List Deferred) (E : Env) (H : World → Prop) : Prop :=
  ∀ a W, Has N D E a → H W → c.wpIn (RF r) n P Q a W
def XL (r : Option Nat) (n : Nat) (P : Program) (ops : Array Oper) (Q : Exit → Act → World → Prop) (l : List Oper) (N : Nat) (D : List Deferred) (E : Env) (H : World → Prop) : Prop :=
  ∀ a W, Has N D E a → H W → wpListIn (RF r) n P ops Q l a W
/-- At an exit: what is known goes into Q. -/
def XQ (Q : Exit → Act → World → Prop) (e : Exit) (N : Nat) (D : List Deferred) (E : Env) (H : World → Prop) : Prop :=
  ∀ a W, Has N D E a → H W → Q e a W

theorem xc_seq {x y : Code} (h : XC r n P x (Exit.then (y.wpIn (RF r) n P Q) Q) N D E H) : XC r n P (Code.seq x y) Q N D E H := fun a W ha hw => wpIn_seq (h a W ha hw)
theorem xc_region {id : Nat} {l : List Oper} (h : XL r n P l.toArray Q l N D E H) : XC r n P (Code.region id l.toArray false) Q N D E H := fun a W ha hw => wpIn_region_lit (h a W ha hw)
theorem xc_skip (h : XQ Q .normal N D E H) : XC r n P Code.skip Q N D E H := fun a W ha hw => wpIn_skip (h a W ha hw)
theorem xc_ret (h : XQ Q .ret N D E H) : XC r n P Code.ret Q N D E H := fun a W ha hw => wpIn_ret (h a W ha hw)
theorem xc_exit {id : Nat} (h : XQ Q (.exit id) N D E H) : XC r n P (Code.exit id) Q N D E H := fun a W ha hw => wpIn_exit (h a W ha hw)
theorem xc_goto {l : Nat} (h : XQ Q (.goto l) N D E H) : XC r n P (Code.goto l) Q N D E H := fun a W ha hw => wpIn_goto (h a W ha hw)
theorem xc_label {l : Nat} (h : XQ Q .normal N D E H) : XC r n P (Code.label l) Q N D E H := fun a W ha hw => wpIn_label (h a W ha hw)
theorem xc_block {id : Nat} {c : Code} (h : XC r n P c (Exit.inBlock id Q) N D E H) : XC r n P (Code.block id c) Q N D E H := fun a W ha hw => wpIn_block (h a W ha hw)
theorem xl_nil (h : XQ Q .normal N D E H) : XL r n P ops Q [] N D E H := fun a W ha hw => h a W ha hw

theorem xc_cond {c : Operand} {x y : Code} {t : Bool} (hc : E.ev c = some (.bool t)) (ht : t = true → XC r n P x Q N D E H) (hf : t = false → XC r n P y Q N D E H) : XC r n P (Code.cond c x y) Q N D E H :=
  fun a W ha hw => wpIn_cond_split (ha.ev hc) (fun e => ht e a W ha hw) (fun e => hf e a W ha hw)
theorem xc_condT {c : Operand} {x y : Code} {t : Bool} (hc : E.ev c = some (.bool t)) (e : t = true) (ht : XC r n P x Q N D E H) : XC r n P (Code.cond c x y) Q N D E H :=
  fun a W ha hw => wpIn_cond_true (by rw [ha.ev hc, e]) (ht a W ha hw)
theorem xc_condF {c : Operand} {x y : Code} {t : Bool} (hc : E.ev c = some (.bool t)) (e : t = false) (hf : XC r n P y Q N D E H) : XC r n P (Code.cond c x y) Q N D E H :=
  fun a W ha hw => wpIn_cond_false (by rw [ha.ev hc, e]) (hf a W ha hw)

/-- Exits through what is laid round them. -/
theorem xq_then {y : Code} (h : XC r n P y Q N D E H) : XQ (Exit.then (y.wpIn (RF r) n P Q) Q) .normal N D E H := h
theorem xq_then_ret {K : Act → World → Prop} (h : XQ Q .ret N D E H) : XQ (Exit.then K Q) .ret N D E H := h
theorem xq_then_exit {K : Act → World → Prop} {id : Nat} (h : XQ Q (.exit id) N D E H) : XQ (Exit.then K Q) (.exit id) N D E H := h
theorem xq_then_goto {K : Act → World → Prop} {l : Nat} (h : XQ Q (.goto l) N D E H) : XQ (Exit.then K Q) (.goto l) N D E H := h
theorem xq_in {id : Nat} (h : XQ Q .normal N D E H) : XQ (Exit.inBlock id Q) .normal N D E H := h
theorem xq_in_ret {id : Nat} (h : XQ Q .ret N D E H) : XQ (Exit.inBlock id Q) .ret N D E H := h
theorem xq_in_goto {id l : Nat} (h : XQ Q (.goto l) N D E H) : XQ (Exit.inBlock id Q) (.goto l) N D E H := h
theorem xq_in_hit {id : Nat} (h : XQ Q .normal N D E H) : XQ (Exit.inBlock id Q) (.exit id) N D E H := fun a W ha hw => by simp only [Exit.inBlock, if_true]; exact h a W ha hw
theorem xq_in_miss {id id' : Nat} (hne : Nat.beq id' id = false) (h : XQ Q (.exit id') N D E H) : XQ (Exit.inBlock id Q) (.exit id') N D E H := fun a W ha hw => by
  have : ¬ id' = id := fun e => by subst e; simp at hne
  simp only [Exit.inBlock, this, if_false]; exact h a W ha hw

theorem XC.sub {c : Code} {E' : Env} {H' : World → Prop} (hs : E.sub E') (hH : ∀ W, H W → H' W) (h : XC r n P c Q N D E' H') : XC r n P c Q N D E H := fun a W ha hw => h a W (ha.of_sub hs) (hH W hw)
theorem XL.sub {l : List Oper} {E' : Env} {H' : World → Prop} (hs : E.sub E') (hH : ∀ W, H W → H' W) (h : XL r n P ops Q l N D E' H') : XL r n P ops Q l N D E H := fun a W ha hw => h a W (ha.of_sub hs) (hH W hw)
theorem XQ.sub {e : Exit} {E' : Env} {H' : World → Prop} (hs : E.sub E') (hH : ∀ W, H W → H' W) (h : XQ Q e N D E' H') : XQ Q e N D E H := fun a W ha hw => h a W (ha.of_sub hs) (hH W hw)

/-- A join: both ways of x come to the same knowledge of some σ. -/
theorem xc_join {x y : Code} {σ : Type} (E' : σ → Env) (H' : σ → World → Prop)
    (hx : XC r n P x (Exit.then (fun a W => ∃ s, Has N D (E' s) a ∧ H' s W) Q) N D E H) (hy : ∀ s, XC r n P y Q N D (E' s) (H' s)) : XC r n P (Code.seq x y) Q N D E H :=
  xc_seq fun a W ha hw => wpIn_mono (hx a W ha hw) fun e a' W' hq => by
    cases e <;> first | exact hq | (obtain ⟨s, h1, h2⟩ := hq; exact hy s a' W' h1 h2)
theorem xq_join {σ : Type} {E' : σ → Env} {H' : σ → World → Prop} (s : σ) (hs : E.sub (E' s)) (hH : ∀ W, H W → H' s W) : XQ (Exit.then (fun a W => ∃ s, Has N D (E' s) a ∧ H' s W) Q) .normal N D E H :=
  fun a W ha hw => ⟨s, ha.of_sub hs, hH W hw⟩

/-- A loop: its knowledge at each round's head by σ; a measure. -/
theorem xc_loop {c : Code} {σ : Type} (E' : σ → Env) (H' : σ → World → Prop) (μ : σ → Nat) (s0 : σ) (hs : E.sub (E' s0)) (hH : ∀ W, H W → H' s0 W)
    (round : ∀ s, XC r n P c (Exit.then (fun a W => ∃ t, μ t < μ s ∧ Has N D (E' t) a ∧ H' t W) Q) N D (E' s) (H' s)) : XC r n P (Code.loop c) Q N D E H := by
  intro a W ha hw
  refine wpIn_loop_ghost (fun k a W => ∃ s, μ s = k ∧ Has N D (E' s) a ∧ H' s W) (μ s0) ⟨s0, rfl, ha.of_sub hs, hH W hw⟩ ?_
  rintro k a W ⟨s, rfl, h1, h2⟩
  refine wpIn_mono (round s a W h1 h2) fun e a' W' hq => ?_
  cases e <;> first | exact hq | (obtain ⟨t, h1, h2, h3⟩ := hq; exact ⟨_, h1, t, rfl, h2, h3⟩)
theorem xq_round {σ : Type} {E' : σ → Env} {H' : σ → World → Prop} {μ : σ → Nat} {s : σ} (t : σ) (hμ : μ t < μ s) (hs : E.sub (E' t)) (hH : ∀ W, H W → H' t W) :
    XQ (Exit.then (fun a W => ∃ t, μ t < μ s ∧ Has N D (E' t) a ∧ H' t W) Q) .normal N D E H := fun a W ha hw => ⟨t, hμ, ha.of_sub hs, hH W hw⟩

/-! ## 3. Entering a function, leaving it -/
def Env.ofArgs : Nat → List Value → Env
  | _, [] => []
  | i, v :: vs => (i, v) :: Env.ofArgs (i + 1) vs
theorem Env.get_ofArgs : ∀ (vs : List Value) (k i : Nat) (v : Value), Env.get (Env.ofArgs k vs) i = some v → k ≤ i ∧ vs[i - k]? = some v
  | [], k, i, v, h => by simp [Env.ofArgs, Env.get] at h
  | u :: us, k, i, v, h => by
    simp only [Env.ofArgs, Env.get] at h
    cases hb : Nat.beq i k with
    | true => simp [hb] at h; subst h; have : i = k := Nat.eq_of_beq_eq_true hb; subst this; simp
    | false =>
      simp [hb] at h
      have h1 := Env.get_ofArgs us (k + 1) i v h
      have e : i - k = (i - (k + 1)) + 1 := by omega
      exact ⟨by omega, by rw [e]; simpa using h1.2⟩

theorem enter {f : FuncId} {fn : Func} {c : Code} {args : List Value} {w : World} {R : Ending → World → Prop} (hf : P.funcs[f]? = some fn) (hb : fn.body = some c) (hN : args.length ≤ fn.ntmps)
    (h : XC none 0 P c (bodyPost P fn R) fn.ntmps [] (Env.ofArgs 0 args) (fun W => W = w)) : Calls P f args.toArray w R := by
  refine calls_of_wp hf hb ?_
  rw [← wpIn_wide (n := 0), ← RF_none]
  refine h _ w ⟨rfl, by simp; omega, fun i v hi => ?_⟩ rfl
  obtain ⟨_, h2⟩ := Env.get_ofArgs args 0 i v hi
  simp only [Nat.sub_zero] at h2
  have hlt : i < args.length := by
    rcases Nat.lt_or_ge i args.length with hh | hh
    · exact hh
    · simp [List.getElem?_eq_none hh] at h2
  rw [Array.getElem?_append_left (by simpa using hlt)]
  simpa using h2

/-- What a function hands back. -/
inductive RV (P : Program) (E : Env) (H : World → Prop) : ResultVar → Value → Prop
  | tmp {t : Nat} {v : Value} (h : E.get t = some v) : RV P E H (.tmp t) v
  | cell {a : Nat} {T : TypeId} {ad : Addr} {v : Value} (h : E.get a = some (.pointer (some ad))) (hl : ∀ W, H W → (loadVar T ad).run P W = .ok v W) : RV P E H (.cell a T) v
def rget (tmps : Array Value) : ResultVar → Sem Value
  | .tmp t => pure (tmps.getD t undef)
  | .cell a t => do loadVar t (← asAddr (tmps.getD a undef))
theorem RV.run {a : Act} {W : World} (ha : Has N D E a) (hw : H W) {x : ResultVar} {v : Value} (h : RV P E H x v) : (rget a.tmps x).run P W = .ok v W := by
  cases h with
  | tmp h => simp [rget, Array.getD_eq_getD_getElem?, ha.get _ _ h]
  | cell h hl => simp [rget, Array.getD_eq_getD_getElem?, ha.get _ _ h, asAddr, Sem.run_bind, hl W hw, Result.andThen]
theorem results_def (fn : Func) (tmps : Array Value) : results fn tmps = (do
    let vs ← fn.results.mapM (rget tmps)
    pure (if h : vs.size = 1 then vs[0] else .tuple vs)) := by
  unfold results
  congr 1
theorem leave0 {fn : Func} {R : Ending → World → Prop} {e : Exit} (he : e = .ret ∨ e = .normal) (hres : fn.results = #[])
    (hR : ∀ W, H W → R (.returned (.tuple #[])) W) : XQ (bodyPost P fn R) e N [] E H := by
  intro a W ha hw
  have hr : (results fn a.tmps).run P W = .ok (.tuple #[]) W := by
    rw [results_def, hres]; simp
  rcases he with rfl | rfl <;> exact ⟨ha.defers, _, hr, hR W hw⟩
theorem leave1 {fn : Func} {R : Ending → World → Prop} {x : ResultVar} {v : Value} {e : Exit} (he : e = .ret ∨ e = .normal) (hres : fn.results = #[x]) (hv : RV P E H x v)
    (hR : ∀ W, H W → R (.returned v) W) : XQ (bodyPost P fn R) e N [] E H := by
  intro a W ha hw
  have h1 := hv.run ha hw
  have hr : (results fn a.tmps).run P W = .ok v W := by
    rw [results_def, hres]; simp [h1]
  rcases he with rfl | rfl <;> exact ⟨ha.defers, _, hr, hR W hw⟩
theorem leave2 {fn : Func} {R : Ending → World → Prop} {x y : ResultVar} {v u : Value} {e : Exit} (he : e = .ret ∨ e = .normal) (hres : fn.results = #[x, y]) (hv : RV P E H x v) (hu : RV P E H y u)
    (hR : ∀ W, H W → R (.returned (.tuple #[v, u])) W) : XQ (bodyPost P fn R) e N [] E H := by
  intro a W ha hw
  have h1 := hv.run ha hw
  have h2 := hu.run ha hw
  have hr : (results fn a.tmps).run P W = .ok (.tuple #[v, u]) W := by
    rw [results_def, hres]; simp [h1, h2]
  rcases he with rfl | rfl <;> exact ⟨ha.defers, _, hr, hR W hw⟩
theorem leave3 {fn : Func} {R : Ending → World → Prop} {x y z : ResultVar} {v u t : Value} {e : Exit} (he : e = .ret ∨ e = .normal) (hres : fn.results = #[x, y, z]) (hv : RV P E H x v) (hu : RV P E H y u) (ht : RV P E H z t)
    (hR : ∀ W, H W → R (.returned (.tuple #[v, u, t])) W) : XQ (bodyPost P fn R) e N [] E H := by
  intro a W ha hw
  have h1 := hv.run ha hw
  have h2 := hu.run ha hw
  have h3 := ht.run ha hw
  have hr : (results fn a.tmps).run P W = .ok (.tuple #[v, u, t]) W := by
    rw [results_def, hres]; simp [h1, h2, h3]
  rcases he with rfl | rfl <;> exact ⟨ha.defers, _, hr, hR W hw⟩
end Go.Eng
end
section
namespace Go.Eng
open Go Go.RowKit
set_option linter.unusedVariables false
set_option linter.unusedSimpArgs false

/-! ## 1. Resources -/
/-- A piece of memory of the call's own: its blocks, what holds of them; it speaks of these blocks alone. -/
structure Res where
  fp : Nat → Prop
  ok : World → Prop
  loc : ∀ W W' : World, (∀ b, fp b → W'.heap[b]? = W.heap[b]?) → ok W → ok W'

def HPs (lo : Nat) : List Res → World → Prop
  | [], _ => True
  | R :: Rs, W => R.ok W ∧ (∀ b, R.fp b → lo ≤ b ∧ b < W.heap.size) ∧ (∀ S ∈ Rs, ∀ b, R.fp b → S.fp b → False) ∧ HPs lo Rs W

structure HP (w0 : World) (Rs : List Res) (W : World) : Prop where
  below : Below w0.heap.size w0 W
  res : HPs w0.heap.size Rs W

theorem HPs.same {lo : Nat} {W W' : World} (hs : W.heap.size ≤ W'.heap.size) : ∀ {Rs : List Res}, (∀ S ∈ Rs, ∀ b, S.fp b → W'.heap[b]? = W.heap[b]?) → HPs lo Rs W → HPs lo Rs W'
  | [], _, _ => trivial
  | R :: Rs, hb, ⟨h1, h2, h3, h4⟩ => ⟨R.loc W W' (hb R (by simp)) h1, fun b hfb => ⟨(h2 b hfb).1, Nat.lt_of_lt_of_le (h2 b hfb).2 hs⟩, h3, HPs.same hs (fun S hS => hb S (by simp [hS])) h4⟩
theorem HPs.lt {lo : Nat} {W : World} : ∀ {Rs : List Res}, HPs lo Rs W → ∀ S ∈ Rs, ∀ b, S.fp b → lo ≤ b ∧ b < W.heap.size
  | [], _, S, hS, _, _ => by simp at hS
  | R :: Rs, ⟨_, h2, _, h4⟩, S, hS, b, hb => by
    rcases List.mem_cons.1 hS with rfl | hS
    · exact h2 b hb
    · exact HPs.lt h4 S hS b hb
theorem HPs.ok {lo : Nat} {W : World} : ∀ {Rs : List Res}, HPs lo Rs W → ∀ S ∈ Rs, S.ok W
  | [], _, S, hS => by simp at hS
  | R :: Rs, ⟨h1, _, _, h4⟩, S, hS => by
    rcases List.mem_cons.1 hS with rfl | hS
    · exact h1
    · exact HPs.ok h4 S hS

/-- Where a resource stands in a list; what the list is with another one there. -/
inductive Pos : List Res → Res → (Res → List Res) → Prop
  | head {R : Res} {Rs : List Res} : Pos (R :: Rs) R (fun R' => R' :: Rs)
  | tail {A R : Res} {Rs : List Res} {f : Res → List Res} (h : Pos Rs R f) : Pos (A :: Rs) R (fun R' => A :: f R')
theorem Pos.mem {Rs : List Res} {R : Res} {f : Res → List Res} (h : Pos Rs R f) : R ∈ Rs := by
  induction h with
  | head => simp
  | tail _ ih => simp [ih]
theorem Pos.mem_put {Rs : List Res} {R : Res} {f : Res → List Res} (h : Pos Rs R f) (R' : Res) : ∀ S ∈ f R', S = R' ∨ S ∈ Rs := by
  induction h with
  | head => intro S hS; rcases List.mem_cons.1 hS with h | h; exact .inl h; exact .inr (by simp [h])
  | tail _ ih => intro S hS; rcases List.mem_cons.1 hS with h | h; exact .inr (by simp [h]); rcases ih S h with h | h; exact .inl h; exact .inr (by simp [h])

/-- A resource turned into another one: the world turned in its blocks alone, or beyond. -/
theorem HPs.put {lo : Nat} {W W' : World} {Rs : List Res} {R : Res} {f : Res → List Res} (hp : Pos Rs R f) (R' : Res) (hs : W.heap.size ≤ W'.heap.size)
    (hb : ∀ b, b < W.heap.size → ¬ R.fp b → W'.heap[b]? = W.heap[b]?) (hlo : lo ≤ W.heap.size) (hok : R'.ok W') (hfp : ∀ b, R'.fp b → (R.fp b ∨ W.heap.size ≤ b) ∧ b < W'.heap.size) (h : HPs lo Rs W) : HPs lo (f R') W' := by
  induction hp with
  | @head R Rs =>
    obtain ⟨h1, h2, h3, h4⟩ := h
    refine ⟨hok, fun b hfb => ?_, fun S hS b hfb hSb => ?_, HPs.same hs (fun S hS b hSb => hb b (HPs.lt h4 S hS b hSb).2 (fun hr => h3 S hS b hr hSb)) h4⟩
    · rcases (hfp b hfb).1 with h | h
      · exact ⟨(h2 b h).1, (hfp b hfb).2⟩
      · exact ⟨by omega, (hfp b hfb).2⟩
    · rcases (hfp b hfb).1 with h | h
      · exact h3 S hS b h hSb
      · have := (HPs.lt h4 S hS b hSb).2; omega
  | @tail A R Rs f hp ih =>
    obtain ⟨h1, h2, h3, h4⟩ := h
    have hRmem := hp.mem
    refine ⟨A.loc W W' (fun b hA => hb b (h2 b hA).2 (fun hr => h3 R hRmem b hA hr)) h1, fun b hfb => ⟨(h2 b hfb).1, Nat.lt_of_lt_of_le (h2 b hfb).2 hs⟩, fun S hS b hA hSb => ?_, ih hb hfp h4⟩
    rcases hp.mem_put R' S hS with rfl | hS
    · rcases (hfp b hSb).1 with h | h
      · exact h3 R hRmem b hA h
      · have := (h2 b hA).2; omega
    · exact h3 S hS b hA hSb

theorem HP.put {w0 W W' : World} {Rs : List Res} {R : Res} {f : Res → List Res} (hp : Pos Rs R f) (R' : Res) (h : HP w0 Rs W) (hbel : Below w0.heap.size W W')
    (hb : ∀ b, b < W.heap.size → ¬ R.fp b → W'.heap[b]? = W.heap[b]?) (hok : R'.ok W') (hfp : ∀ b, R'.fp b → (R.fp b ∨ W.heap.size ≤ b) ∧ b < W'.heap.size) : HP w0 (f R') W' :=
  ⟨h.below.trans hbel, HPs.put hp R' hbel.size hb h.below.size hok hfp h.res⟩
/-- A new resource. -/
theorem HP.add {w0 W W' : World} {Rs : List Res} (R : Res) (h : HP w0 Rs W) (hbel : Below W.heap.size W W') (hok : R.ok W') (hfp : ∀ b, R.fp b → W.heap.size ≤ b ∧ b < W'.heap.size) : HP w0 (R :: Rs) W' :=
  ⟨h.below.trans (hbel.mono h.below.size), hok, fun b hb => ⟨Nat.le_trans h.below.size (hfp b hb).1, (hfp b hb).2⟩, fun S hS b hb hSb => by have := (HPs.lt h.res S hS b hSb).2; have := (hfp b hb).1; omega,
    HPs.same hbel.size (fun S hS b hSb => hbel.block b (HPs.lt h.res S hS b hSb).2) h.res⟩
/-- Nothing of what is told turned. -/
theorem HP.step {w0 W W' : World} {Rs : List Res} (h : HP w0 Rs W) (hbel : Below W.heap.size W W') : HP w0 Rs W' :=
  ⟨h.below.trans (hbel.mono h.below.size), HPs.same hbel.size (fun S hS b hSb => hbel.block b (HPs.lt h.res S hS b hSb).2) h.res⟩
/-- Behind a call: what it made, and what was. -/
theorem HP.join {w0 W W' : World} {Rs Rs' : List Res} (h : HP w0 Rs W) (h' : HP W Rs' W') : HP w0 (Rs' ++ Rs) W' := by
  refine ⟨h.below.trans (h'.below.mono h.below.size), ?_⟩
  have key : ∀ (L : List Res), HPs W.heap.size L W' → HPs w0.heap.size (L ++ Rs) W' := by
    intro L
    induction L with
    | nil => intro _; exact HPs.same h'.below.size (fun S hS b hSb => h'.below.block b (HPs.lt h.res S hS b hSb).2) h.res
    | cons R L ih =>
      rintro ⟨h1, h2, h3, h4⟩
      refine ⟨h1, fun b hb => ⟨Nat.le_trans h.below.size (h2 b hb).1, (h2 b hb).2⟩, fun S hS b hb hSb => ?_, ih h4⟩
      rcases List.mem_append.1 hS with hS | hS
      · exact h3 S hS b hb hSb
      · have := (HPs.lt h.res S hS b hSb).2; have := (h2 b hb).1; omega
  exact key Rs' h'.res
theorem HP.nil (w : World) : HP w [] w := ⟨Below.refl _ _, trivial⟩
theorem HP.drop {w0 W : World} {R : Res} {Rs : List Res} (h : HP w0 (R :: Rs) W) : HP w0 Rs W := ⟨h.below, h.res.2.2.2⟩
theorem HP.swap {w0 W : World} {R S : Res} {Rs : List Res} (h : HP w0 (R :: S :: Rs) W) : HP w0 (S :: R :: Rs) W := by
  obtain ⟨hb, h1, h2, h3, h4, h5, h6, h7⟩ := h
  exact ⟨hb, h4, h5, fun T hT b hS hTb => by
    rcases List.mem_cons.1 hT with rfl | hT
    · exact h3 S (by simp) b hTb hS
    · exact h6 T hT b hS hTb, h1, h2, fun T hT => h3 T (by simp [hT]), h7⟩
/-- A sublist of what is told. -/
theorem HPs.sub {lo : Nat} {W : World} : ∀ {Rs Rs' : List Res}, List.Sublist Rs' Rs → HPs lo Rs W → HPs lo Rs' W
  | _, _, .slnil, h => h
  | _, _, .cons _ s, h => HPs.sub s h.2.2.2
  | _, _, .cons_cons _ s, h => ⟨h.1, h.2.1, fun S hS => h.2.2.1 S (s.subset hS), HPs.sub s h.2.2.2⟩
theorem HP.sub {w0 W : World} {Rs Rs' : List Res} (s : List.Sublist Rs' Rs) (h : HP w0 Rs W) : HP w0 Rs' W := ⟨h.below, h.res.sub s⟩
theorem HP.mem_ok {w0 W : World} {Rs : List Res} {R : Res} {f : Res → List Res} (h : HP w0 Rs W) (hp : Pos Rs R f) : R.ok W := h.res.ok R hp.mem
/-- Seen from an elder world. -/
theorem HP.from {w w0 W : World} {Rs Rs' : List Res} (h : HP w Rs' w0) (h' : HP w0 Rs W) : HP w (Rs ++ Rs') W := h.join h'

/-! ## 2. One block of cells -/
def cellR (b : Nat) (T : TypeId) (vs : List Value) : Res where
  fp := fun k => k = b
  ok := fun W => W.heap[b]? = some (.cells vs.toArray T (0, 0))
  loc := fun W W' h hk => by rw [h b rfl]; exact hk

theorem HP.cell {w0 W : World} {Rs : List Res} {b : Nat} {T : TypeId} {vs : List Value} {f : Res → List Res} (h : HP w0 Rs W) (hp : Pos Rs (cellR b T vs) f) : W.heap[b]? = some (.cells vs.toArray T (0, 0)) := h.mem_ok hp
theorem HP.cellAt {w0 W : World} {Rs : List Res} {b : Nat} {T : TypeId} {vs : List Value} {f : Res → List Res} (h : HP w0 Rs W) (hp : Pos Rs (cellR b T vs) f) (i : Nat) (v : Value) (hv : vs[i]? = some v) : W.cell? ⟨b, i, none⟩ = some v := by
  simp [World.cell?, h.cell hp, hv]
theorem HP.alloc {w0 W : World} {Rs : List Res} (h : HP w0 Rs W) (T : TypeId) (vs : List Value) : HP w0 (cellR W.heap.size T vs :: Rs) (W.alloc (.cells vs.toArray T)) :=
  h.add _ ((Below.refl _ W).alloc (Nat.le_refl _) _) (heap_alloc_new W _) (fun b hb => by simp only [cellR] at hb; subst hb; simp)

/-! ## 3. Reading a row of cells -/
def Cells (W : World) (b off : Nat) (vs : List Value) : Prop := ∀ i v, vs[i]? = some v → W.cell? ⟨b, off + i, none⟩ = some v
theorem Cells.below {w W : World} {b off : Nat} {vs : List Value} (h : Cells w b off vs) (hb : Below w.heap.size w W) : Cells W b off vs := fun i v hv => by
  have h1 := h i v hv
  have hlt : b < w.heap.size := World.block_lt_of_cell? w _ h1
  rw [hb.cell (p := ⟨b, off + i, none⟩) hlt]; exact h1
theorem run_loadCellsFrom_cells (P : Program) (b off : Nat) (W : World) : ∀ (vs : List Value) (i : Nat) (acc : Array Value), (∀ j v, vs[j]? = some v → W.cell? ⟨b, off + (i + j), none⟩ = some v) →
    (loadCellsFrom ⟨b, off, none⟩ i vs.length acc).run P W = .ok (acc ++ vs.toArray) W
  | [], i, acc, h => by simp [loadCellsFrom]
  | v :: vs, i, acc, h => by
    have h0 : W.cell? ((⟨b, off, none⟩ : Addr).add i) = some v := by rw [Addr.add_lit]; simpa using h 0 v (by simp)
    have ih := run_loadCellsFrom_cells P b off W vs (i + 1) (acc.push v) (fun j u hj => by have := h (j + 1) u (by simpa using hj); rwa [show i + 1 + j = i + (j + 1) by omega])
    simp [loadCellsFrom, load, Sem.run, Sem.run_bind, h0, ih, Result.andThen]
/-- What a type's variable is: one cell, or an aggregate of k. -/
inductive Kind where | one | agg (k : Nat)
def KindOf (P : Program) (T : TypeId) : Kind → Prop
  | .one => (∀ w, (isAgg T).run P w = .ok false w)
  | .agg k => (∀ w, (isAgg T).run P w = .ok true w) ∧ ∀ w, (sizeOf T).run P w = .ok k w
def Kind.val : Kind → List Value → Option Value
  | .one, v :: _ => some v
  | .one, [] => none
  | .agg k, vs => bif Nat.ble k vs.length then some (.agg (vs.take k).toArray) else none
theorem run_loadVar_kind {P : Program} {T : TypeId} {κ : Kind} (hk : KindOf P T κ) {W : World} {b off : Nat} {vs : List Value} {v : Value} (hc : Cells W b off vs) (hv : κ.val vs = some v) : (loadVar T ⟨b, off, none⟩).run P W = .ok v W := by
  cases κ with
  | one =>
    cases vs with
    | nil => simp [Kind.val] at hv
    | cons u vs =>
      simp [Kind.val] at hv; subst hv
      have := hc 0 u (by simp)
      simp at this
      simp [loadVar, hk W, load, Sem.run, Sem.run_bind, this, Result.andThen]
  | agg k =>
    obtain ⟨ha, hs⟩ := hk
    simp only [Kind.val] at hv
    cases hb : Nat.ble k vs.length with
    | false => simp [hb] at hv
    | true =>
      simp [hb] at hv; subst hv
      have hle := Nat.le_of_ble_eq_true hb
      have hl : (vs.take k).length = k := by simp; omega
      have := run_loadCellsFrom_cells P b off W (vs.take k) 0 #[] (fun j u hj => by
        rw [List.getElem?_take] at hj
        split at hj
        · simpa using hc j u hj
        · cases hj)
      rw [hl] at this
      simp [loadVar, ha W, hs W, loadCells, Sem.run_bind, this, Result.andThen]

/-! ## 4. Storing into a block of one's own -/
def splice (vs : List Value) (o : Nat) : List Value → List Value
  | [] => vs
  | u :: us => splice (vs.set o u) (o + 1) us
theorem splice_length : ∀ (us vs : List Value) (o : Nat), (splice vs o us).length = vs.length
  | [], _, _ => rfl
  | u :: us, vs, o => by rw [splice, splice_length us]; simp
def flat1 : Value → Bool
  | .agg _ | .tuple _ => false
  | _ => true
theorem run_store_one {P : Program} {W : World} {b T : Nat} {vs : List Value} (hb : W.heap[b]? = some (.cells vs.toArray T (0, 0))) (o : Nat) (ho : o < vs.length) (u : Value) (hu : flat1 u = true) :
    (store ⟨b, o, none⟩ u).run P W = .ok () (W.setCell ⟨b, o, none⟩ u) ∧ (W.setCell ⟨b, o, none⟩ u).heap[b]? = some (.cells (vs.set o u).toArray T (0, 0)) := by
  have hc : W.cell? ⟨b, o, none⟩ = some vs[o] := by simp [World.cell?, hb, ho]
  have hf : W.frozen? ⟨b, o, none⟩ = false := by simp [World.frozen?, hb]
  constructor
  · unfold store
    cases u <;> first | (simp [flat1] at hu; done) | simp [Sem.run, hc, hf]
  · simp only [World.setCell, Array.getElem?_modify, if_true, hb, Option.map_some]; simp
theorem run_storeCells_own {P : Program} {b T : Nat} (base : Nat) : ∀ (us : List Value) (i : Nat) (W : World) (vs : List Value), W.heap[b]? = some (.cells vs.toArray T (0, 0)) → base + i + us.length ≤ vs.length → (∀ u ∈ us, flat1 u = true) →
    ∃ W', (storeCells ⟨b, base, none⟩ us i).run P W = .ok () W' ∧ W'.heap[b]? = some (.cells (splice vs (base + i) us).toArray T (0, 0)) ∧ W'.heap.size = W.heap.size ∧ (∀ k, k ≠ b → W'.heap[k]? = W.heap[k]?) ∧ W'.os = W.os ∧ W'.tape = W.tape ∧ W'.output = W.output
  | [], i, W, vs, hb, _, _ => ⟨W, by simp [storeCells], by simpa [splice] using hb, rfl, fun _ _ => rfl, rfl, rfl, rfl⟩
  | u :: us, i, W, vs, hb, hl, hu => by
    simp only [List.length_cons] at hl
    have hs := run_store_one (P := P) hb (base + i) (by omega) u (hu u (by simp))
    obtain ⟨W', h1, h2, h3, h4, h5, h6, h7⟩ := run_storeCells_own (P := P) base us (i + 1) _ (vs.set (base + i) u) hs.2 (by simp; omega) (fun x hx => hu x (by simp [hx]))
    refine ⟨W', ?_, ?_, ?_, fun k hk => ?_, h5.trans rfl, h6.trans rfl, h7.trans rfl⟩
    · simp [storeCells, Addr.add_lit, Sem.run_bind, hs.1, Result.andThen, h1]
    · rw [splice]; rw [show base + i + 1 = base + (i + 1) by omega]; exact h2
    · rw [h3]; simp [World.setCell]
    · rw [h4 k hk]; exact Below.heap_setCell _ _ _ _ hk
end Go.Eng
end
section
namespace Go.Eng
open Go Go.RowKit
set_option linter.unusedVariables false
set_option linter.unusedSimpArgs false
variable {r : Option Nat} {n N : Nat} {P : Program} {D : List Deferred} {E : Env} {H : World → Prop} {Q : Exit → Act → World → Prop} {ops : Array Oper} {rest : List Oper}
variable {w0 : World} {Rs : List Res} {dst : Option Nat} {d : Nat} {ty : TypeId} {ps : String} {af : Array Edge} {op : Op}

/-! ## 1. What an operation does, by what its operands hold -/
def Opn (E : Env) (op : Op) (ρ : Operand → Value) : Prop := ∀ x ∈ op.operands.toList, ∀ v, E.ev x = some v → ρ x = v
theorem Has.opn {a : Act} (h : Has N D E a) (op : Op) : Opn E op a.eval := fun x _ v hv => h.ev hv
theorem Opn.list {ρ : Operand → Value} (h : Opn E op ρ) : ∀ {xs : List Operand} {vs : List Value}, (∀ x ∈ xs, x ∈ op.operands.toList) → E.evs xs = some vs → xs.map ρ = vs
  | [], vs, _, hx => by simp [Env.evs] at hx; subst hx; rfl
  | x :: xs, vs, hm, hx => by
    simp only [Env.evs] at hx
    cases h1 : E.ev x with
    | none => simp [h1] at hx
    | some v =>
      cases h2 : E.evs xs with
      | none => simp [h1, h2] at hx
      | some us => simp [h1, h2] at hx; subst hx; simp [h x (hm x (by simp)) v h1, Opn.list h (fun y hy => hm y (by simp [hy])) h2]
/-- It only reckons, or reads. -/
structure OpP (P : Program) (op : Op) (ty : TypeId) (E : Env) (H : World → Prop) (v : Value) : Prop where
  nd : ∀ c, op ≠ .defer c
  run : ∀ (ρ : Operand → Value) (W : World), Opn E op ρ → H W → ∀ d p af g, (execOp ρ { dst := d, op := op, type := ty, pos := p, after := af, guard := g }).run P W = .ok (.value v) W
def OpE (r : Option Nat) (n : Nat) (P : Program) (op : Op) (ty : TypeId) (E : Env) (H : World → Prop) {σ : Type} (val : σ → Value) (φ : σ → Prop) (H' : σ → World → Prop) : Prop :=
  ∀ (d : Option Nat) (p : String) (af : Array Edge) (g : Option (Nat × Bool)) (a : Act) (W : World) (K : Act → World → Prop) (Q : Exit → Act → World → Prop), Opn E op a.eval → H W →
    (∀ s, φ s → ∀ W', H' s W' → K (a.put d (val s)) W') → Oper.wpIn (RF r) n P { dst := d, op := op, type := ty, pos := p, after := af, guard := g } a W K Q
theorem OpP.eff {v : Value} (h : OpP P op ty E H v) : OpE r n P op ty E H (fun _ : Unit => v) (fun _ => True) (fun _ => H) := fun d p af g a W K Q ha hw k => by
  refine ⟨fun f _ => RF_fn r f, ?_⟩
  rw [Oper.semAt_eq _ _ _ h.nd, h.run a.eval W ha hw]
  exact k () trivial W hw
/-- It turns the world, by a run of its own. -/
theorem OpE.of_run {σ : Type} {val : σ → Value} {φ : σ → Prop} {H' : σ → World → Prop} (nd : ∀ c, op ≠ .defer c)
    (hrun : ∀ (ρ : Operand → Value) (W : World), Opn E op ρ → H W → ∃ s W', (∀ d p af g, (execOp ρ { dst := d, op := op, type := ty, pos := p, after := af, guard := g }).run P W = .ok (.value (val s)) W') ∧ φ s ∧ H' s W') :
    OpE r n P op ty E H val φ H' := fun d p af g a W K Q ha hw k => by
  refine ⟨fun f _ => RF_fn r f, ?_⟩
  obtain ⟨s, W', h1, h2, h3⟩ := hrun a.eval W ha hw
  rw [Oper.semAt_eq _ _ _ nd, h1]
  exact k s h2 W' h3
theorem OpE.of_skip {H' : World → Prop} (nd : ∀ c, op ≠ .defer c)
    (hrun : ∀ (ρ : Operand → Value) (W : World), Opn E op ρ → H W → ∃ W', (∀ d p af g, (execOp ρ { dst := d, op := op, type := ty, pos := p, after := af, guard := g }).run P W = .ok .skip W') ∧ H' W') :
    OpE r n P op ty E H (fun _ : Unit => undef) (fun _ => True) (fun _ => H') := fun d p af g a W K Q ha hw k => by
  refine ⟨fun f _ => RF_fn r f, ?_⟩
  obtain ⟨W', h1, h3⟩ := hrun a.eval W ha hw
  rw [Oper.semAt_eq _ _ _ nd, h1]
  exact k () trivial W' h3
theorem OpE.mono {σ : Type} {val : σ → Value} {φ : σ → Prop} {H' H'' : σ → World → Prop} (h : OpE r n P op ty E H val φ H') (hm : ∀ s W, H' s W → H'' s W) : OpE r n P op ty E H val φ H'' :=
  fun d p af g a W K Q ha hw k => h d p af g a W K Q ha hw fun s hs W' hW' => k s hs W' (hm s W' hW')
theorem OpP.weaken {v : Value} {H' : World → Prop} (h : OpP P op ty E H v) (hm : ∀ W, H' W → H W) : OpP P op ty E H' v := ⟨h.nd, fun ρ W ho hw => h.run ρ W ho (hm W hw)⟩

/-! ## 2. Steps in the order of the text -/
def Env.put (dst : Option Nat) (v : Value) (E : Env) : Env := match dst with | some d => (d, v) :: E | none => E
theorem xe {σ : Type} {val : σ → Value} {φ : σ → Prop} {H' : σ → World → Prop} (hN : Nat.blt d N = true) (h : OpE r n P op ty E H val φ H') (k : ∀ s, φ s → XL r n P ops Q rest N D ((d, val s) :: E) (H' s)) :
    XL r n P ops Q ({ dst := some d, op := op, type := ty, pos := ps, after := af, guard := none } :: rest) N D E H := fun a W ha hw =>
  wpListIn_plain rfl fun K hK => h (some d) ps af none a W K Q (ha.opn op) hw fun s hs W' hW' => hK _ _ (k s hs _ _ (ha.put d (val s) hN) hW')
theorem xe0 {σ : Type} {val : σ → Value} {φ : σ → Prop} {H' : σ → World → Prop} (h : OpE r n P op ty E H val φ H') (k : ∀ s, φ s → XL r n P ops Q rest N D E (H' s)) :
    XL r n P ops Q ({ dst := none, op := op, type := ty, pos := ps, after := af, guard := none } :: rest) N D E H := fun a W ha hw =>
  wpListIn_plain rfl fun K hK => h none ps af none a W K Q (ha.opn op) hw fun s hs W' hW' => hK _ _ (k s hs _ _ ha hW')
/-- A reckoning; one that is not told to anybody. -/
theorem xp {v : Value} (hN : Nat.blt d N = true) (h : OpP P op ty E H v) (k : XL r n P ops Q rest N D ((d, v) :: E) H) :
    XL r n P ops Q ({ dst := some d, op := op, type := ty, pos := ps, after := af, guard := none } :: rest) N D E H := xe hN h.eff fun _ _ => k
theorem xp0 {v : Value} (h : OpP P op ty E H v) (k : XL r n P ops Q rest N D E H) :
    XL r n P ops Q ({ dst := none, op := op, type := ty, pos := ps, after := af, guard := none } :: rest) N D E H := xe0 h.eff fun _ _ => k
/-- A store and its like. -/
theorem xs {H' : World → Prop} (h : OpE r n P op ty E H (fun _ : Unit => undef) (fun _ => True) (fun _ => H')) (k : XL r n P ops Q rest N D E H') :
    XL r n P ops Q ({ dst := none, op := op, type := ty, pos := ps, after := af, guard := none } :: rest) N D E H := xe0 h fun _ _ => k
theorem bool_not_of_ne {c b : Bool} (h : ¬ c = b) : c = !b := by cases c <;> cases b <;> simp_all
theorem bool_some_ne {c b : Bool} (h : ¬ c = b) : (some c == some b) = false := by cases c <;> cases b <;> simp_all
/-- A guarded operation: the guard's answer is known by cases. -/
theorem xg {j : Nat} {b : Bool} {t : Nat} {c : Bool} (ht : (ops[j]?).bind (·.dst) = some t) (hc : E.get t = some (.bool c)) (hN : Nat.blt d N = true)
    (hyes : c = b → XL r n P ops Q ({ dst := some d, op := op, type := ty, pos := ps, after := af, guard := none } :: rest) N D E H)
    (hno : c = !b → XL r n P ops Q rest N D ((d, undef) :: E) H) :
    XL r n P ops Q ({ dst := some d, op := op, type := ty, pos := ps, after := af, guard := some (j, b) } :: rest) N D E H := by
  intro a W ha hw
  have hy : yielded ops a.tmps j = some c := by simp [yielded, ht, ha.get t _ hc]
  by_cases e : c = b
  · have := hyes e a W ha hw
    unfold wpListIn at this ⊢
    rw [if_pos (by simp [Region.wanted])] at this
    rw [if_pos (by simp [Region.wanted, hy, e])]
    exact this
  · have hn := bool_some_ne e
    unfold wpListIn
    rw [if_neg (by simp only [Region.wanted, hy, hn]; simp)]
    exact ⟨fun f _ => RF_fn r f, hno (bool_not_of_ne e) _ W (ha.put d _ hN) hw⟩
theorem xgT {j : Nat} {b : Bool} {t : Nat} {c : Bool} (ht : (ops[j]?).bind (·.dst) = some t) (hc : E.get t = some (.bool c)) (hN : Nat.blt d N = true) (e : c = b)
    (hyes : XL r n P ops Q ({ dst := some d, op := op, type := ty, pos := ps, after := af, guard := none } :: rest) N D E H) :
    XL r n P ops Q ({ dst := some d, op := op, type := ty, pos := ps, after := af, guard := some (j, b) } :: rest) N D E H := xg ht hc hN (fun _ => hyes) (fun h => by subst e; cases c <;> cases h)
theorem xgF {j : Nat} {b : Bool} {t : Nat} {c : Bool} (ht : (ops[j]?).bind (·.dst) = some t) (hc : E.get t = some (.bool c)) (hN : Nat.blt d N = true) (e : c = !b)
    (hno : XL r n P ops Q rest N D ((d, undef) :: E) H) :
    XL r n P ops Q ({ dst := some d, op := op, type := ty, pos := ps, after := af, guard := some (j, b) } :: rest) N D E H := xg ht hc hN (fun h => by subst e; cases b <;> cases h) (fun _ => hno)

/-! ## 3. The operations, one by one -/
theorem mv {x : Operand} {v : Value} (hx : E.ev x = some v) : OpP P (.move x) ty E H v := ⟨by simp, fun ρ W ho hw d p af g => by simp [execOp, ho x (by simp [Op.operands]) v hx]⟩
theorem asg {x : Operand} {v : Value} (hx : E.ev x = some v) : OpP P (.assign x) ty E H v := ⟨by simp, fun ρ W ho hw d p af g => by simp [execOp, ho x (by simp [Op.operands]) v hx]⟩
theorem pick {c x y : Operand} {t : Bool} {v u : Value} (hc : E.ev c = some (.bool t)) (hx : E.ev x = some v) (hy : E.ev y = some u) : OpP P (.pick c x y) ty E H (if t then v else u) :=
  ⟨by simp, fun ρ W ho hw d p af g => by
    have h1 := ho c (by simp [Op.operands]) _ hc; have h2 := ho x (by simp [Op.operands]) _ hx; have h3 := ho y (by simp [Op.operands]) _ hy
    cases t <;> simp [execOp, h1, h2, h3, asBool, Sem.run_bind]⟩
theorem pickT {c x y : Operand} {t : Bool} {v : Value} (hc : E.ev c = some (.bool t)) (ht : t = true) (hx : E.ev x = some v) : OpP P (.pick c x y) ty E H v :=
  ⟨by simp, fun ρ W ho hw d p af g => by
    have h1 := ho c (by simp [Op.operands]) _ hc; have h2 := ho x (by simp [Op.operands]) _ hx
    subst ht; simp [execOp, h1, h2, asBool, Sem.run_bind]⟩
theorem pickF {c x y : Operand} {t : Bool} {v : Value} (hc : E.ev c = some (.bool t)) (ht : t = false) (hy : E.ev y = some v) : OpP P (.pick c x y) ty E H v :=
  ⟨by simp, fun ρ W ho hw d p af g => by
    have h1 := ho c (by simp [Op.operands]) _ hc; have h2 := ho y (by simp [Op.operands]) _ hy
    subst ht; simp [execOp, h1, h2, asBool, Sem.run_bind]⟩
theorem ext {t : Operand} {i : Nat} {vs : Array Value} {v : Value} (ht : E.ev t = some (.tuple vs)) (hv : vs[i]? = some v) : OpP P (.extract t i) ty E H v :=
  ⟨by simp, fun ρ W ho hw d p af g => by simp [execOp, ho t (by simp [Op.operands]) _ ht, Instr.extract, hv]⟩

/-- A field's place. -/
def FieldAt (P : Program) (S : TypeId) (f o : Nat) : Prop := ∀ b off w, (Instr.fieldAt S (.pointer (some ⟨b, off, none⟩)) f).run P w = .ok (.pointer (some ⟨b, off + o, none⟩)) w
theorem FieldAt.of {S f o T : Nat} {fs : Array Field} (hu : P.underlying S = some (.struct fs)) (hf : (fs[f]?).map (fun fd => (fd.offset, fd.type)) = some (o, T)) {k : Nat} (hs : (P.info? T).map (·.size) = some (k + 1)) : FieldAt P S f o := by
  intro b off w
  obtain ⟨fd, hfd, e⟩ : ∃ fd, fs[f]? = some fd ∧ (fd.offset, fd.type) = (o, T) := by cases h : fs[f]? with | none => simp [h] at hf | some fd => simp [h] at hf; exact ⟨fd, rfl, by simp [hf]⟩
  cases e
  cases hi : P.info? fd.type with
  | none => simp [hi] at hs
  | some i =>
    simp [hi] at hs
    simp [Instr.fieldAt, run_underlying hu, hfd, Instr.sureAddr, fieldPlace, sizeOf, typeInfo, hi, hs, Addr.add_lit]
theorem fa {S f o b off : Nat} {x : Operand} (h : FieldAt P S f o) (hx : E.ev x = some (.pointer (some ⟨b, off, none⟩))) : OpP P (.fieldAddr S x f) ty E H (.pointer (some ⟨b, off + o, none⟩)) :=
  ⟨by simp, fun ρ W ho hw d p af g => by simp [execOp, ho x (by simp [Op.operands]) _ hx, h b off W]⟩
/-- A field of an aggregate. -/
def FieldOf (P : Program) (S : TypeId) (f : Nat) (cs : Array Value) (v : Value) : Prop := ∀ w, (Instr.field S (.agg cs) f).run P w = .ok v w
theorem fd {S f : Nat} {cs : Array Value} {v : Value} {x : Operand} (h : FieldOf P S f cs v) (hx : E.ev x = some (.agg cs)) : OpP P (.field S x f) ty E H v :=
  ⟨by simp, fun ρ W ho hw d p af g => by simp [execOp, ho x (by simp [Op.operands]) _ hx, h W]⟩
/-- Loads: from a block of one's own; from cells that are known. -/
theorem ld {T b off T0 : Nat} {κ : Kind} {vs : List Value} {v : Value} {f : Res → List Res} {x : Operand} (hk : KindOf P T κ) (hx : E.ev x = some (.pointer (some ⟨b, off, none⟩)))
    (hp : Pos Rs (cellR b T0 vs) f) (hv : κ.val (vs.drop off) = some v) : OpP P (.load T x) ty E (HP w0 Rs) v :=
  ⟨by simp, fun ρ W ho hw d p af g => by
    have hc : Cells W b off (vs.drop off) := fun i u hu => by rw [List.getElem?_drop] at hu; exact hw.cellAt hp _ _ hu
    simp [execOp, ho x (by simp [Op.operands]) _ hx, Instr.loadAt, Instr.sureAddr, run_loadVar_kind hk hc hv]⟩
theorem ldc {T b off : Nat} {κ : Kind} {vs : List Value} {v : Value} {x : Operand} (hk : KindOf P T κ) (hx : E.ev x = some (.pointer (some ⟨b, off, none⟩)))
    (hc : ∀ W, H W → Cells W b off vs) (hv : κ.val vs = some v) : OpP P (.load T x) ty E H v :=
  ⟨by simp, fun ρ W ho hw d p af g => by simp [execOp, ho x (by simp [Op.operands]) _ hx, Instr.loadAt, Instr.sureAddr, run_loadVar_kind hk (hc W hw) hv]⟩

def SizeOf (P : Program) (T k : Nat) : Prop := ∀ w, (sizeOf T).run P w = .ok k w
/-- A store into a block of one's own. -/
theorem st {T b off T0 m : Nat} {vs us : List Value} {v : Value} {f : Res → List Res} {x y : Operand} (hs : SizeOf P T m) (hx : E.ev x = some (.pointer (some ⟨b, off, none⟩))) (hy : E.ev y = some v) (hu : v.cells = us.toArray) (hm : us.length = m)
    (hp : Pos Rs (cellR b T0 vs) f) (hl : Nat.ble (off + us.length) vs.length = true) (h1 : us.all flat1 = true) :
    OpE r n P (.store T x y) ty E (HP w0 Rs) (fun _ : Unit => undef) (fun _ => True) (fun _ => HP w0 (f (cellR b T0 (splice vs off us)))) :=
  OpE.of_skip (by simp) (fun ρ W ho hw => by
    subst hm
    obtain ⟨W', e1, e2, e3, e4, e5, e6, e7⟩ := run_storeCells_own (P := P) off us 0 W vs (hw.cell hp) (by have := Nat.le_of_ble_eq_true hl; omega) (fun u hu' => List.all_eq_true.1 h1 u hu')
    have hlt := (HPs.lt hw.res _ hp.mem b rfl)
    refine ⟨W', fun d p af g => ?_, hw.put hp _ ⟨e5, e6, e7, by omega, fun k hk => e4 k (by omega)⟩ (fun k _ hk => e4 k hk) (by simpa [cellR] using e2) (fun k hk => ⟨.inl hk, by simp only [cellR] at hk; subst hk; omega⟩)⟩
    simp [execOp, ho x (by simp [Op.operands]) _ hx, ho y (by simp [Op.operands]) _ hy, Instr.storeAt, Instr.sureAddr, storeVar, hs W, hu, Sem.run_bind, Result.andThen, e1])

/-- A type's zero value. -/
def ZeroOf (P : Program) (T : TypeId) (vs : List Value) : Prop := ∃ z : Value, (∀ w, (zeroValue T).run P w = .ok z w) ∧ z.cells = vs.toArray
theorem run_alloc {T : Nat} {vs : List Value} (hz : ZeroOf P T vs) (W : World) : (Instr.alloc T true (.tuple #[])).run P W = .ok (.pointer (some ⟨W.heap.size, 0, none⟩)) (W.alloc (.cells vs.toArray T)) := by
  obtain ⟨z, h1, h2⟩ := hz
  simp [Instr.alloc, h1 W, newVar, newRow, newObj, Sem.run, Sem.run_bind, Result.andThen, h2]
theorem al {T : Nat} {vs : List Value} (hz : ZeroOf P T vs) : OpE r n P (.alloc T) ty E (HP w0 Rs) (fun b : Nat => .pointer (some ⟨b, 0, none⟩)) (fun _ => True) (fun b => HP w0 (cellR b T vs :: Rs)) :=
  OpE.of_run (by simp) (fun ρ W ho hw => ⟨W.heap.size, _, fun d p af g => by simp [execOp, run_alloc hz W], trivial, hw.alloc T vs⟩)
theorem bx {T : Nat} {vs : List Value} {x : Operand} {v : Value} (hx : E.ev x = some v) (hv : v.cells = vs.toArray) : OpE r n P (.box T x) ty E (HP w0 Rs) (fun b : Nat => .pointer (some ⟨b, 0, none⟩)) (fun _ => True) (fun b => HP w0 (cellR b T vs :: Rs)) :=
  OpE.of_run (by simp) (fun ρ W ho hw =>
    ⟨W.heap.size, W.alloc (.cells vs.toArray T), fun d p af g => by simp [execOp, ho x (by simp [Op.operands]) _ hx, Instr.box, newVar, newRow, newObj, Sem.run, Sem.run_bind, Result.andThen, hv], trivial, hw.alloc T vs⟩)
/-- An aggregate is built. -/
def Builds (P : Program) (T : TypeId) (parts : Array (Nat × Value)) (v : Value) : Prop := ∀ w, (Instr.build T parts).run P w = .ok v w
theorem map_zip (ρ : Operand → Value) (parts : List (Nat × Operand)) : parts.map (fun p => (p.1, ρ p.2)) = (parts.map (·.1)).zip ((parts.map (·.2)).map ρ) := by
  induction parts with
  | nil => rfl
  | cons p ps ih => simp [ih]
theorem bd {T : Nat} {parts : List (Nat × Operand)} {vs : List Value} {v : Value} (hx : E.evs (parts.map (·.2)) = some vs) (hb : Builds P T ((parts.map (·.1)).zip vs).toArray v) : OpP P (.build T parts.toArray) ty E H v :=
  ⟨by simp, fun ρ W ho hw d p af g => by
    have he := ho.list (by simp [Op.operands]) hx
    have h2 := map_zip ρ parts
    rw [he] at h2
    have h := hb W
    simp [execOp, h2, h]⟩
theorem nc {x : Operand} {ad : Addr} (hx : E.ev x = some (.pointer (some ad))) : OpP P (.nilCheck x) ty E H (.pointer (some ad)) :=
  ⟨by simp, fun ρ W ho hw d p af g => by simp [execOp, ho x (by simp [Op.operands]) _ hx]⟩
theorem mf {fn : Fn} {first cap : List Operand} {vs us : List Value} (h1 : E.evs first = some vs) (h2 : E.evs cap = some us) : OpP P (.makeFunc fn first.toArray cap.toArray) ty E H (.func fn vs.toArray us.toArray) :=
  ⟨by simp, fun ρ W ho hw d p af g => by
    have e1 := ho.list (by simp [Op.operands]; intro x hx; exact .inl hx) h1
    have e2 := ho.list (by simp [Op.operands]; intro x hx; exact .inr hx) h2
    simp [execOp, Instr.makeFunc, e1, e2]⟩

/-! ## 4. Reckoning -/
def BinOK (P : Program) (op : BinOp) (T : TypeId) (x y : Operand) (a b v : Value) : Prop := ∀ w, (do eqGuard op T x y a b; binOp op T a b : Sem Value).run P w = .ok v w
theorem bin {op : BinOp} {T T' : TypeId} {x y : Operand} {a b v : Value} (hx : E.ev x = some a) (hy : E.ev y = some b) (h : BinOK P op T x y a b v) : OpP P (.binOp op T x y T') ty E H v :=
  ⟨by simp, fun ρ W ho hw d p af g => by
    have := h W
    simp only [Sem.run_bind] at this
    cases hg : (eqGuard op T x y a b).run P W with
    | halt h w => rw [hg] at this; cases this
    | ok u w1 =>
      rw [hg] at this
      simp only [Result.andThen] at this
      simp [execOp, ho x (by simp [Op.operands]) _ hx, ho y (by simp [Op.operands]) _ hy, Sem.run_bind, hg, this, Result.andThen]⟩
def UnOK (P : Program) (op : UnOp) (a v : Value) : Prop := ∀ w, (Op.unary op a).run P w = .ok v w
theorem un {op : UnOp} {T : TypeId} {x : Operand} {a v : Value} (hx : E.ev x = some a) (h : UnOK P op a v) : OpP P (.unOp op T x) ty E H v :=
  ⟨by simp, fun ρ W ho hw d p af g => by simp [execOp, ho x (by simp [Op.operands]) _ hx, h W]⟩
def ConvOK (P : Program) (S T : TypeId) (a v : Value) : Prop := ∀ w, (convert S T a).run P w = .ok v w
theorem cv {S T : TypeId} {x : Operand} {a v : Value} (hx : E.ev x = some a) (h : ConvOK P S T a v) : OpP P (.convert S T x) ty E H v :=
  ⟨by simp, fun ρ W ho hw d p af g => by simp [execOp, ho x (by simp [Op.operands]) _ hx, h W]⟩

variable {T : TypeId} {x y : Operand} {q : IntKind} {a b : Int}
theorem bk_add : BinOK P .add T x y (.int q a) (.int q b) (.int q (q.wrap (a + b))) := fun w => by simp [eqGuard, binOp, Op.intArith]
theorem bk_sub : BinOK P .sub T x y (.int q a) (.int q b) (.int q (q.wrap (a - b))) := fun w => by simp [eqGuard, binOp, Op.intArith]
theorem bk_mul : BinOK P .mul T x y (.int q a) (.int q b) (.int q (q.wrap (a * b))) := fun w => by simp [eqGuard, binOp, Op.intArith]
theorem bk_quo (h : b ≠ 0) : BinOK P .quo T x y (.int q a) (.int q b) (.int q (q.wrap (a.tdiv b))) := fun w => by simp [eqGuard, binOp, Op.intDiv, h]
theorem bk_rem (h : b ≠ 0) : BinOK P .rem T x y (.int q a) (.int q b) (.int q (a.tmod b)) := fun w => by simp [eqGuard, binOp, Op.intDiv, h]
def bitop (op : BinOp) (q : IntKind) (a b : Int) : Int :=
  match op with
  | .and => q.wrap (BitVec.ofInt q.bits a &&& BitVec.ofInt q.bits b).toNat
  | .or => q.wrap (BitVec.ofInt q.bits a ||| BitVec.ofInt q.bits b).toNat
  | .xor => q.wrap (BitVec.ofInt q.bits a ^^^ BitVec.ofInt q.bits b).toNat
  | .andNot => q.wrap (BitVec.ofInt q.bits a &&& ~~~BitVec.ofInt q.bits b).toNat
  | _ => 0
theorem bk_and : BinOK P .and T x y (.int q a) (.int q b) (.int q (bitop .and q a b)) := fun w => by simp [eqGuard, binOp, Op.intBits, bitop]
theorem bk_or : BinOK P .or T x y (.int q a) (.int q b) (.int q (bitop .or q a b)) := fun w => by simp [eqGuard, binOp, Op.intBits, bitop]
theorem bk_xor : BinOK P .xor T x y (.int q a) (.int q b) (.int q (bitop .xor q a b)) := fun w => by simp [eqGuard, binOp, Op.intBits, bitop]
theorem bk_andNot : BinOK P .andNot T x y (.int q a) (.int q b) (.int q (bitop .andNot q a b)) := fun w => by simp [eqGuard, binOp, Op.intBits, bitop]
theorem bk_shl {q' : IntKind} (h : 0 ≤ b) : BinOK P .shl T x y (.int q a) (.int q' b) (.int q (q.wrap (a * 2 ^ (min b.toNat q.bits)))) := fun w => by
  have : ¬ b < 0 := by omega
  simp [eqGuard, binOp, Op.shift, this]
theorem bk_shr {q' : IntKind} (h : 0 ≤ b) : BinOK P .shr T x y (.int q a) (.int q' b) (.int q (a.fdiv (2 ^ (min b.toNat q.bits)))) := fun w => by
  have : ¬ b < 0 := by omega
  simp [eqGuard, binOp, Op.shift, this]
theorem bk_eql : BinOK P .eql T x y (.int q a) (.int q b) (.bool (a == b)) := fun w => by simp [eqGuard, binOp, Op.intCmp]
theorem bk_neq : BinOK P .neq T x y (.int q a) (.int q b) (.bool (a != b)) := fun w => by simp [eqGuard, binOp, Op.intCmp]
theorem bk_lss : BinOK P .lss T x y (.int q a) (.int q b) (.bool (decide (a < b))) := fun w => by simp [eqGuard, binOp, Op.intCmp]
theorem bk_leq : BinOK P .leq T x y (.int q a) (.int q b) (.bool (decide (a ≤ b))) := fun w => by simp [eqGuard, binOp, Op.intCmp]
theorem bk_gtr : BinOK P .gtr T x y (.int q a) (.int q b) (.bool (decide (b < a))) := fun w => by simp [eqGuard, binOp, Op.intCmp]
theorem bk_geq : BinOK P .geq T x y (.int q a) (.int q b) (.bool (decide (b ≤ a))) := fun w => by simp [eqGuard, binOp, Op.intCmp]
theorem bk_sadd {s t : ByteArray} (h : s.size + t.size ≤ 9223372036854775807) : BinOK P .add T x y (.string s) (.string t) (.string (s ++ t)) := fun w => by
  have : ¬ ((s.size + t.size : Nat) : Int) > IntKind.i64.max := by simp [IntKind.max, IntKind.bits, IntKind.signed]; omega
  simp only [eqGuard, binOp, Op.stringOp, this, if_false]; simp
theorem bk_seql {s t : ByteArray} : BinOK P .eql T x y (.string s) (.string t) (.bool (s.toList == t.toList)) := fun w => by simp [eqGuard, binOp, Op.stringOp]
theorem bk_sneq {s t : ByteArray} : BinOK P .neq T x y (.string s) (.string t) (.bool (!(s.toList == t.toList))) := fun w => by simp [eqGuard, binOp, Op.stringOp]
theorem bk_slss {s t : ByteArray} : BinOK P .lss T x y (.string s) (.string t) (.bool (Op.bytesLess s.toList t.toList)) := fun w => by simp [eqGuard, binOp, Op.stringOp]
theorem bk_sgeq {s t : ByteArray} : BinOK P .geq T x y (.string s) (.string t) (.bool (!Op.bytesLess s.toList t.toList)) := fun w => by simp [eqGuard, binOp, Op.stringOp]
theorem bk_peql {p : Option Addr} (h : P.underlying T = some (.pointer (P.pointee T))) : BinOK P .eql T x y (.pointer p) (.pointer none) (.bool p.isNone) := fun w => by
  have := run_eql_pointer_nil (P := P) (w := w) T p h
  simp [eqGuard, this]
theorem bk_pneq {p : Option Addr} (h : P.underlying T = some (.pointer (P.pointee T))) : BinOK P .neq T x y (.pointer p) (.pointer none) (.bool (!p.isNone)) := fun w => by
  have := run_neq_pointer_nil (P := P) (w := w) T p h
  simp [eqGuard, this]
theorem bk_beql {s t : Bool} (h : P.underlying T = some .bool) : BinOK P .eql T x y (.bool s) (.bool t) (.bool (s == t)) := fun w => by
  have := run_eql_bool (P := P) w T s t h
  simp [eqGuard, this]
theorem bk_bneq {s t : Bool} (h : P.underlying T = some .bool) : BinOK P .neq T x y (.bool s) (.bool t) (.bool (!(s == t))) := fun w => by
  have := run_neq_bool (P := P) w T s t h
  simp [eqGuard, this]
theorem uk_not {s : Bool} : UnOK P .not (.bool s) (.bool !s) := fun w => by simp [Op.unary]
theorem uk_neg : UnOK P .neg (.int q a) (.int q (q.wrap (0 - a))) := fun w => by simp [Op.unary, Op.intArith]
theorem uk_xor : UnOK P .xor (.int q a) (.int q (bitop .xor q (if q.signed then -1 else q.max) a)) := fun w => by simp [Op.unary, Op.intBits, bitop]
end Go.Eng
end
section
namespace Go.Eng
open Go Go.RowKit
set_option linter.unusedVariables false
set_option linter.unusedSimpArgs false
variable {r : Option Nat} {n N : Nat} {P : Program} {D : List Deferred} {E : Env} {H : World → Prop} {Q : Exit → Act → World → Prop} {ops : Array Oper} {rest : List Oper}
variable {w0 : World} {Rs : List Res} {dst : Option Nat} {d : Nat} {ty : TypeId} {ps : String} {af : Array Edge}

/-! ## 1. Contracts -/
/-- The call hands back a value of σ's make, what φ says of it, and new memory R. -/
def Ret (P : Program) (g : Nat) (args : List Value) (W : World) {σ : Type} (val : σ → Value) (φ : σ → Prop) (R : σ → List Res) : Prop :=
  Calls P g args.toArray W fun e W' => ∃ s, e = .returned (val s) ∧ φ s ∧ HP W (R s) W'
/-- The call hands back just this value; it makes nothing that is told. -/
def RetV (P : Program) (g : Nat) (args : List Value) (W : World) (v : Value) : Prop :=
  Calls P g args.toArray W fun e W' => e = .returned v ∧ Below W.heap.size W W'
theorem HP.of_below {w W : World} (h : Below w.heap.size w W) : HP w [] W := ⟨h, trivial⟩

/-- A contract goes into whatever fence of ours. -/
theorem callsIn_RF {g : Nat} {args : Array Value} {W : World} {R : Ending → World → Prop} (h : Calls P g args W R) : CallsIn (RF r) n P g args W R := by
  have h1 : CallsIn Fence.wide n P g args W R := callsIn_wide.2 h
  cases r with
  | none => exact h1
  | some l => exact CallsIn.inRound l h1
def Enters (P : Program) (g : Nat) : Prop := ∀ (args : Array Value) (w : World), (callFunc g args).run P w = .ok (.enter g args) w

theorem calls_ {f : Operand} {args : List Operand} {ats : Array TypeId} {g : Nat} {first cap : List Value} {vs us : List Value} {σ : Type} {val : σ → Value} {φ : σ → Prop} {H' : σ → World → Prop}
    (he : Enters P g) (hf : E.ev f = some (.func (.func g) first.toArray cap.toArray)) (hv : E.evs args = some vs) (hu : first ++ (vs ++ cap) = us)
    (hc : ∀ W, H W → Calls P g us.toArray W fun e W' => ∃ s, e = .returned (val s) ∧ φ s ∧ H' s W') :
    OpE r n P (.call { callee := .value f, args := args.toArray, argTypes := ats }) ty E H val φ H' := by
  intro d p af g' a W K Q ho hw k
  refine ⟨fun f _ => RF_fn r f, ?_⟩
  have e1 : (execOp a.eval { dst := d, op := .call { callee := .value f, args := args.toArray, argTypes := ats }, type := ty, pos := p, after := af, guard := g' }).run P W = .ok (.enter g us.toArray) W := by
    have h2 := ho.list (by simp [Op.operands, Call.operands]; intro x hx; exact .inr hx) hv
    have h1 := ho f (by simp [Op.operands, Call.operands]) _ hf
    subst hu
    simp [execOp, resolve, Deferred.ofValue, h1, invoke, h2, he _ W]
  rw [Oper.semAt_eq _ _ _ (by simp)]
  rw [e1]
  refine ⟨RF_dn r n, (callsIn_RF (hc W hw)).mono ?_⟩
  rintro e W' ⟨s, rfl, h2, h3⟩
  exact k s h2 W' h3
/-- A call by a contract. -/
theorem ret {f : Operand} {args : List Operand} {ats : Array TypeId} {g : Nat} {vs : List Value} {σ : Type} {val : σ → Value} {φ : σ → Prop} {R : σ → List Res}
    (he : Enters P g) (hf : E.ev f = some (.func (.func g) #[] #[])) (hv : E.evs args = some vs) (hc : ∀ W, HP w0 Rs W → Ret P g vs W val φ R) :
    OpE r n P (.call { callee := .value f, args := args.toArray, argTypes := ats }) ty E (HP w0 Rs) val φ (fun s => HP w0 (R s ++ Rs)) :=
  calls_ (first := []) (cap := []) he hf hv (by simp) (fun W hw => (hc W hw).mono fun e W' ⟨s, h1, h2, h3⟩ => ⟨s, h1, h2, hw.join h3⟩)
theorem retv {f : Operand} {args : List Operand} {ats : Array TypeId} {g : Nat} {vs : List Value} {v : Value}
    (he : Enters P g) (hf : E.ev f = some (.func (.func g) #[] #[])) (hv : E.evs args = some vs) (hc : ∀ W, HP w0 Rs W → RetV P g vs W v) :
    OpE r n P (.call { callee := .value f, args := args.toArray, argTypes := ats }) ty E (HP w0 Rs) (fun _ : Unit => v) (fun _ => True) (fun _ => HP w0 Rs) :=
  calls_ (first := []) (cap := []) he hf hv (by simp) (fun W hw => (hc W hw).mono fun e W' ⟨h1, h2⟩ => ⟨(), h1, trivial, hw.step h2⟩)
theorem xv {f : Operand} {args : List Operand} {ats : Array TypeId} {g : Nat} {vs : List Value} {v : Value} (hN : Nat.blt d N = true)
    (he : Enters P g) (hf : E.ev f = some (.func (.func g) #[] #[])) (hv : E.evs args = some vs) (hc : ∀ W, HP w0 Rs W → RetV P g vs W v) (k : XL r n P ops Q rest N D ((d, v) :: E) (HP w0 Rs)) :
    XL r n P ops Q ({ dst := some d, op := .call { callee := .value f, args := args.toArray, argTypes := ats }, type := ty, pos := ps, after := af, guard := none } :: rest) N D E (HP w0 Rs) :=
  xe hN (retv he hf hv hc) fun _ _ => k
theorem xr {f : Operand} {args : List Operand} {ats : Array TypeId} {g : Nat} {vs : List Value} {σ : Type} {val : σ → Value} {φ : σ → Prop} {R : σ → List Res} (hN : Nat.blt d N = true)
    (he : Enters P g) (hf : E.ev f = some (.func (.func g) #[] #[])) (hv : E.evs args = some vs) (hc : ∀ W, HP w0 Rs W → Ret P g vs W val φ R) (k : ∀ s, φ s → XL r n P ops Q rest N D ((d, val s) :: E) (HP w0 (R s ++ Rs))) :
    XL r n P ops Q ({ dst := some d, op := .call { callee := .value f, args := args.toArray, argTypes := ats }, type := ty, pos := ps, after := af, guard := none } :: rest) N D E (HP w0 Rs) :=
  xe hN (ret he hf hv hc) k
/-- A call of a function without a body, by the model's own row: it only reckons. -/
theorem row {f : Operand} {args : List Operand} {ats : Array TypeId} {g : Nat} {vs : List Value} {v : Value} (hf : E.ev f = some (.func (.func g) #[] #[])) (hv : E.evs args = some vs)
    (hc : ∀ W, H W → (callFunc g vs.toArray).run P W = .ok (.value v) W) : OpP P (.call { callee := .value f, args := args.toArray, argTypes := ats }) ty E H v :=
  ⟨by simp, fun ρ W ho hw d p af g => by
    have h2 := ho.list (by simp [Op.operands, Call.operands]; intro x hx; exact .inr hx) hv
    have h1 := ho f (by simp [Op.operands, Call.operands]) _ hf
    simp [execOp, resolve, Deferred.ofValue, h1, invoke, h2, hc W hw]⟩

/-! ## 2. Entering -/
theorem begin_ {f : FuncId} {fn : Func} {c : Code} {args : List Value} {w : World} {R : Ending → World → Prop} (hf : P.funcs[f]? = some fn) (hb : fn.body = some c) (hn : fn.ntmps = N) (hN : Nat.ble args.length N = true)
    (h : XC none 0 P c (bodyPost P fn R) N [] (Env.ofArgs 0 args) (HP w [])) : Calls P f args.toArray w R := by
  subst hn
  refine enter hf hb (Nat.le_of_ble_eq_true hN) ?_
  exact fun a W ha hw => h a W ha (by subst hw; exact HP.nil _)

theorem ld_own {T b off T0 : Nat} {κ : Kind} {vs : List Value} {v : Value} {f : Res → List Res} (hk : KindOf P T κ) (hp : Pos Rs (cellR b T0 vs) f) (hv : κ.val (vs.drop off) = some v) :
    ∀ W, HP w0 Rs W → (loadVar T ⟨b, off, none⟩).run P W = .ok v W := fun W hw =>
  run_loadVar_kind hk (fun i u hu => by rw [List.getElem?_drop] at hu; exact hw.cellAt hp _ _ hu) hv
end Go.Eng
end
