/- Part 11 of the walks and plain lemmas that the claim rests on. -/
import Derived.Test.YtfdnhjfbbggmiaaGreatDoorP10
section
namespace Go.Eng
open Go Go.RowKit Go.Proofs
set_option linter.unusedVariables false
set_option linter.unusedSimpArgs false
set_option maxRecDepth 4000
/-! # Wide sums -/
abbrev wdc (n : Nat) : List Value := [.int .u64 ((n / 340282366920938463463374607431768211456 : Nat) : Int), .int .u64 ((n / 18446744073709551616 % 18446744073709551616 : Nat) : Int), .int .u64 ((n % 18446744073709551616 : Nat) : Int)]
abbrev wdV (n : Nat) : Value := .agg #[.int .u64 ((n / 340282366920938463463374607431768211456 : Nat) : Int), .int .u64 ((n / 18446744073709551616 % 18446744073709551616 : Nat) : Int), .int .u64 ((n % 18446744073709551616 : Nat) : Int)]
theorem bb_div (n : Nat) : n / 340282366920938463463374607431768211456 = n / 18446744073709551616 / 18446744073709551616 := by rw [Nat.div_div_eq_div_mul]
theorem wide_add (n m : Nat) : (n % 18446744073709551616 + m % 18446744073709551616) % 18446744073709551616 = (n + m) % 18446744073709551616 ∧
    (n / 18446744073709551616 % 18446744073709551616 + m / 18446744073709551616 % 18446744073709551616 + (n % 18446744073709551616 + m % 18446744073709551616) / 18446744073709551616) % 18446744073709551616 = (n + m) / 18446744073709551616 % 18446744073709551616 ∧
    n / 340282366920938463463374607431768211456 + m / 340282366920938463463374607431768211456 + (n / 18446744073709551616 % 18446744073709551616 + m / 18446744073709551616 % 18446744073709551616 + (n % 18446744073709551616 + m % 18446744073709551616) / 18446744073709551616) / 18446744073709551616 = (n + m) / 340282366920938463463374607431768211456 := by
  rw [bb_div n, bb_div m, bb_div (n + m)]
  refine ⟨by omega, ?_, ?_⟩
  · omega
  · have h1 : (n + m) / 18446744073709551616 = n / 18446744073709551616 + m / 18446744073709551616 + (n % 18446744073709551616 + m % 18446744073709551616) / 18446744073709551616 := by omega
    rw [h1]
    generalize n / 18446744073709551616 = a
    generalize m / 18446744073709551616 = b
    generalize (n % 18446744073709551616 + m % 18446744073709551616) / 18446744073709551616 = c
    omega
theorem cst1 (a b : Nat) : ((a : Int) + b + 0) % 18446744073709551616 = (((a + b) % 18446744073709551616 : Nat) : Int) := by omega
theorem cst2 (a b c d : Nat) : ((a : Int) + b + ((c : Int) + d + 0) / 18446744073709551616) % 18446744073709551616 = (((a + b + (c + d) / 18446744073709551616) % 18446744073709551616 : Nat) : Int) := by omega
theorem cst3 (a b c d e f : Nat) (h : a + b + (c + d + (e + f) / 18446744073709551616) / 18446744073709551616 < 18446744073709551616) : ((a : Int) + b + ((c : Int) + d + ((e : Int) + f + 0) / 18446744073709551616) / 18446744073709551616) % 18446744073709551616 = ((a + b + (c + d + (e + f) / 18446744073709551616) / 18446744073709551616 : Nat) : Int) := by omega
theorem cst4 (a b c d e f : Nat) (h : a + b + (c + d + (e + f) / 18446744073709551616) / 18446744073709551616 < 18446744073709551616) : ((a : Int) + b + ((c : Int) + d + ((e : Int) + f + 0) / 18446744073709551616) / 18446744073709551616) / 18446744073709551616 = 0 := by omega
theorem wdV_ext {n : Nat} {a b c : Int} (ha : a = ((n / 340282366920938463463374607431768211456 : Nat) : Int)) (hb : b = ((n / 18446744073709551616 % 18446744073709551616 : Nat) : Int)) (hc : c = ((n % 18446744073709551616 : Nat) : Int)) : Value.agg #[.int .u64 a, .int .u64 b, .int .u64 c] = wdV n := by subst ha; subst hb; subst hc; rfl

theorem wof_ok (n : Nat) (hn : n < BB) (w : World) : RetV Tryz.prog 17 [U n] w (wdV n) := by
  refine begin_ Tryz.func17 rfl rfl rfl ?_
  refine xc_seq <| xc_region <| xe rfl (bx rfl rfl) fun b1 _ => xe rfl (al zo_46) fun b2 _ => xl_nil <| xq_then <| ?_
  refine xc_seq <| xc_region <| xp rfl (ld kd_35 rfl (.tail .head) rfl) <| xp rfl (bd rfl bd_46_1) <| xs (st sz_46 rfl rfl rfl rfl .head rfl rfl) <| xl_nil <| xq_then <| xc_ret <| leave1 (.inl rfl) rfl (.cell rfl (ld_own kd_46 .head rfl)) fun W hW => (⟨congrArg Ending.returned (wdV_ext (by simp only [BB] at hn; omega) (by simp only [BB] at hn; omega) rfl), hW.below⟩)

theorem wand_ok (n m : Nat) (hs : n + m < 6277101735386680763835789423207666416102355444464034512896) (w : World) : RetV Tryz.prog 51 [wdV n, wdV m] w (wdV (n + m)) := by
  obtain ⟨d1, d2, d3⟩ := wide_add n m
  have d4 : (n + m) / 340282366920938463463374607431768211456 < 18446744073709551616 := by omega
  refine begin_ Tryz.func51 rfl rfl rfl ?_
  refine xc_seq <| xc_region <| xe rfl (bx rfl rfl) fun b1 _ => xe rfl (bx rfl rfl) fun b2 _ => xe rfl (al zo_46) fun b3 _ => xl_nil <| xq_then <| ?_
  refine xc_seq <| xc_region <| xp rfl (fa fa_46_1 rfl) <| xp rfl (fa fa_35_1 rfl) <| xp rfl (ld kd_33 rfl (.tail <| .tail .head) rfl) <| xp rfl (fa fa_46_1 rfl) <| xp rfl (fa fa_35_1 rfl) <| xp rfl (ld kd_33 rfl (.tail .head) rfl) <| xp rfl (row rfl rfl (fun W _ => add64 (by omega) (by omega) (by decide) (by decide) W)) <| xp rfl (mv rfl) <| xp rfl (ext rfl rfl) <| xp rfl (ext rfl rfl) <| xp rfl (asg rfl) <| xp rfl (asg rfl) <| xl_nil <| xq_then <| ?_
  refine xc_seq <| xc_region <| xp rfl (fa fa_46_1 rfl) <| xp rfl (fa fa_35_0 rfl) <| xp rfl (ld kd_33 rfl (.tail <| .tail .head) rfl) <| xp rfl (fa fa_46_1 rfl) <| xp rfl (fa fa_35_0 rfl) <| xp rfl (ld kd_33 rfl (.tail .head) rfl) <| xp rfl (mv rfl) <| xp rfl (row rfl rfl (fun W _ => add64 (by omega) (by omega) (by omega) (by omega) W)) <| xp rfl (mv rfl) <| xp rfl (ext rfl rfl) <| xp rfl (ext rfl rfl) <| xp rfl (asg rfl) <| xp rfl (asg rfl) <| xl_nil <| xq_then <| ?_
  refine xc_seq <| xc_region <| xp rfl (fa fa_46_0 rfl) <| xp rfl (ld kd_33 rfl (.tail <| .tail .head) rfl) <| xp rfl (fa fa_46_0 rfl) <| xp rfl (ld kd_33 rfl (.tail .head) rfl) <| xp rfl (mv rfl) <| xp rfl (row rfl rfl (fun W _ => add64 (by omega) (by omega) (by omega) (by omega) W)) <| xp rfl (mv rfl) <| xp rfl (ext rfl rfl) <| xp rfl (ext rfl rfl) <| xp rfl (asg rfl) <| xp rfl (asg rfl) <| xl_nil <| xq_then <| ?_
  refine xc_seq <| xc_seq <| xc_region <| xp rfl (mv rfl) <| xp rfl (bin rfl rfl bk_neq) <| xl_nil <| xq_then <| xc_cond rfl (fun hc1 => ?_) (fun hc1 => ?_)
  ·
    exfalso; have h1 := bne_iff_ne.1 hc1; rw [← d3] at d4; exact h1 (cst4 _ _ _ _ _ _ d4)
  ·
    refine xc_skip <| xq_then <| xc_seq <| xc_region <| xp rfl (mv rfl) <| xp rfl (mv rfl) <| xp rfl (mv rfl) <| xp rfl (bd rfl bd_35_0_1) <| xp rfl (bd rfl bd_46_0_1) <| xs (st sz_46 rfl rfl rfl rfl .head rfl rfl) <| xl_nil <| xq_then <| xc_ret <| leave1 (.inl rfl) rfl (.cell rfl (ld_own kd_46 .head rfl)) fun W hW => (⟨congrArg Ending.returned (wdV_ext (by rw [← d3] at d4 ⊢; exact cst3 _ _ _ _ _ _ d4) (by rw [← d2]; exact cst2 _ _ _ _) (by rw [← d1]; exact cst1 _ _)), hW.below⟩)

theorem wplus_ok (n m : Nat) (hm : m < BB) (hs : n + m < 6277101735386680763835789423207666416102355444464034512896) (w : World) : RetV Tryz.prog 19 [wdV n, U m] w (wdV (n + m)) := by
  refine begin_ Tryz.func19 rfl rfl rfl ?_
  refine xc_seq <| xc_region <| xe rfl (bx rfl rfl) fun b1 _ => xe rfl (bx rfl rfl) fun b2 _ => xe rfl (al zo_46) fun b3 _ => xl_nil <| xq_then <| ?_
  refine xc_seq <| xc_draw (canon := [(0, .p), (1, .p), (2, .x), (3, .x), (4, .x)]) (Z := HP _ [cellR b2 _ _, cellR b1 _ _]) mixed_ rfl (akp <| akp <| akx <| akx <| akx <| ak0) (zsub (.cons _ <| .cons_cons _ <| .cons_cons _ <| List.nil_sublist _)) ?_
  refine dp rfl rfl rfl rfl (ld kd_46 rfl (.tail .head) rfl) <| dp rfl rfl rfl rfl (ld kd_35 rfl .head rfl) <| dv rfl rfl rfl (.inl rfl) rfl Tryz.call17 rfl rfl (fun W hW => (wof_ok m hm W)) (zsub (.cons _ <| .cons_cons _ <| .cons_cons _ <| List.nil_sublist _)) <| dv rfl rfl rfl (.inl rfl) rfl Tryz.call51 rfl rfl (fun W hW => (wand_ok n m hs W)) (zsub (.cons _ <| .cons_cons _ <| .cons_cons _ <| List.nil_sublist _)) <| dst_ rfl rfl rfl rfl sz_46 rfl rfl rfl rfl .head rfl rfl (zsub (.cons _ <| .cons_cons _ <| .cons_cons _ <| List.nil_sublist _)) <| dend <| xq_then <| xc_ret <| leave1 (.inl rfl) rfl (.cell rfl (ld_own kd_46 .head rfl)) fun W hW => (⟨rfl, hW.below⟩)

end Go.Eng
end
section
namespace Go.Eng
open Go Go.RowKit Go.Proofs
set_option linter.unusedVariables false
set_option linter.unusedSimpArgs false
/-! # Pairs, counted, in plain words -/
def prA (p : Pr) : Option Ac := if p.there == 2 then none else some p.a
def prB (p : Pr) : Option Ac := if p.there == 1 then none else some p.b
theorem mg_A : ∀ (A B : List Ac), (mergeF A B).filterMap prA = A
  | [], [] => by rw [mergeF]; rfl
  | a :: xs, [] => by rw [mg_one, List.filterMap_cons, mg_A xs []]; rfl
  | [], b :: ys => by rw [mg_two, List.filterMap_cons, mg_A [] ys]; rfl
  | a :: xs, b :: ys => by
    rw [mergeF]
    split
    · rw [List.filterMap_cons, mg_A xs (b :: ys)]; rfl
    · split
      · rw [List.filterMap_cons, mg_A (a :: xs) ys]; rfl
      · rw [List.filterMap_cons, mg_A xs ys]; rfl
  termination_by A B => A.length + B.length
theorem mg_B : ∀ (A B : List Ac), (mergeF A B).filterMap prB = B
  | [], [] => by rw [mergeF]; rfl
  | a :: xs, [] => by rw [mg_one, List.filterMap_cons, mg_B xs []]; rfl
  | [], b :: ys => by rw [mg_two, List.filterMap_cons, mg_B [] ys]; rfl
  | a :: xs, b :: ys => by
    rw [mergeF]
    split
    · rw [List.filterMap_cons, mg_B xs (b :: ys)]; rfl
    · split
      · rw [List.filterMap_cons, mg_B (a :: xs) ys]; rfl
      · rw [List.filterMap_cons, mg_B xs ys]; rfl
  termination_by A B => A.length + B.length
theorem prId_of {A B : List Ac} {p : Pr} (h : PrOf A B p) : (∃ a ∈ A, prId p = a.id) ∨ ∃ b ∈ B, prId p = b.id := by
  cases h with
  | one ha => exact .inl ⟨_, ha, rfl⟩
  | two hb => exact .inr ⟨_, hb, rfl⟩
  | both ha hb e => exact .inl ⟨_, ha, rfl⟩
theorem asc_head {x : Ac} {xs : List Ac} (h : Asc Ac.id (x :: xs)) {y : Ac} (hy : y ∈ xs) : idLt x.id y.id = true := (List.pairwise_cons.1 h).1 y hy
theorem asc_rest {x : Ac} {xs : List Ac} (h : Asc Ac.id (x :: xs)) : Asc Ac.id xs := (List.pairwise_cons.1 h).2
theorem mg_asc : ∀ (A B : List Ac), Asc Ac.id A → Asc Ac.id B → Asc prId (mergeF A B)
  | [], [], _, _ => by rw [mergeF]; exact .nil
  | a :: xs, [], hA, hB => by
    rw [mg_one]
    refine .cons (fun p hp => ?_) (mg_asc xs [] (asc_rest hA) hB)
    show idLt a.id (prId p) = true
    rcases prId_of (mergeF_of _ _ p hp) with ⟨y, hy, e⟩ | ⟨y, hy, e⟩
    · rw [e]; exact asc_head hA hy
    · cases hy
  | [], b :: ys, hA, hB => by
    rw [mg_two]
    refine .cons (fun p hp => ?_) (mg_asc [] ys hA (asc_rest hB))
    show idLt b.id (prId p) = true
    rcases prId_of (mergeF_of _ _ p hp) with ⟨y, hy, e⟩ | ⟨y, hy, e⟩
    · cases hy
    · rw [e]; exact asc_head hB hy
  | a :: xs, b :: ys, hA, hB => by
    rw [mergeF]
    split
    · rename_i h
      refine .cons (fun p hp => ?_) (mg_asc xs (b :: ys) (asc_rest hA) hB)
      show idLt a.id (prId p) = true
      rcases prId_of (mergeF_of _ _ p hp) with ⟨y, hy, e⟩ | ⟨y, hy, e⟩
      · rw [e]; exact asc_head hA hy
      · rw [e]
        rcases List.mem_cons.1 hy with rfl | hy
        · exact h
        · exact idLt_trans2 h (asc_head hB hy)
    · rename_i h1
      split
      · rename_i h
        refine .cons (fun p hp => ?_) (mg_asc (a :: xs) ys hA (asc_rest hB))
        show idLt b.id (prId p) = true
        rcases prId_of (mergeF_of _ _ p hp) with ⟨y, hy, e⟩ | ⟨y, hy, e⟩
        · rw [e]
          rcases List.mem_cons.1 hy with rfl | hy
          · exact h
          · exact idLt_trans2 h (asc_head hA hy)
        · rw [e]; exact asc_head hB hy
      · rename_i h2
        have e0 : a.id = b.id := idLt_tri (by simpa using h1) (by simpa using h2)
        refine .cons (fun p hp => ?_) (mg_asc xs ys (asc_rest hA) (asc_rest hB))
        show idLt a.id (prId p) = true
        rcases prId_of (mergeF_of _ _ p hp) with ⟨y, hy, e⟩ | ⟨y, hy, e⟩
        · rw [e]; exact asc_head hA hy
        · rw [e, e0]; exact asc_head hB hy
  termination_by A B => A.length + B.length
theorem mg_inj {A B : List Ac} (hA : Asc Ac.id A) (hB : Asc Ac.id B) {p q : Pr} (hp : p ∈ mergeF A B) (hq : q ∈ mergeF A B) (e : prId p = prId q) : p = q :=
  map_inj_nodup (mg_asc A B hA hB).nodup hp hq e
theorem prB_id {A B : List Ac} {p : Pr} (hp : PrOf A B p) {b : Ac} (h : prB p = some b) : b.id = prId p ∧ p.b = b ∧ p.there ≠ 1 := by
  cases hp with
  | one ha => cases h
  | two hb => cases h; exact ⟨rfl, rfl, by simp⟩
  | both ha hb e => cases h; exact ⟨e.symm, rfl, by simp⟩
theorem prA_id {A B : List Ac} {p : Pr} (hp : PrOf A B p) {a : Ac} (h : prA p = some a) : a.id = prId p ∧ p.a = a ∧ p.there ≠ 2 := by
  cases hp with
  | one ha => cases h; exact ⟨rfl, rfl, by simp⟩
  | two hb => cases h
  | both ha hb e => cases h; exact ⟨rfl, rfl, by simp⟩
theorem find_mem {l : List Ac} (ha : Asc Ac.id l) {a : Ac} (hm : a ∈ l) : l.find? (isId a.id) = some a := by
  obtain ⟨k, hk, rfl⟩ := List.getElem_of_mem hm
  have := find_nodup ha hk (id := l[k].id) (by rw [getA_eq hk])
  rw [this, getA_eq hk]
theorem find_not {l : List Ac} {id : ByteArray} (h : ∀ a ∈ l, a.id ≠ id) : l.find? (isId id) = none := by
  rw [List.find?_eq_none]
  intro x hx e
  exact h x hx (toList_inj (by simpa [isId] using e))
/-- What Of tells of a pair's Id is that pair. -/
theorem of_pair {A B : List Ac} (hA : Asc Ac.id A) (hB : Asc Ac.id B) {p : Pr} (hp : p ∈ mergeF A B) : ofP A B (prId p) 2 = p := by
  have hno2 : p.there = 1 → ∀ b ∈ B, b.id ≠ prId p := fun h1 b hb e => by
    rw [← mg_B A B] at hb
    obtain ⟨q, hq, hqb⟩ := List.mem_filterMap.1 hb
    obtain ⟨e1, _, e3⟩ := prB_id (mergeF_of _ _ q hq) hqb
    have := mg_inj hA hB hq hp (by rw [← e1, e])
    subst this; exact e3 h1
  have hno1 : p.there = 2 → ∀ a ∈ A, a.id ≠ prId p := fun h1 a ha e => by
    rw [← mg_A A B] at ha
    obtain ⟨q, hq, hqb⟩ := List.mem_filterMap.1 ha
    obtain ⟨e1, _, e3⟩ := prA_id (mergeF_of _ _ q hq) hqb
    have := mg_inj hA hB hq hp (by rw [← e1, e])
    subst this; exact e3 h1
  cases mergeF_of _ _ p hp with
  | one ha =>
    rename_i a
    have h1 := find_mem hA ha
    have h2 := find_not (hno2 rfl)
    have h2' : B.find? (isId a.id) = none := h2
    show ofP A B a.id 2 = _
    simp [ofP, findF, hasF, h1, h2']
  | two hb =>
    rename_i b
    have h1 := find_mem hB hb
    have h2' : A.find? (isId b.id) = none := find_not (hno1 rfl)
    show ofP A B b.id 2 = _
    simp [ofP, findF, hasF, h1, h2']
  | both ha hb e =>
    rename_i a b
    have h1 := find_mem hA ha
    have h2 := find_mem hB hb
    show ofP A B a.id 2 = _
    rw [← e] at h2
    simp [ofP, findF, hasF, h1, h2]
end Go.Eng
end
section
namespace Go.Eng
open Go Go.RowKit Go.Proofs
set_option linter.unusedVariables false
set_option linter.unusedSimpArgs false
theorem sum_filterMap {α β : Type} (g : α → Option β) (h : β → Nat) (f : α → Nat) : ∀ (l : List α), (∀ p ∈ l, f p = ((g p).map h).getD 0) → (l.map f).sum = ((l.filterMap g).map h).sum
  | [], _ => rfl
  | p :: l, hp => by
    have ih := sum_filterMap g h f l (fun q hq => hp q (by simp [hq]))
    have h1 := hp p (by simp)
    rw [List.map_cons, List.sum_cons, List.filterMap_cons, ih, h1]
    cases g p <;> simp
theorem len_filterMap {α β : Type} (g : α → Option β) (q : α → Bool) (r : β → Bool) : ∀ (l : List α), (∀ p ∈ l, q p = (g p).any r) → (l.filter q).length = ((l.filterMap g).filter r).length
  | [], _ => rfl
  | p :: l, hp => by
    have ih := len_filterMap g q r l (fun x hx => hp x (by simp [hx]))
    have h1 := hp p (by simp)
    rw [List.filter_cons, List.filterMap_cons, h1]
    cases g p with
    | none => simpa using ih
    | some b => cases h2 : r b <;> simp [h2, ih]
theorem sum_split {α : Type} (q : α → Bool) (f : α → Nat) : ∀ (l : List α), (l.map f).sum = ((l.filter q).map f).sum + ((l.filter (fun x => !q x)).map f).sum
  | [] => rfl
  | p :: l => by
    have ih := sum_split q f l
    rw [List.map_cons, List.sum_cons, ih, List.filter_cons, List.filter_cons]
    cases q p <;> simp <;> omega
def cnt (w : Int) (l : List Pr) : Nat := (l.filter fun p => prWhat p == w).length
theorem prW {A B : List Ac} {p : Pr} (h : PrOf A B p) : (p.there = 1 ∧ prWhat p = 2) ∨ (p.there = 2 ∧ prWhat p = 1) ∨ (p.there = 3 ∧ prWhat p = 3 ∧ p.a.bal ≠ p.b.bal) ∨ (p.there = 3 ∧ prWhat p = 4 ∧ p.a.bal = p.b.bal) := by
  cases h with
  | one ha => exact .inl ⟨rfl, rfl⟩
  | two hb => exact .inr (.inl ⟨rfl, rfl⟩)
  | both ha hb e =>
    rename_i a b
    by_cases h : a.bal = b.bal
    · exact .inr (.inr (.inr ⟨rfl, by rw [what_both, if_pos h], h⟩))
    · exact .inr (.inr (.inl ⟨rfl, by rw [what_both, if_neg h], h⟩))
theorem mg_sumA (A B : List Ac) : ((mergeF A B).map fun p => p.a.bal).sum = (A.map Ac.bal).sum := by
  rw [sum_filterMap prA Ac.bal (fun p => p.a.bal) (mergeF A B) (fun p hp => by cases mergeF_of _ _ p hp <;> simp [prA, ac0]), mg_A]
theorem mg_sumB (A B : List Ac) : ((mergeF A B).map fun p => p.b.bal).sum = (B.map Ac.bal).sum := by
  rw [sum_filterMap prB Ac.bal (fun p => p.b.bal) (mergeF A B) (fun p hp => by cases mergeF_of _ _ p hp <;> simp [prB, ac0]), mg_B]
/-- The totals differ by what the news tell. -/
theorem news_tot (A B : List Ac) : (A.map Ac.bal).sum + ((newsF A B).map fun p => p.b.bal).sum = (B.map Ac.bal).sum + ((newsF A B).map fun p => p.a.bal).sum := by
  have h1 := sum_split newsB (fun p => p.a.bal) (mergeF A B)
  have h2 := sum_split newsB (fun p => p.b.bal) (mergeF A B)
  rw [mg_sumA] at h1
  rw [mg_sumB] at h2
  have h3 : ((mergeF A B).filter fun x => !newsB x).map (fun p => p.a.bal) = ((mergeF A B).filter fun x => !newsB x).map (fun p => p.b.bal) := by
    refine List.map_congr_left fun p hp => ?_
    obtain ⟨hm, hw⟩ := List.mem_filter.1 hp
    have hw : prWhat p = 4 := by simpa [newsB] using hw
    rcases prW (mergeF_of _ _ p hm) with ⟨_, h⟩ | ⟨_, h⟩ | ⟨_, h, _⟩ | ⟨_, _, h⟩
    · rw [h] at hw; cases hw
    · rw [h] at hw; cases hw
    · rw [h] at hw; cases hw
    · exact h
  rw [h3] at h1
  rw [newsF_eq]; omega
theorem cnt3 (l : List Pr) (hl : ∀ p ∈ l, prWhat p = 1 ∨ prWhat p = 2 ∨ prWhat p = 3 ∨ prWhat p = 4) (q : Pr → Bool) (a b c d : Bool) (hq : ∀ p ∈ l, q p = (bif prWhat p == 1 then a else bif prWhat p == 2 then b else bif prWhat p == 3 then c else d)) :
    (l.filter q).length = (bif a then cnt 1 l else 0) + (bif b then cnt 2 l else 0) + (bif c then cnt 3 l else 0) + (bif d then cnt 4 l else 0) := by
  induction l with
  | nil => cases a <;> cases b <;> cases c <;> cases d <;> rfl
  | cons p l ih =>
    have ih := ih (fun x hx => hl x (by simp [hx])) (fun x hx => hq x (by simp [hx]))
    have h1 := hq p (by simp)
    simp only [cnt] at ih ⊢
    simp only [List.filter_cons, h1]
    rcases hl p (by simp) with h | h | h | h <;> rw [h] <;> cases a <;> cases b <;> cases c <;> cases d <;> simp at ih ⊢ <;> omega
theorem mg_what (A B : List Ac) : ∀ p ∈ mergeF A B, prWhat p = 1 ∨ prWhat p = 2 ∨ prWhat p = 3 ∨ prWhat p = 4 := fun p hp => by
  rcases prW (mergeF_of _ _ p hp) with ⟨_, h⟩ | ⟨_, h⟩ | ⟨_, h, _⟩ | ⟨_, h, _⟩ <;> simp [h]
theorem mg_lenA (A B : List Ac) : A.length = cnt 2 (mergeF A B) + cnt 3 (mergeF A B) + cnt 4 (mergeF A B) := by
  have h := len_filterMap prA (fun p => !(prWhat p == 1)) (fun _ => true) (mergeF A B) (fun p hp => by
    have hw := prW (mergeF_of _ _ p hp)
    rcases hw with ⟨h1, h2⟩ | ⟨h1, h2⟩ | ⟨h1, h2, _⟩ | ⟨h1, h2, _⟩ <;> simp [prA, h1, h2])
  rw [mg_A] at h
  have h2 := cnt3 (mergeF A B) (mg_what A B) (fun p => !(prWhat p == 1)) false true true true (fun p hp => by
    rcases mg_what A B p hp with h | h | h | h <;> rw [h] <;> rfl)
  rw [h2, List.filter_eq_self.2 (fun _ _ => rfl)] at h
  simpa using h.symm
theorem mg_lenB (A B : List Ac) : B.length = cnt 1 (mergeF A B) + cnt 3 (mergeF A B) + cnt 4 (mergeF A B) := by
  have h := len_filterMap prB (fun p => !(prWhat p == 2)) (fun _ => true) (mergeF A B) (fun p hp => by
    have hw := prW (mergeF_of _ _ p hp)
    rcases hw with ⟨h1, h2⟩ | ⟨h1, h2⟩ | ⟨h1, h2, _⟩ | ⟨h1, h2, _⟩ <;> simp [prB, h1, h2])
  rw [mg_B] at h
  have h2 := cnt3 (mergeF A B) (mg_what A B) (fun p => !(prWhat p == 2)) true false true true (fun p hp => by
    rcases mg_what A B p hp with h | h | h | h <;> rw [h] <;> rfl)
  rw [h2, List.filter_eq_self.2 (fun _ _ => rfl)] at h
  simpa using h.symm
theorem cnt_news {A B : List Ac} {w : Int} (hw : w ≠ 4) : cnt w (newsF A B) = cnt w (mergeF A B) := by
  simp only [cnt, newsF_eq, List.filter_filter]
  congr 1
  refine List.filter_congr fun p _ => ?_
  by_cases h : prWhat p = w
  · simp [newsB, h, hw]
  · simp [h]
theorem news_len (A B : List Ac) : (newsF A B).length = cnt 1 (newsF A B) + cnt 2 (newsF A B) + cnt 3 (newsF A B) := by
  rw [cnt_news (by decide), cnt_news (by decide), cnt_news (by decide), newsF_eq]
  have h2 := cnt3 (mergeF A B) (mg_what A B) newsB true true true false (fun p hp => by
    rcases mg_what A B p hp with h | h | h | h <;> rw [newsB, h] <;> rfl)
  simpa using h2
def sameB (A B : List Ac) (y : Ac) : Bool := prWhat (ofP A B y.id 2) == 4
theorem same_len {A B : List Ac} (hA : Asc Ac.id A) (hB : Asc Ac.id B) : (B.filter (sameB A B)).length = cnt 4 (mergeF A B) := by
  have h := len_filterMap prB (fun p => prWhat p == 4) (sameB A B) (mergeF A B) (fun p hp => by
    cases hb : prB p with
    | none =>
      have hw := prW (mergeF_of _ _ p hp)
      rcases hw with ⟨h1, h2⟩ | ⟨h1, h2⟩ | ⟨h1, h2, _⟩ | ⟨h1, h2, _⟩
      · simp [h2]
      · simp [prB, h1] at hb
      · simp [prB, h1] at hb
      · simp [prB, h1] at hb
    | some b =>
      obtain ⟨e1, _, _⟩ := prB_id (mergeF_of _ _ p hp) hb
      simp only [Option.any_some, sameB]
      rw [e1, of_pair hA hB hp])
  rw [mg_B] at h
  exact h.symm
end Go.Eng
end
section
namespace Go.Eng
open Go Go.RowKit Go.Proofs
set_option linter.unusedVariables false
set_option linter.unusedSimpArgs false
set_option maxRecDepth 4000
theorem news_mem {A B : List Ac} {p : Pr} (hp : p ∈ newsF A B) : p ∈ mergeF A B ∧ prWhat p ≠ 4 := by
  obtain ⟨h1, h2⟩ := List.mem_filter.1 (show p ∈ (mergeF A B).filter newsB from hp)
  exact ⟨h1, by simpa [newsB] using h2⟩
theorem news_asc {A B : List Ac} (hA : Asc Ac.id A) (hB : Asc Ac.id B) : Asc prId (newsF A B) := (mg_asc A B hA hB).sublist List.filter_sublist
theorem pr_bal {A B : List Ac} {p : Pr} (hp : p ∈ mergeF A B) : p.a.bal ≤ (A.map Ac.bal).sum ∧ p.b.bal ≤ (B.map Ac.bal).sum := by
  cases mergeF_of _ _ p hp with
  | one ha => exact ⟨sum_le_of_mem (List.mem_map.2 ⟨_, ha, rfl⟩), Nat.zero_le _⟩
  | two hb => exact ⟨Nat.zero_le _, sum_le_of_mem (List.mem_map.2 ⟨_, hb, rfl⟩)⟩
  | both ha hb e => exact ⟨sum_le_of_mem (List.mem_map.2 ⟨_, ha, rfl⟩), sum_le_of_mem (List.mem_map.2 ⟨_, hb, rfl⟩)⟩
theorem news_sumA (A B : List Ac) (k : Nat) : (((newsF A B).take k).map fun p => p.a.bal).sum ≤ (A.map Ac.bal).sum := by
  have h1 := sum_split newsB (fun p => p.a.bal) (mergeF A B)
  rw [mg_sumA] at h1
  have h2 := sum_take_le ((newsF A B).map fun p => p.a.bal) k
  rw [← List.map_take] at h2
  rw [newsF_eq] at h2 ⊢; omega
theorem news_sumB (A B : List Ac) (k : Nat) : (((newsF A B).take k).map fun p => p.b.bal).sum ≤ (B.map Ac.bal).sum := by
  have h1 := sum_split newsB (fun p => p.b.bal) (mergeF A B)
  rw [mg_sumB] at h1
  have h2 := sum_take_le ((newsF A B).map fun p => p.b.bal) k
  rw [← List.map_take] at h2
  rw [newsF_eq] at h2 ⊢; omega
theorem cnt_step {l : List Pr} {k : Nat} (hk : k < l.length) (w : Int) : cnt w (l.take (k + 1)) = cnt w (l.take k) + (if prWhat (l.getD k pr0) = w then 1 else 0) := by
  simp only [cnt]
  rw [filt_step hk pr0, List.length_append]
  by_cases h : prWhat (l.getD k pr0) = w
  · rw [if_pos (by simpa using h), if_pos h]; rfl
  · rw [if_neg (by simpa using h), if_neg h]; rfl
theorem map_step {α : Type} {l : List α} {k : Nat} (hk : k < l.length) (d : α) (f : α → Nat) : ((l.take (k + 1)).map f).sum = ((l.take k).map f).sum + f (l.getD k d) := by
  rw [take_step hk d, List.map_append, List.sum_append]; simp
theorem pr_asc {l : List Pr} (h : Asc prId l) {i j : Nat} (hi : i < j) (hj : j < l.length) : idLt (prId (l.getD i pr0)) (prId (l.getD j pr0)) = true := by
  have e1 : l.getD j pr0 = l[j] := by simp [List.getD_eq_getElem?_getD, hj]
  have e2 : l.getD i pr0 = l[i] := by simp [List.getD_eq_getElem?_getD, show i < l.length by omega]
  rw [e1, e2]; exact List.pairwise_iff_getElem.1 h _ _ _ _ hi
theorem cnt_le (w : Int) (l : List Pr) (k : Nat) : cnt w (l.take k) ≤ k := Nat.le_trans (List.length_filter_le _ _) (by rw [List.length_take]; omega)
theorem chw0_at {W : World} {b c k o : Nat} {l : List Pr} (h : (ownR 42 6 (.slice (some ⟨b, 0, none⟩) l.length c) l.length (l.flatMap chC)).ok W) (hk : k < l.length) (ho : o = 0 + k * 6) : Cells W b o (chC (l.getD k pr0)) := ch_at (ownR_rowOf h) hk ho
theorem same_step {A B : List Ac} {k : Nat} (hk : k < B.length) : ((B.take (k + 1)).filter (sameB A B)).length = ((B.take k).filter (sameB A B)).length + (if sameB A B (getA B k) = true then 1 else 0) := by
  rw [show getA B k = B.getD k ac0 from rfl, take_step hk ac0, List.filter_append, List.length_append, List.filter_cons, List.filter_nil]
  by_cases h : sameB A B (B.getD k ac0) = true
  · rw [if_pos h, if_pos h]; rfl
  · rw [if_neg h, if_neg h]; rfl
theorem wsum {a b c n : Nat} (h : a + b + c = n) (hn : n ≤ 200000) : (IntKind.i64.wrap (IntKind.i64.wrap ((a : Int) + (b : Nat)) + (c : Nat)) == (n : Int)) = true := by
  rw [wrap64 (z := (a : Int) + (b : Nat)) (by omega) (by omega), wrap64 (z := (a : Int) + (b : Nat) + (c : Nat)) (by omega) (by omega)]; simp only [beq_iff_eq]; omega

theorem ut_true {cfg : Cfg} {one other : ByteArray} {w : World} (hG : Glob w) (haw : ∀ W, Glob W → RetV Tryz.prog 10 [] W (.bool true)) : RetV Tryz.prog 4 [cfg.V, .string one, .string other] w (.bool true) := by
  refine begin_ Tryz.func4 rfl rfl rfl ?_
  -- REG 1 res []
  refine xc_seq <| xc_region <| xe rfl (bx rfl rfl) fun b1 _ => xp rfl (asg rfl) <| xl_nil <| xq_then <| ?_
  -- REG 2 res ['b1']
  refine xc_seq <| xc_seq <| xc_region <| xv rfl Tryz.call10 rfl rfl (fun W hW => (haw W (hG.up hW))) <| xp rfl (un rfl uk_not) <| xl_nil <| xq_then <| xc_cond rfl (fun hc1 => ?_) (fun hc1 => ?_)
  ·
    cases hc1
  ·
    -- REG 3 res ['b1']
    refine xc_skip <| xq_then <| xc_seq <| xc_seq <| xc_region <| xp rfl (ld kd_23 rfl .head rfl) <| xp rfl (mv rfl) <| xp rfl (mv rfl) <| xe rfl (bs rfl bs_26_2) fun b2 _ => xr rfl Tryz.call11 rfl rfl (fun W hW => (great24_ok (cfg := ⟨cfg.h, cfg.w, cfg.seed⟩) (T := [one, other]) (row_of_cell strK hW .head (by simp)))) fun g hgr => xl_nil <| xq_then <| xc_cond rfl (fun hc2 => ?_) (fun hc2 => ?_)
    ·
      -- REG 4 res ['b2', 'b1']
      refine xc_seq <| xc_region <| xp rfl (asg rfl) <| xl_nil <| xq_then <| xc_ret <| xq_then_ret <| leave1 (.inl rfl) rfl (.tmp rfl) fun W hW => (⟨rfl, hW.below⟩)
    ·
      have hsm := hgr hc2
      have hs1 : one.size ≤ 4096 := by have := hsm.t one (by simp); omega
      have hs2 : other.size ≤ 4096 := by have := hsm.t other (by simp); omega
      refine xc_skip <| xq_then <| xc_seq <| xc_em (∃ h, Good2 cfg h one other) (fun hgd => ?_) (fun hgd => ?_)
      ·
        obtain ⟨h, hg⟩ := hgd
        have pl1 := placeF_ok (acc_nil h cfg.seed) hg.r1
        have pl2 := placeF_ok pl1.1 hg.r2
        have hp2 := pow_small hg.c.hh
        have n1l := pl1.1.len
        have n2l := pl2.1.len
        have hlB : (placeF cfg.seed h [] (rowsOf one h)).length + (placeF cfg.seed h (placeF cfg.seed h [] (rowsOf one h)) (rowsOf other h)).length ≤ 100000 := by omega
        have hnl : (newsF (placeF cfg.seed h [] (rowsOf one h)) (placeF cfg.seed h (placeF cfg.seed h [] (rowsOf one h)) (rowsOf other h))).length ≤ 100000 := Nat.le_trans (List.length_filter_le _ _) (Nat.le_trans (mergeF_len _ _) hlB)
        have rsL : (rootF cfg.w cfg.seed h (placeF cfg.seed h [] (rowsOf one h))).sum = ((placeF cfg.seed h [] (rowsOf one h)).map Ac.bal).sum := rootF_sum pl1.1
        have rsM : (rootF cfg.w cfg.seed h (placeF cfg.seed h (placeF cfg.seed h [] (rowsOf one h)) (rowsOf other h))).sum = ((placeF cfg.seed h (placeF cfg.seed h [] (rowsOf one h)) (rowsOf other h)).map Ac.bal).sum := rootF_sum pl2.1
        have btL := pl1.1.sum
        have btM := pl2.1.sum
        -- REG 5 res ['b2', 'b1']
        refine xc_region <| xp rfl (ld kd_23 rfl (.tail .head) rfl) <| xp rfl (mv rfl) <| xp rfl (mv rfl) <| xr rfl Tryz.call12 rfl rfl (fun W hW => (two_ok (cfg := ⟨cfg.h, cfg.w, cfg.seed⟩) (hG.up hW) hg hs1 hs2)) fun q hq => xp rfl (mv rfl) <| xp rfl (ext rfl rfl) <| xp rfl (ext rfl rfl) <| xp rfl (ext rfl rfl) <| xp rfl (asg rfl) <| xp rfl (asg rfl) <| xp rfl (asg rfl) <| xl_nil <| xq_then <| ?_
        -- REG 6 res ['sB', 'sA', 'b2', 'b1']
        refine xc_seq <| xc_seq <| xc_region <| xp rfl (mv rfl) <| xp rfl (un rfl uk_not) <| xl_nil <| xq_then <| xc_cond rfl (fun hc3 => ?_) (fun hc3 => ?_)
        ·
          cases hc3
        ·
          -- REG 7 res ['sB', 'sA', 'b2', 'b1']
          refine xc_skip <| xq_then <| xc_seq <| xc_region <| xp rfl (mv rfl) <| xp rfl (mv rfl) <| xr rfl Tryz.call15 rfl rfl (fun W hW => (news_ok (snapR_at (hW.mem_ok (.tail <| .head)) hq.1 hg.c.hh) (snapR_at (hW.mem_ok .head) hq.2 hg.c.hh) hlB)) fun n1 _ => xp rfl (asg rfl) <| xl_nil <| xq_then <| ?_
          -- REG 8 res ['n1', 'sB', 'sA', 'b2', 'b1']
          refine xc_seq <| xc_region <| xp rfl (mv rfl) <| xv rfl Tryz.call14 rfl rfl (fun W hW => (sroot_ok (snapR_at (hW.mem_ok (.tail <| .tail <| .head)) hq.1 hg.c.hh))) <| xp rfl (fd fd_37_1 rfl) <| xv rfl Tryz.call17 rfl rfl (fun W hW => (wof_ok (rootF cfg.w cfg.seed h (placeF cfg.seed h [] (rowsOf one h))).sum (by rw [rsL]; exact btL) W)) <| xp rfl (mv rfl) <| xv rfl Tryz.call14 rfl rfl (fun W hW => (sroot_ok (snapR_at (hW.mem_ok (.tail <| .head)) hq.2 hg.c.hh))) <| xp rfl (fd fd_37_1 rfl) <| xv rfl Tryz.call17 rfl rfl (fun W hW => (wof_ok (rootF cfg.w cfg.seed h (placeF cfg.seed h (placeF cfg.seed h [] (rowsOf one h)) (rowsOf other h))).sum (by rw [rsM]; exact btM) W)) <| xe rfl (al zo_46) fun b3 _ => xe rfl (al zo_46) fun b4 _ => xs (st sz_46 rfl rfl rfl rfl (.tail .head) rfl rfl) <| xs (st sz_46 rfl rfl rfl rfl .head rfl rfl) <| xl_nil <| xq_then <| ?_
          -- REG 9 res ['b4', 'b3', 'n1', 'sB', 'sA', 'b2', 'b1']
          refine xc_seq <| xc_region <| xp rfl (asg rfl) <| xp rfl (asg rfl) <| xp rfl (asg rfl) <| xl_nil <| xq_then <| ?_
          -- REG 10 res ['b4', 'b3', 'n1', 'sB', 'sA', 'b2', 'b1']
          refine xc_seq <| xc_seq <| xc_region <| xp rfl (asg rfl) <| xl_nil <| xq_then <| xc_block <| xc_loopP (σ := Nat) (fun k => [(13, .int .i64 (cnt 1 ((newsF (placeF cfg.seed h [] (rowsOf one h)) (placeF cfg.seed h (placeF cfg.seed h [] (rowsOf one h)) (rowsOf other h))).take k) : Nat)), (14, .int .i64 (cnt 2 ((newsF (placeF cfg.seed h [] (rowsOf one h)) (placeF cfg.seed h (placeF cfg.seed h [] (rowsOf one h)) (rowsOf other h))).take k) : Nat)), (15, .int .i64 (cnt 3 ((newsF (placeF cfg.seed h [] (rowsOf one h)) (placeF cfg.seed h (placeF cfg.seed h [] (rowsOf one h)) (rowsOf other h))).take k) : Nat)), (16, .int .i64 k), (7, _), (8, _), (10, _), (11, _), (12, _)]) (fun k => k ≤ (newsF (placeF cfg.seed h [] (rowsOf one h)) (placeF cfg.seed h (placeF cfg.seed h [] (rowsOf one h)) (rowsOf other h))).length) (fun k => HP w [cellR b4 46 (wdc ((rootF cfg.w cfg.seed h (placeF cfg.seed h (placeF cfg.seed h [] (rowsOf one h)) (rowsOf other h))).sum + (((newsF (placeF cfg.seed h [] (rowsOf one h)) (placeF cfg.seed h (placeF cfg.seed h [] (rowsOf one h)) (rowsOf other h))).take k).map fun p => p.a.bal).sum)), cellR b3 46 (wdc ((rootF cfg.w cfg.seed h (placeF cfg.seed h [] (rowsOf one h))).sum + (((newsF (placeF cfg.seed h [] (rowsOf one h)) (placeF cfg.seed h (placeF cfg.seed h [] (rowsOf one h)) (rowsOf other h))).take k).map fun p => p.b.bal).sum)), ownR 42 6 (.slice n1.1 (newsF (placeF cfg.seed h [] (rowsOf one h)) (placeF cfg.seed h (placeF cfg.seed h [] (rowsOf one h)) (rowsOf other h))).length n1.2) (newsF (placeF cfg.seed h [] (rowsOf one h)) (placeF cfg.seed h (placeF cfg.seed h [] (rowsOf one h)) (rowsOf other h))).length ((newsF (placeF cfg.seed h [] (rowsOf one h)) (placeF cfg.seed h (placeF cfg.seed h [] (rowsOf one h)) (rowsOf other h))).flatMap chC), snapR cfg h (placeF cfg.seed h (placeF cfg.seed h [] (rowsOf one h)) (rowsOf other h)) q.2, snapR cfg h (placeF cfg.seed h [] (rowsOf one h)) q.1]) (fun k => (newsF (placeF cfg.seed h [] (rowsOf one h)) (placeF cfg.seed h (placeF cfg.seed h [] (rowsOf one h)) (rowsOf other h))).length - k) 0 (Nat.zero_le _) (sc rfl <| sc rfl <| sc rfl <| sc rfl <| sc rfl <| sc rfl <| sc rfl <| sc rfl <| sc rfl <| sn) (fun W hW => hW.sub (.cons_cons _ <| .cons_cons _ <| .cons_cons _ <| .cons_cons _ <| .cons_cons _ <| List.nil_sublist _)) fun k hk => ?_
          have sA := news_sumA (placeF cfg.seed h [] (rowsOf one h)) (placeF cfg.seed h (placeF cfg.seed h [] (rowsOf one h)) (rowsOf other h)) k
          have sB := news_sumB (placeF cfg.seed h [] (rowsOf one h)) (placeF cfg.seed h (placeF cfg.seed h [] (rowsOf one h)) (rowsOf other h)) k
          -- REG 11 res ['b4', 'b3', 'n1', 'sB', 'sA']
          refine xc_seq <| xc_seq <| xc_region <| xp rfl (mv rfl) <| xp rfl (mv rfl) <| xp rfl (lenv Tryz.underlying39 rfl) <| xp rfl (bin rfl rfl bk_lss) <| xl_nil <| xq_then <| xc_cond rfl (fun hc4 => ?_) (fun hc4 => ?_)
          ·
            have hk1 : k < (newsF (placeF cfg.seed h [] (rowsOf one h)) (placeF cfg.seed h (placeF cfg.seed h [] (rowsOf one h)) (rowsOf other h))).length := Int.ofNat_lt.1 (show (k : Int) < ((newsF (placeF cfg.seed h [] (rowsOf one h)) (placeF cfg.seed h (placeF cfg.seed h [] (rowsOf one h)) (rowsOf other h))).length : Nat) from of_decide_eq_true hc4)
            obtain ⟨hpm, hp4⟩ := news_mem (getD_mem hk1 pr0)
            have hne : prWhat ((newsF (placeF cfg.seed h [] (rowsOf one h)) (placeF cfg.seed h (placeF cfg.seed h [] (rowsOf one h)) (rowsOf other h))).getD k pr0) = 3 → ((newsF (placeF cfg.seed h [] (rowsOf one h)) (placeF cfg.seed h (placeF cfg.seed h [] (rowsOf one h)) (rowsOf other h))).getD k pr0).a.bal ≠ ((newsF (placeF cfg.seed h [] (rowsOf one h)) (placeF cfg.seed h (placeF cfg.seed h [] (rowsOf one h)) (rowsOf other h))).getD k pr0).b.bal := fun h5 => by rcases prW (mergeF_of _ _ _ hpm) with ⟨_, h⟩ | ⟨_, h⟩ | ⟨_, _, h⟩ | ⟨_, h, _⟩; rw [h] at h5; cases h5; rw [h] at h5; cases h5; exact h; rw [h] at h5; cases h5
            have ew : 0 < k → IntKind.i64.wrap ((k : Int) - 1) = ((k - 1 : Nat) : Int) := fun _ => w64 (by omega) (by omega)
            have k72 : 0 < k → (!Op.bytesLess (prId ((newsF (placeF cfg.seed h [] (rowsOf one h)) (placeF cfg.seed h (placeF cfg.seed h [] (rowsOf one h)) (rowsOf other h))).getD (k - 1) pr0)).toList (prId ((newsF (placeF cfg.seed h [] (rowsOf one h)) (placeF cfg.seed h (placeF cfg.seed h [] (rowsOf one h)) (rowsOf other h))).getD k pr0)).toList) = false := fun h => by rw [idLt_bytes, pr_asc (news_asc pl1.1.asc pl2.1.asc) (by omega) hk1]; rfl
            have k82 : (prWhat (ofP (placeF cfg.seed h [] (rowsOf one h)) (placeF cfg.seed h (placeF cfg.seed h [] (rowsOf one h)) (rowsOf other h)) (prId ((newsF (placeF cfg.seed h [] (rowsOf one h)) (placeF cfg.seed h (placeF cfg.seed h [] (rowsOf one h)) (rowsOf other h))).getD k pr0)) 2) != prWhat ((newsF (placeF cfg.seed h [] (rowsOf one h)) (placeF cfg.seed h (placeF cfg.seed h [] (rowsOf one h)) (rowsOf other h))).getD k pr0)) = false := by rw [of_pair pl1.1.asc pl2.1.asc hpm]; simp
            have pb := pr_bal hpm
            have hbA : ((newsF (placeF cfg.seed h [] (rowsOf one h)) (placeF cfg.seed h (placeF cfg.seed h [] (rowsOf one h)) (rowsOf other h))).getD k pr0).a.bal < BB := Nat.lt_of_le_of_lt pb.1 btL
            have hbB : ((newsF (placeF cfg.seed h [] (rowsOf one h)) (placeF cfg.seed h (placeF cfg.seed h [] (rowsOf one h)) (rowsOf other h))).getD k pr0).b.bal < BB := Nat.lt_of_le_of_lt pb.2 btM
            have hx : ((rootF cfg.w cfg.seed h (placeF cfg.seed h [] (rowsOf one h))).sum + (((newsF (placeF cfg.seed h [] (rowsOf one h)) (placeF cfg.seed h (placeF cfg.seed h [] (rowsOf one h)) (rowsOf other h))).take k).map fun p => p.b.bal).sum) + ((newsF (placeF cfg.seed h [] (rowsOf one h)) (placeF cfg.seed h (placeF cfg.seed h [] (rowsOf one h)) (rowsOf other h))).getD k pr0).b.bal < 6277101735386680763835789423207666416102355444464034512896 := by rw [rsL]; simp only [BB] at *; omega
            have hy : ((rootF cfg.w cfg.seed h (placeF cfg.seed h (placeF cfg.seed h [] (rowsOf one h)) (rowsOf other h))).sum + (((newsF (placeF cfg.seed h [] (rowsOf one h)) (placeF cfg.seed h (placeF cfg.seed h [] (rowsOf one h)) (rowsOf other h))).take k).map fun p => p.a.bal).sum) + ((newsF (placeF cfg.seed h [] (rowsOf one h)) (placeF cfg.seed h (placeF cfg.seed h [] (rowsOf one h)) (rowsOf other h))).getD k pr0).a.bal < 6277101735386680763835789423207666416102355444464034512896 := by rw [rsM]; simp only [BB] at *; omega
            have sx := map_step hk1 pr0 (fun p => p.b.bal)
            have sy := map_step hk1 pr0 (fun p => p.a.bal)
            have q1 := cnt_le 1 (newsF (placeF cfg.seed h [] (rowsOf one h)) (placeF cfg.seed h (placeF cfg.seed h [] (rowsOf one h)) (rowsOf other h))) k
            have q2 := cnt_le 2 (newsF (placeF cfg.seed h [] (rowsOf one h)) (placeF cfg.seed h (placeF cfg.seed h [] (rowsOf one h)) (rowsOf other h))) k
            have q3 := cnt_le 3 (newsF (placeF cfg.seed h [] (rowsOf one h)) (placeF cfg.seed h (placeF cfg.seed h [] (rowsOf one h)) (rowsOf other h))) k
            refine xc_skip <| xq_then <| xc_seq <| xc_block <| xc_seq <| xc_em (0 < k) (fun hkp => ?_) (fun hkp => ?_)
            ·
              refine xc_row (.tail <| .tail .head) (by omega) fun nb hnb hnc => ?_
              obtain ⟨n2a, n2b⟩ := n1
              simp only at hnb
              subst hnb
              dsimp only
              -- REG 12 res ['b4', 'b3', 'n1', 'sB', 'sA']
              refine xc_region <| xp rfl (mv rfl) <| xp rfl (mv rfl) <| xp rfl (ix so_39 rfl rfl (by first | omega | (rw [ew hkp]; omega)) (by first | omega | (rw [ew hkp]; omega))) <| xp rfl (ldc kd_42 rfl (vs := _) (fun W hW => chw0_at (hW.mem_ok (.tail <| .tail .head)) hk1 (by simp)) rfl) <| xe rfl (al zo_42) fun b5 _ => xs (st sz_42 rfl rfl rfl rfl .head rfl rfl) <| xl_nil <| xq_then <| ?_
              refine xc_seq <| xc_seq <| xc_em (prWhat ((newsF (placeF cfg.seed h [] (rowsOf one h)) (placeF cfg.seed h (placeF cfg.seed h [] (rowsOf one h)) (rowsOf other h))).getD k pr0) = 3) (fun hw3 => ?_) (fun hw3 => ?_)
              ·
                -- REG 13 res ['b5', 'b4', 'b3', 'n1', 'sB', 'sA']
                refine xc_draw (canon := [(0, .p), (1, .p), (2, .p), (3, .p), (4, .p), (5, .p), (6, .p), (7, .p), (8, .p), (9, .p), (10, .p), (11, .p), (12, .p), (13, .p), (14, .p), (15, .p), (16, .p), (17, .p), (18, .p), (19, .p), (20, .p), (21, .p), (22, .p), (23, .p), (24, .p), (25, .p), (26, .p), (27, .p), (28, .p), (29, .p), (30, .p), (31, .p), (32, .p), (33, .p), (34, .p)]) (Z := HP _ [cellR b5 _ _, cellR b4 _ _, cellR b3 _ _, _, _, _]) mixed_ rfl (akp <| akp <| akp <| akp <| akp <| akp <| akp <| akp <| akp <| akp <| akp <| akp <| akp <| akp <| akp <| akp <| akp <| akp <| akp <| akp <| akp <| akp <| akp <| akp <| akp <| akp <| akp <| akp <| akp <| akp <| akp <| akp <| akp <| akp <| akp <| ak0) (zsub (.cons_cons _ <| .cons_cons _ <| .cons_cons _ <| .cons_cons _ <| .cons_cons _ <| .cons_cons _ <| List.nil_sublist _)) ?_
                refine dp rfl rfl rfl rfl (mv rfl) <| dp rfl rfl rfl rfl (bin rfl rfl bk_gtr) <| dp rfl rfl rfl rfl (mv rfl) <| dpT rfl rfl rfl rfl rfl rfl (decide_eq_true (Int.natCast_pos.2 hkp)) (mv rfl) <| dpT rfl rfl rfl rfl rfl rfl (decide_eq_true (Int.natCast_pos.2 hkp)) (mv rfl) <| dpT rfl rfl rfl rfl rfl rfl (decide_eq_true (Int.natCast_pos.2 hkp)) (bin rfl rfl bk_sub) <| dpT rfl rfl rfl rfl rfl rfl (decide_eq_true (Int.natCast_pos.2 hkp)) (ix so_39 rfl rfl (by first | omega | (rw [ew hkp]; omega)) (by first | omega | (rw [ew hkp]; omega))) <| dpT rfl rfl rfl rfl rfl rfl (decide_eq_true (Int.natCast_pos.2 hkp)) (fa fa_42_0 rfl) <| dpT rfl rfl rfl rfl rfl rfl (decide_eq_true (Int.natCast_pos.2 hkp)) (ldc kd_9 rfl (vs := _) (fun W hW => chw0_at (hW.mem_ok (.tail <| .tail <| .tail <| .head)) (k := k - 1) (by omega) (by rw [ew hkp]; simp)) rfl) <| dpT rfl rfl rfl rfl rfl rfl (decide_eq_true (Int.natCast_pos.2 hkp)) (fa fa_42_0 rfl) <| dpT rfl rfl rfl rfl rfl rfl (decide_eq_true (Int.natCast_pos.2 hkp)) (ld kd_9 rfl .head rfl) <| dpT rfl rfl rfl rfl rfl rfl (decide_eq_true (Int.natCast_pos.2 hkp)) (bin rfl rfl bk_sgeq) <| dp rfl rfl rfl rfl (pickT rfl (decide_eq_true (Int.natCast_pos.2 hkp)) rfl) <| dp rfl rfl rfl rfl (mv rfl) <| dpT rfl rfl rfl rfl rfl rfl (k72 hkp) (mv rfl) <| dpT rfl rfl rfl rfl rfl rfl (k72 hkp) (mv rfl) <| dpT rfl rfl rfl rfl rfl rfl (k72 hkp) (fa fa_42_0 rfl) <| dpT rfl rfl rfl rfl rfl rfl (k72 hkp) (ld kd_9 rfl .head rfl) <| dqT rfl rfl rfl rfl rfl rfl (k72 hkp) rfl Tryz.call18 rfl rfl (fun W hW => (uof_ok (snapR_at (hW.mem_ok (.tail <| .tail <| .tail <| .tail <| .tail <| .head)) hq.1 hg.c.hh) (snapR_at (hW.mem_ok (.tail <| .tail <| .tail <| .tail <| .head)) hq.2 hg.c.hh) pl1.1.asc pl2.1.asc (by omega) (by omega))) <| dpT rfl rfl rfl rfl rfl rfl (k72 hkp) (fa fa_42_1 rfl) <| dpT rfl rfl rfl rfl rfl rfl (k72 hkp) (ld kd_5 rfl .head rfl) <| dpT rfl rfl rfl rfl rfl rfl (k72 hkp) (bin rfl rfl bk_neq) <| dp rfl rfl rfl rfl (pickF rfl (k72 hkp) rfl) <| dp rfl rfl rfl rfl (mv rfl) <| dpT rfl rfl rfl rfl rfl rfl k82 (fa fa_42_1 rfl) <| dpT rfl rfl rfl rfl rfl rfl k82 (ld kd_5 rfl .head rfl) <| dpT rfl rfl rfl rfl rfl rfl k82 (bin rfl rfl bk_eql) <| dpT rfl rfl rfl rfl rfl rfl k82 (mv rfl) <| dpT rfl rfl rfl rfl rfl rfl (beq_iff_eq.2 hw3) (fa fa_42_2 rfl) <| dpT rfl rfl rfl rfl rfl rfl (beq_iff_eq.2 hw3) (ld kd_35 rfl .head rfl) <| dpT rfl rfl rfl rfl rfl rfl (beq_iff_eq.2 hw3) (fa fa_42_3 rfl) <| dpT rfl rfl rfl rfl rfl rfl (beq_iff_eq.2 hw3) (ld kd_35 rfl .head rfl) <| dpT rfl rfl rfl rfl rfl rfl (beq_iff_eq.2 hw3) (bin rfl rfl bk_aggeql_35) <| dpT rfl rfl rfl rfl rfl rfl k82 (pickT rfl (beq_iff_eq.2 hw3) rfl) <| dp rfl rfl rfl rfl (pickF rfl k82 rfl) <| dend <| xq_then <| xc_cond rfl (fun hc5 => ?_) (fun hc5 => ?_)
                ·
                  exfalso; first | cases hc5 | exact hne hw3 (balEq_iff.1 hc5)
                ·
                  -- REG 14 res ['b5', 'b4', 'b3', 'n1', 'sB', 'sA']
                  refine xc_skip <| xq_then <| xc_seq <| xc_draw (canon := [(0, .l), (1, .p), (2, .p), (3, .p), (5, .p), (6, .p), (4, .y), (7, .p), (8, .x), (9, .x)]) (Z := HP _ [cellR b5 _ _, _, _, _]) mixed_ rfl (akl <| akp <| akp <| akp <| akp <| akp <| aky <| akp <| akx <| akx <| ak0) (zsub (.cons_cons _ <| .cons _ <| .cons _ <| .cons_cons _ <| .cons_cons _ <| .cons_cons _ <| List.nil_sublist _)) ?_
                  refine dl rfl rfl rfl rfl (ld kd_46 rfl (.tail <| .tail .head) rfl) <| dp rfl rfl rfl rfl (fa fa_42_3 rfl) <| dp rfl rfl rfl rfl (ld kd_35 rfl .head rfl) <| dq rfl rfl rfl rfl rfl Tryz.call19 rfl rfl (fun W hW => (wplus_ok ((rootF cfg.w cfg.seed h (placeF cfg.seed h [] (rowsOf one h))).sum + (((newsF (placeF cfg.seed h [] (rowsOf one h)) (placeF cfg.seed h (placeF cfg.seed h [] (rowsOf one h)) (rowsOf other h))).take k).map fun p => p.b.bal).sum) ((newsF (placeF cfg.seed h [] (rowsOf one h)) (placeF cfg.seed h (placeF cfg.seed h [] (rowsOf one h)) (rowsOf other h))).getD k pr0).b.bal hbB hx W)) <| dp rfl rfl rfl rfl (fa fa_42_2 rfl) <| dp rfl rfl rfl rfl (ld kd_35 rfl .head rfl) <| dasy rfl rfl rfl rfl (ld kd_46 rfl (.tail .head) rfl) (zsub (.cons_cons _ <| .cons _ <| .cons _ <| .cons_cons _ <| .cons_cons _ <| .cons_cons _ <| List.nil_sublist _)) <| dq rfl rfl rfl rfl rfl Tryz.call19 rfl rfl (fun W hW => (wplus_ok ((rootF cfg.w cfg.seed h (placeF cfg.seed h (placeF cfg.seed h [] (rowsOf one h)) (rowsOf other h))).sum + (((newsF (placeF cfg.seed h [] (rowsOf one h)) (placeF cfg.seed h (placeF cfg.seed h [] (rowsOf one h)) (rowsOf other h))).take k).map fun p => p.a.bal).sum) ((newsF (placeF cfg.seed h [] (rowsOf one h)) (placeF cfg.seed h (placeF cfg.seed h [] (rowsOf one h)) (rowsOf other h))).getD k pr0).a.bal hbA hy W)) <| dst_ rfl rfl rfl rfl sz_46 rfl rfl rfl rfl (.tail <| .tail .head) rfl rfl (zsub (.cons_cons _ <| .cons _ <| .cons _ <| .cons_cons _ <| .cons_cons _ <| .cons_cons _ <| List.nil_sublist _)) <| dst_ rfl rfl rfl rfl sz_46 rfl rfl rfl rfl (.tail .head) rfl rfl (zsub (.cons_cons _ <| .cons _ <| .cons _ <| .cons_cons _ <| .cons_cons _ <| .cons_cons _ <| List.nil_sublist _)) <| dend <| xq_then <| ?_
                  -- REG 15 res ['b5', 'b4', 'b3', 'n1', 'sB', 'sA']
                  refine xc_seq <| xc_region <| xp rfl (fa fa_42_1 rfl) <| xp rfl (ld kd_5 rfl .head rfl) <| xl_nil <| xq_then <| ?_
                  -- REG 16 res ['b5', 'b4', 'b3', 'n1', 'sB', 'sA']
                  refine xc_block <| xc_seq <| xc_region <| xp rfl (bin rfl rfl bk_eql) <| xp rfl (asg rfl) <| xl_nil <| xq_then <| xc_cond rfl (fun hc6 => ?_) (fun hc6 => ?_)
                  ·
                    have hwq : prWhat ((newsF (placeF cfg.seed h [] (rowsOf one h)) (placeF cfg.seed h (placeF cfg.seed h [] (rowsOf one h)) (rowsOf other h))).getD k pr0) = 1 := by simpa using hc6
                    have c1 : cnt 1 ((newsF (placeF cfg.seed h [] (rowsOf one h)) (placeF cfg.seed h (placeF cfg.seed h [] (rowsOf one h)) (rowsOf other h))).take (k + 1)) = cnt 1 ((newsF (placeF cfg.seed h [] (rowsOf one h)) (placeF cfg.seed h (placeF cfg.seed h [] (rowsOf one h)) (rowsOf other h))).take k) + 1 := by rw [cnt_step hk1, hwq]; simp
                    have c2 : cnt 2 ((newsF (placeF cfg.seed h [] (rowsOf one h)) (placeF cfg.seed h (placeF cfg.seed h [] (rowsOf one h)) (rowsOf other h))).take (k + 1)) = cnt 2 ((newsF (placeF cfg.seed h [] (rowsOf one h)) (placeF cfg.seed h (placeF cfg.seed h [] (rowsOf one h)) (rowsOf other h))).take k) := by rw [cnt_step hk1, hwq]; simp
                    have c3 : cnt 3 ((newsF (placeF cfg.seed h [] (rowsOf one h)) (placeF cfg.seed h (placeF cfg.seed h [] (rowsOf one h)) (rowsOf other h))).take (k + 1)) = cnt 3 ((newsF (placeF cfg.seed h [] (rowsOf one h)) (placeF cfg.seed h (placeF cfg.seed h [] (rowsOf one h)) (rowsOf other h))).take k) := by rw [cnt_step hk1, hwq]; simp
                    -- REG 17 res ['b5', 'b4', 'b3', 'n1', 'sB', 'sA']
                    refine xc_region <| xp rfl (mv rfl) <| xp rfl (bin rfl rfl bk_add) <| xp rfl (asg rfl) <| xl_nil <| xq_in <| xq_in <| xq_then <| ?_
                    -- REG 18 res ['b5', 'b4', 'b3', 'n1', 'sB', 'sA']
                    refine xc_region <| xp rfl (mv rfl) <| xp rfl (bin rfl rfl bk_add) <| xp rfl (asg rfl) <| xl_nil <| xq_roundP (k + 1) hk1 (by omega) (sc ((by first | rfl | (rw [c1]; rfl) | (rw [c1]; exact iw (by omega) (by omega) (by omega) rfl))) <| sc ((by first | rfl | (rw [c2]; rfl) | (rw [c2]; exact iw (by omega) (by omega) (by omega) rfl))) <| sc ((by first | rfl | (rw [c3]; rfl) | (rw [c3]; exact iw (by omega) (by omega) (by omega) rfl))) <| sc (iw (by omega) (by omega) (by omega) rfl) <| sc rfl <| sc rfl <| sc rfl <| sc rfl <| sc rfl <| sn) (fun W hW => by rw [sx, sy, ← Nat.add_assoc, ← Nat.add_assoc]; exact hW.drop)
                  ·
                    -- REG 19 res ['b5', 'b4', 'b3', 'n1', 'sB', 'sA']
                    refine xc_seq <| xc_region <| xp rfl (bin rfl rfl bk_eql) <| xp rfl (asg rfl) <| xl_nil <| xq_then <| xc_cond rfl (fun hc7 => ?_) (fun hc7 => ?_)
                    ·
                      have hwq : prWhat ((newsF (placeF cfg.seed h [] (rowsOf one h)) (placeF cfg.seed h (placeF cfg.seed h [] (rowsOf one h)) (rowsOf other h))).getD k pr0) = 2 := by simpa using hc7
                      have c1 : cnt 1 ((newsF (placeF cfg.seed h [] (rowsOf one h)) (placeF cfg.seed h (placeF cfg.seed h [] (rowsOf one h)) (rowsOf other h))).take (k + 1)) = cnt 1 ((newsF (placeF cfg.seed h [] (rowsOf one h)) (placeF cfg.seed h (placeF cfg.seed h [] (rowsOf one h)) (rowsOf other h))).take k) := by rw [cnt_step hk1, hwq]; simp
                      have c2 : cnt 2 ((newsF (placeF cfg.seed h [] (rowsOf one h)) (placeF cfg.seed h (placeF cfg.seed h [] (rowsOf one h)) (rowsOf other h))).take (k + 1)) = cnt 2 ((newsF (placeF cfg.seed h [] (rowsOf one h)) (placeF cfg.seed h (placeF cfg.seed h [] (rowsOf one h)) (rowsOf other h))).take k) + 1 := by rw [cnt_step hk1, hwq]; simp
                      have c3 : cnt 3 ((newsF (placeF cfg.seed h [] (rowsOf one h)) (placeF cfg.seed h (placeF cfg.seed h [] (rowsOf one h)) (rowsOf other h))).take (k + 1)) = cnt 3 ((newsF (placeF cfg.seed h [] (rowsOf one h)) (placeF cfg.seed h (placeF cfg.seed h [] (rowsOf one h)) (rowsOf other h))).take k) := by rw [cnt_step hk1, hwq]; simp
                      -- REG 20 res ['b5', 'b4', 'b3', 'n1', 'sB', 'sA']
                      refine xc_region <| xp rfl (mv rfl) <| xp rfl (bin rfl rfl bk_add) <| xp rfl (asg rfl) <| xl_nil <| xq_in <| xq_in <| xq_then <| ?_
                      -- REG 21 res ['b5', 'b4', 'b3', 'n1', 'sB', 'sA']
                      refine xc_region <| xp rfl (mv rfl) <| xp rfl (bin rfl rfl bk_add) <| xp rfl (asg rfl) <| xl_nil <| xq_roundP (k + 1) hk1 (by omega) (sc ((by first | rfl | (rw [c1]; rfl) | (rw [c1]; exact iw (by omega) (by omega) (by omega) rfl))) <| sc ((by first | rfl | (rw [c2]; rfl) | (rw [c2]; exact iw (by omega) (by omega) (by omega) rfl))) <| sc ((by first | rfl | (rw [c3]; rfl) | (rw [c3]; exact iw (by omega) (by omega) (by omega) rfl))) <| sc (iw (by omega) (by omega) (by omega) rfl) <| sc rfl <| sc rfl <| sc rfl <| sc rfl <| sc rfl <| sn) (fun W hW => by rw [sx, sy, ← Nat.add_assoc, ← Nat.add_assoc]; exact hW.drop)
                    ·
                      -- REG 22 res ['b5', 'b4', 'b3', 'n1', 'sB', 'sA']
                      refine xc_seq <| xc_region <| xp rfl (bin rfl rfl bk_eql) <| xp rfl (asg rfl) <| xl_nil <| xq_then <| xc_cond rfl (fun hc8 => ?_) (fun hc8 => ?_)
                      ·
                        have hwq : prWhat ((newsF (placeF cfg.seed h [] (rowsOf one h)) (placeF cfg.seed h (placeF cfg.seed h [] (rowsOf one h)) (rowsOf other h))).getD k pr0) = 3 := by simpa using hc8
                        have c1 : cnt 1 ((newsF (placeF cfg.seed h [] (rowsOf one h)) (placeF cfg.seed h (placeF cfg.seed h [] (rowsOf one h)) (rowsOf other h))).take (k + 1)) = cnt 1 ((newsF (placeF cfg.seed h [] (rowsOf one h)) (placeF cfg.seed h (placeF cfg.seed h [] (rowsOf one h)) (rowsOf other h))).take k) := by rw [cnt_step hk1, hwq]; simp
                        have c2 : cnt 2 ((newsF (placeF cfg.seed h [] (rowsOf one h)) (placeF cfg.seed h (placeF cfg.seed h [] (rowsOf one h)) (rowsOf other h))).take (k + 1)) = cnt 2 ((newsF (placeF cfg.seed h [] (rowsOf one h)) (placeF cfg.seed h (placeF cfg.seed h [] (rowsOf one h)) (rowsOf other h))).take k) := by rw [cnt_step hk1, hwq]; simp
                        have c3 : cnt 3 ((newsF (placeF cfg.seed h [] (rowsOf one h)) (placeF cfg.seed h (placeF cfg.seed h [] (rowsOf one h)) (rowsOf other h))).take (k + 1)) = cnt 3 ((newsF (placeF cfg.seed h [] (rowsOf one h)) (placeF cfg.seed h (placeF cfg.seed h [] (rowsOf one h)) (rowsOf other h))).take k) + 1 := by rw [cnt_step hk1, hwq]; simp
                        -- REG 23 res ['b5', 'b4', 'b3', 'n1', 'sB', 'sA']
                        refine xc_region <| xp rfl (mv rfl) <| xp rfl (bin rfl rfl bk_add) <| xp rfl (asg rfl) <| xl_nil <| xq_in <| xq_in <| xq_then <| ?_
                        -- REG 24 res ['b5', 'b4', 'b3', 'n1', 'sB', 'sA']
                        refine xc_region <| xp rfl (mv rfl) <| xp rfl (bin rfl rfl bk_add) <| xp rfl (asg rfl) <| xl_nil <| xq_roundP (k + 1) hk1 (by omega) (sc ((by first | rfl | (rw [c1]; rfl) | (rw [c1]; exact iw (by omega) (by omega) (by omega) rfl))) <| sc ((by first | rfl | (rw [c2]; rfl) | (rw [c2]; exact iw (by omega) (by omega) (by omega) rfl))) <| sc ((by first | rfl | (rw [c3]; rfl) | (rw [c3]; exact iw (by omega) (by omega) (by omega) rfl))) <| sc (iw (by omega) (by omega) (by omega) rfl) <| sc rfl <| sc rfl <| sc rfl <| sc rfl <| sc rfl <| sn) (fun W hW => by rw [sx, sy, ← Nat.add_assoc, ← Nat.add_assoc]; exact hW.drop)
                      ·
                        exfalso; simp at hc6 hc7 hc8; rcases mg_what _ _ _ hpm with h5 | h5 | h5 | h5 <;> first | exact hc6 h5 | exact hc7 h5 | exact hc8 h5 | exact hp4 h5
              ·
                -- REG 13 res ['b5', 'b4', 'b3', 'n1', 'sB', 'sA']
                refine xc_draw (canon := [(0, .p), (1, .p), (2, .p), (3, .p), (4, .p), (5, .p), (6, .p), (7, .p), (8, .p), (9, .p), (10, .p), (11, .p), (12, .p), (13, .p), (14, .p), (15, .p), (16, .p), (17, .p), (18, .p), (19, .p), (20, .p), (21, .p), (22, .p), (23, .p), (24, .p), (25, .p), (26, .p), (27, .p), (28, .p), (29, .p), (30, .p), (31, .p), (32, .p), (33, .p), (34, .p)]) (Z := HP _ [cellR b5 _ _, cellR b4 _ _, cellR b3 _ _, _, _, _]) mixed_ rfl (akp <| akp <| akp <| akp <| akp <| akp <| akp <| akp <| akp <| akp <| akp <| akp <| akp <| akp <| akp <| akp <| akp <| akp <| akp <| akp <| akp <| akp <| akp <| akp <| akp <| akp <| akp <| akp <| akp <| akp <| akp <| akp <| akp <| akp <| akp <| ak0) (zsub (.cons_cons _ <| .cons_cons _ <| .cons_cons _ <| .cons_cons _ <| .cons_cons _ <| .cons_cons _ <| List.nil_sublist _)) ?_
                refine dp rfl rfl rfl rfl (mv rfl) <| dp rfl rfl rfl rfl (bin rfl rfl bk_gtr) <| dp rfl rfl rfl rfl (mv rfl) <| dpT rfl rfl rfl rfl rfl rfl (decide_eq_true (Int.natCast_pos.2 hkp)) (mv rfl) <| dpT rfl rfl rfl rfl rfl rfl (decide_eq_true (Int.natCast_pos.2 hkp)) (mv rfl) <| dpT rfl rfl rfl rfl rfl rfl (decide_eq_true (Int.natCast_pos.2 hkp)) (bin rfl rfl bk_sub) <| dpT rfl rfl rfl rfl rfl rfl (decide_eq_true (Int.natCast_pos.2 hkp)) (ix so_39 rfl rfl (by first | omega | (rw [ew hkp]; omega)) (by first | omega | (rw [ew hkp]; omega))) <| dpT rfl rfl rfl rfl rfl rfl (decide_eq_true (Int.natCast_pos.2 hkp)) (fa fa_42_0 rfl) <| dpT rfl rfl rfl rfl rfl rfl (decide_eq_true (Int.natCast_pos.2 hkp)) (ldc kd_9 rfl (vs := _) (fun W hW => chw0_at (hW.mem_ok (.tail <| .tail <| .tail <| .head)) (k := k - 1) (by omega) (by rw [ew hkp]; simp)) rfl) <| dpT rfl rfl rfl rfl rfl rfl (decide_eq_true (Int.natCast_pos.2 hkp)) (fa fa_42_0 rfl) <| dpT rfl rfl rfl rfl rfl rfl (decide_eq_true (Int.natCast_pos.2 hkp)) (ld kd_9 rfl .head rfl) <| dpT rfl rfl rfl rfl rfl rfl (decide_eq_true (Int.natCast_pos.2 hkp)) (bin rfl rfl bk_sgeq) <| dp rfl rfl rfl rfl (pickT rfl (decide_eq_true (Int.natCast_pos.2 hkp)) rfl) <| dp rfl rfl rfl rfl (mv rfl) <| dpT rfl rfl rfl rfl rfl rfl (k72 hkp) (mv rfl) <| dpT rfl rfl rfl rfl rfl rfl (k72 hkp) (mv rfl) <| dpT rfl rfl rfl rfl rfl rfl (k72 hkp) (fa fa_42_0 rfl) <| dpT rfl rfl rfl rfl rfl rfl (k72 hkp) (ld kd_9 rfl .head rfl) <| dqT rfl rfl rfl rfl rfl rfl (k72 hkp) rfl Tryz.call18 rfl rfl (fun W hW => (uof_ok (snapR_at (hW.mem_ok (.tail <| .tail <| .tail <| .tail <| .tail <| .head)) hq.1 hg.c.hh) (snapR_at (hW.mem_ok (.tail <| .tail <| .tail <| .tail <| .head)) hq.2 hg.c.hh) pl1.1.asc pl2.1.asc (by omega) (by omega))) <| dpT rfl rfl rfl rfl rfl rfl (k72 hkp) (fa fa_42_1 rfl) <| dpT rfl rfl rfl rfl rfl rfl (k72 hkp) (ld kd_5 rfl .head rfl) <| dpT rfl rfl rfl rfl rfl rfl (k72 hkp) (bin rfl rfl bk_neq) <| dp rfl rfl rfl rfl (pickF rfl (k72 hkp) rfl) <| dp rfl rfl rfl rfl (mv rfl) <| dpT rfl rfl rfl rfl rfl rfl k82 (fa fa_42_1 rfl) <| dpT rfl rfl rfl rfl rfl rfl k82 (ld kd_5 rfl .head rfl) <| dpT rfl rfl rfl rfl rfl rfl k82 (bin rfl rfl bk_eql) <| dpT rfl rfl rfl rfl rfl rfl k82 (mv rfl) <| dpF rfl rfl rfl rfl rfl rfl (beq_eq_false_iff_ne.2 hw3) <| dpF rfl rfl rfl rfl rfl rfl (beq_eq_false_iff_ne.2 hw3) <| dpF rfl rfl rfl rfl rfl rfl (beq_eq_false_iff_ne.2 hw3) <| dpF rfl rfl rfl rfl rfl rfl (beq_eq_false_iff_ne.2 hw3) <| dpF rfl rfl rfl rfl rfl rfl (beq_eq_false_iff_ne.2 hw3) <| dpT rfl rfl rfl rfl rfl rfl k82 (pickF rfl (beq_eq_false_iff_ne.2 hw3) rfl) <| dp rfl rfl rfl rfl (pickF rfl k82 rfl) <| dend <| xq_then <| xc_cond rfl (fun hc9 => ?_) (fun hc9 => ?_)
                ·
                  exfalso; first | cases hc9 | exact hne hw3 (balEq_iff.1 hc9)
                ·
                  -- REG 14 res ['b5', 'b4', 'b3', 'n1', 'sB', 'sA']
                  refine xc_skip <| xq_then <| xc_seq <| xc_draw (canon := [(0, .l), (1, .p), (2, .p), (3, .p), (5, .p), (6, .p), (4, .y), (7, .p), (8, .x), (9, .x)]) (Z := HP _ [cellR b5 _ _, _, _, _]) mixed_ rfl (akl <| akp <| akp <| akp <| akp <| akp <| aky <| akp <| akx <| akx <| ak0) (zsub (.cons_cons _ <| .cons _ <| .cons _ <| .cons_cons _ <| .cons_cons _ <| .cons_cons _ <| List.nil_sublist _)) ?_
                  refine dl rfl rfl rfl rfl (ld kd_46 rfl (.tail <| .tail .head) rfl) <| dp rfl rfl rfl rfl (fa fa_42_3 rfl) <| dp rfl rfl rfl rfl (ld kd_35 rfl .head rfl) <| dq rfl rfl rfl rfl rfl Tryz.call19 rfl rfl (fun W hW => (wplus_ok ((rootF cfg.w cfg.seed h (placeF cfg.seed h [] (rowsOf one h))).sum + (((newsF (placeF cfg.seed h [] (rowsOf one h)) (placeF cfg.seed h (placeF cfg.seed h [] (rowsOf one h)) (rowsOf other h))).take k).map fun p => p.b.bal).sum) ((newsF (placeF cfg.seed h [] (rowsOf one h)) (placeF cfg.seed h (placeF cfg.seed h [] (rowsOf one h)) (rowsOf other h))).getD k pr0).b.bal hbB hx W)) <| dp rfl rfl rfl rfl (fa fa_42_2 rfl) <| dp rfl rfl rfl rfl (ld kd_35 rfl .head rfl) <| dasy rfl rfl rfl rfl (ld kd_46 rfl (.tail .head) rfl) (zsub (.cons_cons _ <| .cons _ <| .cons _ <| .cons_cons _ <| .cons_cons _ <| .cons_cons _ <| List.nil_sublist _)) <| dq rfl rfl rfl rfl rfl Tryz.call19 rfl rfl (fun W hW => (wplus_ok ((rootF cfg.w cfg.seed h (placeF cfg.seed h (placeF cfg.seed h [] (rowsOf one h)) (rowsOf other h))).sum + (((newsF (placeF cfg.seed h [] (rowsOf one h)) (placeF cfg.seed h (placeF cfg.seed h [] (rowsOf one h)) (rowsOf other h))).take k).map fun p => p.a.bal).sum) ((newsF (placeF cfg.seed h [] (rowsOf one h)) (placeF cfg.seed h (placeF cfg.seed h [] (rowsOf one h)) (rowsOf other h))).getD k pr0).a.bal hbA hy W)) <| dst_ rfl rfl rfl rfl sz_46 rfl rfl rfl rfl (.tail <| .tail .head) rfl rfl (zsub (.cons_cons _ <| .cons _ <| .cons _ <| .cons_cons _ <| .cons_cons _ <| .cons_cons _ <| List.nil_sublist _)) <| dst_ rfl rfl rfl rfl sz_46 rfl rfl rfl rfl (.tail .head) rfl rfl (zsub (.cons_cons _ <| .cons _ <| .cons _ <| .cons_cons _ <| .cons_cons _ <| .cons_cons _ <| List.nil_sublist _)) <| dend <| xq_then <| ?_
                  -- REG 15 res ['b5', 'b4', 'b3', 'n1', 'sB', 'sA']
                  refine xc_seq <| xc_region <| xp rfl (fa fa_42_1 rfl) <| xp rfl (ld kd_5 rfl .head rfl) <| xl_nil <| xq_then <| ?_
                  -- REG 16 res ['b5', 'b4', 'b3', 'n1', 'sB', 'sA']
                  refine xc_block <| xc_seq <| xc_region <| xp rfl (bin rfl rfl bk_eql) <| xp rfl (asg rfl) <| xl_nil <| xq_then <| xc_cond rfl (fun hc10 => ?_) (fun hc10 => ?_)
                  ·
                    have hwq : prWhat ((newsF (placeF cfg.seed h [] (rowsOf one h)) (placeF cfg.seed h (placeF cfg.seed h [] (rowsOf one h)) (rowsOf other h))).getD k pr0) = 1 := by simpa using hc10
                    have c1 : cnt 1 ((newsF (placeF cfg.seed h [] (rowsOf one h)) (placeF cfg.seed h (placeF cfg.seed h [] (rowsOf one h)) (rowsOf other h))).take (k + 1)) = cnt 1 ((newsF (placeF cfg.seed h [] (rowsOf one h)) (placeF cfg.seed h (placeF cfg.seed h [] (rowsOf one h)) (rowsOf other h))).take k) + 1 := by rw [cnt_step hk1, hwq]; simp
                    have c2 : cnt 2 ((newsF (placeF cfg.seed h [] (rowsOf one h)) (placeF cfg.seed h (placeF cfg.seed h [] (rowsOf one h)) (rowsOf other h))).take (k + 1)) = cnt 2 ((newsF (placeF cfg.seed h [] (rowsOf one h)) (placeF cfg.seed h (placeF cfg.seed h [] (rowsOf one h)) (rowsOf other h))).take k) := by rw [cnt_step hk1, hwq]; simp
                    have c3 : cnt 3 ((newsF (placeF cfg.seed h [] (rowsOf one h)) (placeF cfg.seed h (placeF cfg.seed h [] (rowsOf one h)) (rowsOf other h))).take (k + 1)) = cnt 3 ((newsF (placeF cfg.seed h [] (rowsOf one h)) (placeF cfg.seed h (placeF cfg.seed h [] (rowsOf one h)) (rowsOf other h))).take k) := by rw [cnt_step hk1, hwq]; simp
                    -- REG 17 res ['b5', 'b4', 'b3', 'n1', 'sB', 'sA']
                    refine xc_region <| xp rfl (mv rfl) <| xp rfl (bin rfl rfl bk_add) <| xp rfl (asg rfl) <| xl_nil <| xq_in <| xq_in <| xq_then <| ?_
                    -- REG 18 res ['b5', 'b4', 'b3', 'n1', 'sB', 'sA']
                    refine xc_region <| xp rfl (mv rfl) <| xp rfl (bin rfl rfl bk_add) <| xp rfl (asg rfl) <| xl_nil <| xq_roundP (k + 1) hk1 (by omega) (sc ((by first | rfl | (rw [c1]; rfl) | (rw [c1]; exact iw (by omega) (by omega) (by omega) rfl))) <| sc ((by first | rfl | (rw [c2]; rfl) | (rw [c2]; exact iw (by omega) (by omega) (by omega) rfl))) <| sc ((by first | rfl | (rw [c3]; rfl) | (rw [c3]; exact iw (by omega) (by omega) (by omega) rfl))) <| sc (iw (by omega) (by omega) (by omega) rfl) <| sc rfl <| sc rfl <| sc rfl <| sc rfl <| sc rfl <| sn) (fun W hW => by rw [sx, sy, ← Nat.add_assoc, ← Nat.add_assoc]; exact hW.drop)
                  ·
                    -- REG 19 res ['b5', 'b4', 'b3', 'n1', 'sB', 'sA']
                    refine xc_seq <| xc_region <| xp rfl (bin rfl rfl bk_eql) <| xp rfl (asg rfl) <| xl_nil <| xq_then <| xc_cond rfl (fun hc11 => ?_) (fun hc11 => ?_)
                    ·
                      have hwq : prWhat ((newsF (placeF cfg.seed h [] (rowsOf one h)) (placeF cfg.seed h (placeF cfg.seed h [] (rowsOf one h)) (rowsOf other h))).getD k pr0) = 2 := by simpa using hc11
                      have c1 : cnt 1 ((newsF (placeF cfg.seed h [] (rowsOf one h)) (placeF cfg.seed h (placeF cfg.seed h [] (rowsOf one h)) (rowsOf other h))).take (k + 1)) = cnt 1 ((newsF (placeF cfg.seed h [] (rowsOf one h)) (placeF cfg.seed h (placeF cfg.seed h [] (rowsOf one h)) (rowsOf other h))).take k) := by rw [cnt_step hk1, hwq]; simp
                      have c2 : cnt 2 ((newsF (placeF cfg.seed h [] (rowsOf one h)) (placeF cfg.seed h (placeF cfg.seed h [] (rowsOf one h)) (rowsOf other h))).take (k + 1)) = cnt 2 ((newsF (placeF cfg.seed h [] (rowsOf one h)) (placeF cfg.seed h (placeF cfg.seed h [] (rowsOf one h)) (rowsOf other h))).take k) + 1 := by rw [cnt_step hk1, hwq]; simp
                      have c3 : cnt 3 ((newsF (placeF cfg.seed h [] (rowsOf one h)) (placeF cfg.seed h (placeF cfg.seed h [] (rowsOf one h)) (rowsOf other h))).take (k + 1)) = cnt 3 ((newsF (placeF cfg.seed h [] (rowsOf one h)) (placeF cfg.seed h (placeF cfg.seed h [] (rowsOf one h)) (rowsOf other h))).take k) := by rw [cnt_step hk1, hwq]; simp
                      -- REG 20 res ['b5', 'b4', 'b3', 'n1', 'sB', 'sA']
                      refine xc_region <| xp rfl (mv rfl) <| xp rfl (bin rfl rfl bk_add) <| xp rfl (asg rfl) <| xl_nil <| xq_in <| xq_in <| xq_then <| ?_
                      -- REG 21 res ['b5', 'b4', 'b3', 'n1', 'sB', 'sA']
                      refine xc_region <| xp rfl (mv rfl) <| xp rfl (bin rfl rfl bk_add) <| xp rfl (asg rfl) <| xl_nil <| xq_roundP (k + 1) hk1 (by omega) (sc ((by first | rfl | (rw [c1]; rfl) | (rw [c1]; exact iw (by omega) (by omega) (by omega) rfl))) <| sc ((by first | rfl | (rw [c2]; rfl) | (rw [c2]; exact iw (by omega) (by omega) (by omega) rfl))) <| sc ((by first | rfl | (rw [c3]; rfl) | (rw [c3]; exact iw (by omega) (by omega) (by omega) rfl))) <| sc (iw (by omega) (by omega) (by omega) rfl) <| sc rfl <| sc rfl <| sc rfl <| sc rfl <| sc rfl <| sn) (fun W hW => by rw [sx, sy, ← Nat.add_assoc, ← Nat.add_assoc]; exact hW.drop)
                    ·
                      -- REG 22 res ['b5', 'b4', 'b3', 'n1', 'sB', 'sA']
                      refine xc_seq <| xc_region <| xp rfl (bin rfl rfl bk_eql) <| xp rfl (asg rfl) <| xl_nil <| xq_then <| xc_cond rfl (fun hc12 => ?_) (fun hc12 => ?_)
                      ·
                        have hwq : prWhat ((newsF (placeF cfg.seed h [] (rowsOf one h)) (placeF cfg.seed h (placeF cfg.seed h [] (rowsOf one h)) (rowsOf other h))).getD k pr0) = 3 := by simpa using hc12
                        have c1 : cnt 1 ((newsF (placeF cfg.seed h [] (rowsOf one h)) (placeF cfg.seed h (placeF cfg.seed h [] (rowsOf one h)) (rowsOf other h))).take (k + 1)) = cnt 1 ((newsF (placeF cfg.seed h [] (rowsOf one h)) (placeF cfg.seed h (placeF cfg.seed h [] (rowsOf one h)) (rowsOf other h))).take k) := by rw [cnt_step hk1, hwq]; simp
                        have c2 : cnt 2 ((newsF (placeF cfg.seed h [] (rowsOf one h)) (placeF cfg.seed h (placeF cfg.seed h [] (rowsOf one h)) (rowsOf other h))).take (k + 1)) = cnt 2 ((newsF (placeF cfg.seed h [] (rowsOf one h)) (placeF cfg.seed h (placeF cfg.seed h [] (rowsOf one h)) (rowsOf other h))).take k) := by rw [cnt_step hk1, hwq]; simp
                        have c3 : cnt 3 ((newsF (placeF cfg.seed h [] (rowsOf one h)) (placeF cfg.seed h (placeF cfg.seed h [] (rowsOf one h)) (rowsOf other h))).take (k + 1)) = cnt 3 ((newsF (placeF cfg.seed h [] (rowsOf one h)) (placeF cfg.seed h (placeF cfg.seed h [] (rowsOf one h)) (rowsOf other h))).take k) + 1 := by rw [cnt_step hk1, hwq]; simp
                        -- REG 23 res ['b5', 'b4', 'b3', 'n1', 'sB', 'sA']
                        refine xc_region <| xp rfl (mv rfl) <| xp rfl (bin rfl rfl bk_add) <| xp rfl (asg rfl) <| xl_nil <| xq_in <| xq_in <| xq_then <| ?_
                        -- REG 24 res ['b5', 'b4', 'b3', 'n1', 'sB', 'sA']
                        refine xc_region <| xp rfl (mv rfl) <| xp rfl (bin rfl rfl bk_add) <| xp rfl (asg rfl) <| xl_nil <| xq_roundP (k + 1) hk1 (by omega) (sc ((by first | rfl | (rw [c1]; rfl) | (rw [c1]; exact iw (by omega) (by omega) (by omega) rfl))) <| sc ((by first | rfl | (rw [c2]; rfl) | (rw [c2]; exact iw (by omega) (by omega) (by omega) rfl))) <| sc ((by first | rfl | (rw [c3]; rfl) | (rw [c3]; exact iw (by omega) (by omega) (by omega) rfl))) <| sc (iw (by omega) (by omega) (by omega) rfl) <| sc rfl <| sc rfl <| sc rfl <| sc rfl <| sc rfl <| sn) (fun W hW => by rw [sx, sy, ← Nat.add_assoc, ← Nat.add_assoc]; exact hW.drop)
                      ·
                        exfalso; simp at hc10 hc11 hc12; rcases mg_what _ _ _ hpm with h5 | h5 | h5 | h5 <;> first | exact hc10 h5 | exact hc11 h5 | exact hc12 h5 | exact hp4 h5
            ·
              refine xc_row (.tail <| .tail .head) (by omega) fun nb hnb hnc => ?_
              obtain ⟨n2a, n2b⟩ := n1
              simp only at hnb
              subst hnb
              dsimp only
              -- REG 12 res ['b4', 'b3', 'n1', 'sB', 'sA']
              refine xc_region <| xp rfl (mv rfl) <| xp rfl (mv rfl) <| xp rfl (ix so_39 rfl rfl (by first | omega | (rw [ew hkp]; omega)) (by first | omega | (rw [ew hkp]; omega))) <| xp rfl (ldc kd_42 rfl (vs := _) (fun W hW => chw0_at (hW.mem_ok (.tail <| .tail .head)) hk1 (by simp)) rfl) <| xe rfl (al zo_42) fun b6 _ => xs (st sz_42 rfl rfl rfl rfl .head rfl rfl) <| xl_nil <| xq_then <| ?_
              refine xc_seq <| xc_seq <| xc_em (prWhat ((newsF (placeF cfg.seed h [] (rowsOf one h)) (placeF cfg.seed h (placeF cfg.seed h [] (rowsOf one h)) (rowsOf other h))).getD k pr0) = 3) (fun hw3 => ?_) (fun hw3 => ?_)
              ·
                -- REG 13 res ['b6', 'b4', 'b3', 'n1', 'sB', 'sA']
                refine xc_draw (canon := [(0, .p), (1, .p), (2, .p), (3, .p), (4, .p), (5, .p), (6, .p), (7, .p), (8, .p), (9, .p), (10, .p), (11, .p), (12, .p), (13, .p), (14, .p), (15, .p), (16, .p), (17, .p), (18, .p), (19, .p), (20, .p), (21, .p), (22, .p), (23, .p), (24, .p), (25, .p), (26, .p), (27, .p), (28, .p), (29, .p), (30, .p), (31, .p), (32, .p), (33, .p), (34, .p)]) (Z := HP _ [cellR b6 _ _, cellR b4 _ _, cellR b3 _ _, _, _, _]) mixed_ rfl (akp <| akp <| akp <| akp <| akp <| akp <| akp <| akp <| akp <| akp <| akp <| akp <| akp <| akp <| akp <| akp <| akp <| akp <| akp <| akp <| akp <| akp <| akp <| akp <| akp <| akp <| akp <| akp <| akp <| akp <| akp <| akp <| akp <| akp <| akp <| ak0) (zsub (.cons_cons _ <| .cons_cons _ <| .cons_cons _ <| .cons_cons _ <| .cons_cons _ <| .cons_cons _ <| List.nil_sublist _)) ?_
                refine dp rfl rfl rfl rfl (mv rfl) <| dp rfl rfl rfl rfl (bin rfl rfl bk_gtr) <| dp rfl rfl rfl rfl (mv rfl) <| dpF rfl rfl rfl rfl rfl rfl (decide_eq_false (fun h => hkp (Int.natCast_pos.1 h))) <| dpF rfl rfl rfl rfl rfl rfl (decide_eq_false (fun h => hkp (Int.natCast_pos.1 h))) <| dpF rfl rfl rfl rfl rfl rfl (decide_eq_false (fun h => hkp (Int.natCast_pos.1 h))) <| dpF rfl rfl rfl rfl rfl rfl (decide_eq_false (fun h => hkp (Int.natCast_pos.1 h))) <| dpF rfl rfl rfl rfl rfl rfl (decide_eq_false (fun h => hkp (Int.natCast_pos.1 h))) <| dpF rfl rfl rfl rfl rfl rfl (decide_eq_false (fun h => hkp (Int.natCast_pos.1 h))) <| dpF rfl rfl rfl rfl rfl rfl (decide_eq_false (fun h => hkp (Int.natCast_pos.1 h))) <| dpF rfl rfl rfl rfl rfl rfl (decide_eq_false (fun h => hkp (Int.natCast_pos.1 h))) <| dpF rfl rfl rfl rfl rfl rfl (decide_eq_false (fun h => hkp (Int.natCast_pos.1 h))) <| dp rfl rfl rfl rfl (pickF rfl (decide_eq_false (fun h => hkp (Int.natCast_pos.1 h))) rfl) <| dp rfl rfl rfl rfl (mv rfl) <| dpT rfl rfl rfl rfl rfl rfl rfl (mv rfl) <| dpT rfl rfl rfl rfl rfl rfl rfl (mv rfl) <| dpT rfl rfl rfl rfl rfl rfl rfl (fa fa_42_0 rfl) <| dpT rfl rfl rfl rfl rfl rfl rfl (ld kd_9 rfl .head rfl) <| dqT rfl rfl rfl rfl rfl rfl rfl rfl Tryz.call18 rfl rfl (fun W hW => (uof_ok (snapR_at (hW.mem_ok (.tail <| .tail <| .tail <| .tail <| .tail <| .head)) hq.1 hg.c.hh) (snapR_at (hW.mem_ok (.tail <| .tail <| .tail <| .tail <| .head)) hq.2 hg.c.hh) pl1.1.asc pl2.1.asc (by omega) (by omega))) <| dpT rfl rfl rfl rfl rfl rfl rfl (fa fa_42_1 rfl) <| dpT rfl rfl rfl rfl rfl rfl rfl (ld kd_5 rfl .head rfl) <| dpT rfl rfl rfl rfl rfl rfl rfl (bin rfl rfl bk_neq) <| dp rfl rfl rfl rfl (pickF rfl rfl rfl) <| dp rfl rfl rfl rfl (mv rfl) <| dpT rfl rfl rfl rfl rfl rfl k82 (fa fa_42_1 rfl) <| dpT rfl rfl rfl rfl rfl rfl k82 (ld kd_5 rfl .head rfl) <| dpT rfl rfl rfl rfl rfl rfl k82 (bin rfl rfl bk_eql) <| dpT rfl rfl rfl rfl rfl rfl k82 (mv rfl) <| dpT rfl rfl rfl rfl rfl rfl (beq_iff_eq.2 hw3) (fa fa_42_2 rfl) <| dpT rfl rfl rfl rfl rfl rfl (beq_iff_eq.2 hw3) (ld kd_35 rfl .head rfl) <| dpT rfl rfl rfl rfl rfl rfl (beq_iff_eq.2 hw3) (fa fa_42_3 rfl) <| dpT rfl rfl rfl rfl rfl rfl (beq_iff_eq.2 hw3) (ld kd_35 rfl .head rfl) <| dpT rfl rfl rfl rfl rfl rfl (beq_iff_eq.2 hw3) (bin rfl rfl bk_aggeql_35) <| dpT rfl rfl rfl rfl rfl rfl k82 (pickT rfl (beq_iff_eq.2 hw3) rfl) <| dp rfl rfl rfl rfl (pickF rfl k82 rfl) <| dend <| xq_then <| xc_cond rfl (fun hc13 => ?_) (fun hc13 => ?_)
                ·
                  exfalso; first | cases hc13 | exact hne hw3 (balEq_iff.1 hc13)
                ·
                  -- REG 14 res ['b6', 'b4', 'b3', 'n1', 'sB', 'sA']
                  refine xc_skip <| xq_then <| xc_seq <| xc_draw (canon := [(0, .l), (1, .p), (2, .p), (3, .p), (5, .p), (6, .p), (4, .y), (7, .p), (8, .x), (9, .x)]) (Z := HP _ [cellR b6 _ _, _, _, _]) mixed_ rfl (akl <| akp <| akp <| akp <| akp <| akp <| aky <| akp <| akx <| akx <| ak0) (zsub (.cons_cons _ <| .cons _ <| .cons _ <| .cons_cons _ <| .cons_cons _ <| .cons_cons _ <| List.nil_sublist _)) ?_
                  refine dl rfl rfl rfl rfl (ld kd_46 rfl (.tail <| .tail .head) rfl) <| dp rfl rfl rfl rfl (fa fa_42_3 rfl) <| dp rfl rfl rfl rfl (ld kd_35 rfl .head rfl) <| dq rfl rfl rfl rfl rfl Tryz.call19 rfl rfl (fun W hW => (wplus_ok ((rootF cfg.w cfg.seed h (placeF cfg.seed h [] (rowsOf one h))).sum + (((newsF (placeF cfg.seed h [] (rowsOf one h)) (placeF cfg.seed h (placeF cfg.seed h [] (rowsOf one h)) (rowsOf other h))).take k).map fun p => p.b.bal).sum) ((newsF (placeF cfg.seed h [] (rowsOf one h)) (placeF cfg.seed h (placeF cfg.seed h [] (rowsOf one h)) (rowsOf other h))).getD k pr0).b.bal hbB hx W)) <| dp rfl rfl rfl rfl (fa fa_42_2 rfl) <| dp rfl rfl rfl rfl (ld kd_35 rfl .head rfl) <| dasy rfl rfl rfl rfl (ld kd_46 rfl (.tail .head) rfl) (zsub (.cons_cons _ <| .cons _ <| .cons _ <| .cons_cons _ <| .cons_cons _ <| .cons_cons _ <| List.nil_sublist _)) <| dq rfl rfl rfl rfl rfl Tryz.call19 rfl rfl (fun W hW => (wplus_ok ((rootF cfg.w cfg.seed h (placeF cfg.seed h (placeF cfg.seed h [] (rowsOf one h)) (rowsOf other h))).sum + (((newsF (placeF cfg.seed h [] (rowsOf one h)) (placeF cfg.seed h (placeF cfg.seed h [] (rowsOf one h)) (rowsOf other h))).take k).map fun p => p.a.bal).sum) ((newsF (placeF cfg.seed h [] (rowsOf one h)) (placeF cfg.seed h (placeF cfg.seed h [] (rowsOf one h)) (rowsOf other h))).getD k pr0).a.bal hbA hy W)) <| dst_ rfl rfl rfl rfl sz_46 rfl rfl rfl rfl (.tail <| .tail .head) rfl rfl (zsub (.cons_cons _ <| .cons _ <| .cons _ <| .cons_cons _ <| .cons_cons _ <| .cons_cons _ <| List.nil_sublist _)) <| dst_ rfl rfl rfl rfl sz_46 rfl rfl rfl rfl (.tail .head) rfl rfl (zsub (.cons_cons _ <| .cons _ <| .cons _ <| .cons_cons _ <| .cons_cons _ <| .cons_cons _ <| List.nil_sublist _)) <| dend <| xq_then <| ?_
                  -- REG 15 res ['b6', 'b4', 'b3', 'n1', 'sB', 'sA']
                  refine xc_seq <| xc_region <| xp rfl (fa fa_42_1 rfl) <| xp rfl (ld kd_5 rfl .head rfl) <| xl_nil <| xq_then <| ?_
                  -- REG 16 res ['b6', 'b4', 'b3', 'n1', 'sB', 'sA']
                  refine xc_block <| xc_seq <| xc_region <| xp rfl (bin rfl rfl bk_eql) <| xp rfl (asg rfl) <| xl_nil <| xq_then <| xc_cond rfl (fun hc14 => ?_) (fun hc14 => ?_)
                  ·
                    have hwq : prWhat ((newsF (placeF cfg.seed h [] (rowsOf one h)) (placeF cfg.seed h (placeF cfg.seed h [] (rowsOf one h)) (rowsOf other h))).getD k pr0) = 1 := by simpa using hc14
                    have c1 : cnt 1 ((newsF (placeF cfg.seed h [] (rowsOf one h)) (placeF cfg.seed h (placeF cfg.seed h [] (rowsOf one h)) (rowsOf other h))).take (k + 1)) = cnt 1 ((newsF (placeF cfg.seed h [] (rowsOf one h)) (placeF cfg.seed h (placeF cfg.seed h [] (rowsOf one h)) (rowsOf other h))).take k) + 1 := by rw [cnt_step hk1, hwq]; simp
                    have c2 : cnt 2 ((newsF (placeF cfg.seed h [] (rowsOf one h)) (placeF cfg.seed h (placeF cfg.seed h [] (rowsOf one h)) (rowsOf other h))).take (k + 1)) = cnt 2 ((newsF (placeF cfg.seed h [] (rowsOf one h)) (placeF cfg.seed h (placeF cfg.seed h [] (rowsOf one h)) (rowsOf other h))).take k) := by rw [cnt_step hk1, hwq]; simp
                    have c3 : cnt 3 ((newsF (placeF cfg.seed h [] (rowsOf one h)) (placeF cfg.seed h (placeF cfg.seed h [] (rowsOf one h)) (rowsOf other h))).take (k + 1)) = cnt 3 ((newsF (placeF cfg.seed h [] (rowsOf one h)) (placeF cfg.seed h (placeF cfg.seed h [] (rowsOf one h)) (rowsOf other h))).take k) := by rw [cnt_step hk1, hwq]; simp
                    -- REG 17 res ['b6', 'b4', 'b3', 'n1', 'sB', 'sA']
                    refine xc_region <| xp rfl (mv rfl) <| xp rfl (bin rfl rfl bk_add) <| xp rfl (asg rfl) <| xl_nil <| xq_in <| xq_in <| xq_then <| ?_
                    -- REG 18 res ['b6', 'b4', 'b3', 'n1', 'sB', 'sA']
                    refine xc_region <| xp rfl (mv rfl) <| xp rfl (bin rfl rfl bk_add) <| xp rfl (asg rfl) <| xl_nil <| xq_roundP (k + 1) hk1 (by omega) (sc ((by first | rfl | (rw [c1]; rfl) | (rw [c1]; exact iw (by omega) (by omega) (by omega) rfl))) <| sc ((by first | rfl | (rw [c2]; rfl) | (rw [c2]; exact iw (by omega) (by omega) (by omega) rfl))) <| sc ((by first | rfl | (rw [c3]; rfl) | (rw [c3]; exact iw (by omega) (by omega) (by omega) rfl))) <| sc (iw (by omega) (by omega) (by omega) rfl) <| sc rfl <| sc rfl <| sc rfl <| sc rfl <| sc rfl <| sn) (fun W hW => by rw [sx, sy, ← Nat.add_assoc, ← Nat.add_assoc]; exact hW.drop)
                  ·
                    -- REG 19 res ['b6', 'b4', 'b3', 'n1', 'sB', 'sA']
                    refine xc_seq <| xc_region <| xp rfl (bin rfl rfl bk_eql) <| xp rfl (asg rfl) <| xl_nil <| xq_then <| xc_cond rfl (fun hc15 => ?_) (fun hc15 => ?_)
                    ·
                      have hwq : prWhat ((newsF (placeF cfg.seed h [] (rowsOf one h)) (placeF cfg.seed h (placeF cfg.seed h [] (rowsOf one h)) (rowsOf other h))).getD k pr0) = 2 := by simpa using hc15
                      have c1 : cnt 1 ((newsF (placeF cfg.seed h [] (rowsOf one h)) (placeF cfg.seed h (placeF cfg.seed h [] (rowsOf one h)) (rowsOf other h))).take (k + 1)) = cnt 1 ((newsF (placeF cfg.seed h [] (rowsOf one h)) (placeF cfg.seed h (placeF cfg.seed h [] (rowsOf one h)) (rowsOf other h))).take k) := by rw [cnt_step hk1, hwq]; simp
                      have c2 : cnt 2 ((newsF (placeF cfg.seed h [] (rowsOf one h)) (placeF cfg.seed h (placeF cfg.seed h [] (rowsOf one h)) (rowsOf other h))).take (k + 1)) = cnt 2 ((newsF (placeF cfg.seed h [] (rowsOf one h)) (placeF cfg.seed h (placeF cfg.seed h [] (rowsOf one h)) (rowsOf other h))).take k) + 1 := by rw [cnt_step hk1, hwq]; simp
                      have c3 : cnt 3 ((newsF (placeF cfg.seed h [] (rowsOf one h)) (placeF cfg.seed h (placeF cfg.seed h [] (rowsOf one h)) (rowsOf other h))).take (k + 1)) = cnt 3 ((newsF (placeF cfg.seed h [] (rowsOf one h)) (placeF cfg.seed h (placeF cfg.seed h [] (rowsOf one h)) (rowsOf other h))).take k) := by rw [cnt_step hk1, hwq]; simp
                      -- REG 20 res ['b6', 'b4', 'b3', 'n1', 'sB', 'sA']
                      refine xc_region <| xp rfl (mv rfl) <| xp rfl (bin rfl rfl bk_add) <| xp rfl (asg rfl) <| xl_nil <| xq_in <| xq_in <| xq_then <| ?_
                      -- REG 21 res ['b6', 'b4', 'b3', 'n1', 'sB', 'sA']
                      refine xc_region <| xp rfl (mv rfl) <| xp rfl (bin rfl rfl bk_add) <| xp rfl (asg rfl) <| xl_nil <| xq_roundP (k + 1) hk1 (by omega) (sc ((by first | rfl | (rw [c1]; rfl) | (rw [c1]; exact iw (by omega) (by omega) (by omega) rfl))) <| sc ((by first | rfl | (rw [c2]; rfl) | (rw [c2]; exact iw (by omega) (by omega) (by omega) rfl))) <| sc ((by first | rfl | (rw [c3]; rfl) | (rw [c3]; exact iw (by omega) (by omega) (by omega) rfl))) <| sc (iw (by omega) (by omega) (by omega) rfl) <| sc rfl <| sc rfl <| sc rfl <| sc rfl <| sc rfl <| sn) (fun W hW => by rw [sx, sy, ← Nat.add_assoc, ← Nat.add_assoc]; exact hW.drop)
                    ·
                      -- REG 22 res ['b6', 'b4', 'b3', 'n1', 'sB', 'sA']
                      refine xc_seq <| xc_region <| xp rfl (bin rfl rfl bk_eql) <| xp rfl (asg rfl) <| xl_nil <| xq_then <| xc_cond rfl (fun hc16 => ?_) (fun hc16 => ?_)
                      ·
                        have hwq : prWhat ((newsF (placeF cfg.seed h [] (rowsOf one h)) (placeF cfg.seed h (placeF cfg.seed h [] (rowsOf one h)) (rowsOf other h))).getD k pr0) = 3 := by simpa using hc16
                        have c1 : cnt 1 ((newsF (placeF cfg.seed h [] (rowsOf one h)) (placeF cfg.seed h (placeF cfg.seed h [] (rowsOf one h)) (rowsOf other h))).take (k + 1)) = cnt 1 ((newsF (placeF cfg.seed h [] (rowsOf one h)) (placeF cfg.seed h (placeF cfg.seed h [] (rowsOf one h)) (rowsOf other h))).take k) := by rw [cnt_step hk1, hwq]; simp
                        have c2 : cnt 2 ((newsF (placeF cfg.seed h [] (rowsOf one h)) (placeF cfg.seed h (placeF cfg.seed h [] (rowsOf one h)) (rowsOf other h))).take (k + 1)) = cnt 2 ((newsF (placeF cfg.seed h [] (rowsOf one h)) (placeF cfg.seed h (placeF cfg.seed h [] (rowsOf one h)) (rowsOf other h))).take k) := by rw [cnt_step hk1, hwq]; simp
                        have c3 : cnt 3 ((newsF (placeF cfg.seed h [] (rowsOf one h)) (placeF cfg.seed h (placeF cfg.seed h [] (rowsOf one h)) (rowsOf other h))).take (k + 1)) = cnt 3 ((newsF (placeF cfg.seed h [] (rowsOf one h)) (placeF cfg.seed h (placeF cfg.seed h [] (rowsOf one h)) (rowsOf other h))).take k) + 1 := by rw [cnt_step hk1, hwq]; simp
                        -- REG 23 res ['b6', 'b4', 'b3', 'n1', 'sB', 'sA']
                        refine xc_region <| xp rfl (mv rfl) <| xp rfl (bin rfl rfl bk_add) <| xp rfl (asg rfl) <| xl_nil <| xq_in <| xq_in <| xq_then <| ?_
                        -- REG 24 res ['b6', 'b4', 'b3', 'n1', 'sB', 'sA']
                        refine xc_region <| xp rfl (mv rfl) <| xp rfl (bin rfl rfl bk_add) <| xp rfl (asg rfl) <| xl_nil <| xq_roundP (k + 1) hk1 (by omega) (sc ((by first | rfl | (rw [c1]; rfl) | (rw [c1]; exact iw (by omega) (by omega) (by omega) rfl))) <| sc ((by first | rfl | (rw [c2]; rfl) | (rw [c2]; exact iw (by omega) (by omega) (by omega) rfl))) <| sc ((by first | rfl | (rw [c3]; rfl) | (rw [c3]; exact iw (by omega) (by omega) (by omega) rfl))) <| sc (iw (by omega) (by omega) (by omega) rfl) <| sc rfl <| sc rfl <| sc rfl <| sc rfl <| sc rfl <| sn) (fun W hW => by rw [sx, sy, ← Nat.add_assoc, ← Nat.add_assoc]; exact hW.drop)
                      ·
                        exfalso; simp at hc14 hc15 hc16; rcases mg_what _ _ _ hpm with h5 | h5 | h5 | h5 <;> first | exact hc14 h5 | exact hc15 h5 | exact hc16 h5 | exact hp4 h5
              ·
                -- REG 13 res ['b6', 'b4', 'b3', 'n1', 'sB', 'sA']
                refine xc_draw (canon := [(0, .p), (1, .p), (2, .p), (3, .p), (4, .p), (5, .p), (6, .p), (7, .p), (8, .p), (9, .p), (10, .p), (11, .p), (12, .p), (13, .p), (14, .p), (15, .p), (16, .p), (17, .p), (18, .p), (19, .p), (20, .p), (21, .p), (22, .p), (23, .p), (24, .p), (25, .p), (26, .p), (27, .p), (28, .p), (29, .p), (30, .p), (31, .p), (32, .p), (33, .p), (34, .p)]) (Z := HP _ [cellR b6 _ _, cellR b4 _ _, cellR b3 _ _, _, _, _]) mixed_ rfl (akp <| akp <| akp <| akp <| akp <| akp <| akp <| akp <| akp <| akp <| akp <| akp <| akp <| akp <| akp <| akp <| akp <| akp <| akp <| akp <| akp <| akp <| akp <| akp <| akp <| akp <| akp <| akp <| akp <| akp <| akp <| akp <| akp <| akp <| akp <| ak0) (zsub (.cons_cons _ <| .cons_cons _ <| .cons_cons _ <| .cons_cons _ <| .cons_cons _ <| .cons_cons _ <| List.nil_sublist _)) ?_
                refine dp rfl rfl rfl rfl (mv rfl) <| dp rfl rfl rfl rfl (bin rfl rfl bk_gtr) <| dp rfl rfl rfl rfl (mv rfl) <| dpF rfl rfl rfl rfl rfl rfl (decide_eq_false (fun h => hkp (Int.natCast_pos.1 h))) <| dpF rfl rfl rfl rfl rfl rfl (decide_eq_false (fun h => hkp (Int.natCast_pos.1 h))) <| dpF rfl rfl rfl rfl rfl rfl (decide_eq_false (fun h => hkp (Int.natCast_pos.1 h))) <| dpF rfl rfl rfl rfl rfl rfl (decide_eq_false (fun h => hkp (Int.natCast_pos.1 h))) <| dpF rfl rfl rfl rfl rfl rfl (decide_eq_false (fun h => hkp (Int.natCast_pos.1 h))) <| dpF rfl rfl rfl rfl rfl rfl (decide_eq_false (fun h => hkp (Int.natCast_pos.1 h))) <| dpF rfl rfl rfl rfl rfl rfl (decide_eq_false (fun h => hkp (Int.natCast_pos.1 h))) <| dpF rfl rfl rfl rfl rfl rfl (decide_eq_false (fun h => hkp (Int.natCast_pos.1 h))) <| dpF rfl rfl rfl rfl rfl rfl (decide_eq_false (fun h => hkp (Int.natCast_pos.1 h))) <| dp rfl rfl rfl rfl (pickF rfl (decide_eq_false (fun h => hkp (Int.natCast_pos.1 h))) rfl) <| dp rfl rfl rfl rfl (mv rfl) <| dpT rfl rfl rfl rfl rfl rfl rfl (mv rfl) <| dpT rfl rfl rfl rfl rfl rfl rfl (mv rfl) <| dpT rfl rfl rfl rfl rfl rfl rfl (fa fa_42_0 rfl) <| dpT rfl rfl rfl rfl rfl rfl rfl (ld kd_9 rfl .head rfl) <| dqT rfl rfl rfl rfl rfl rfl rfl rfl Tryz.call18 rfl rfl (fun W hW => (uof_ok (snapR_at (hW.mem_ok (.tail <| .tail <| .tail <| .tail <| .tail <| .head)) hq.1 hg.c.hh) (snapR_at (hW.mem_ok (.tail <| .tail <| .tail <| .tail <| .head)) hq.2 hg.c.hh) pl1.1.asc pl2.1.asc (by omega) (by omega))) <| dpT rfl rfl rfl rfl rfl rfl rfl (fa fa_42_1 rfl) <| dpT rfl rfl rfl rfl rfl rfl rfl (ld kd_5 rfl .head rfl) <| dpT rfl rfl rfl rfl rfl rfl rfl (bin rfl rfl bk_neq) <| dp rfl rfl rfl rfl (pickF rfl rfl rfl) <| dp rfl rfl rfl rfl (mv rfl) <| dpT rfl rfl rfl rfl rfl rfl k82 (fa fa_42_1 rfl) <| dpT rfl rfl rfl rfl rfl rfl k82 (ld kd_5 rfl .head rfl) <| dpT rfl rfl rfl rfl rfl rfl k82 (bin rfl rfl bk_eql) <| dpT rfl rfl rfl rfl rfl rfl k82 (mv rfl) <| dpF rfl rfl rfl rfl rfl rfl (beq_eq_false_iff_ne.2 hw3) <| dpF rfl rfl rfl rfl rfl rfl (beq_eq_false_iff_ne.2 hw3) <| dpF rfl rfl rfl rfl rfl rfl (beq_eq_false_iff_ne.2 hw3) <| dpF rfl rfl rfl rfl rfl rfl (beq_eq_false_iff_ne.2 hw3) <| dpF rfl rfl rfl rfl rfl rfl (beq_eq_false_iff_ne.2 hw3) <| dpT rfl rfl rfl rfl rfl rfl k82 (pickF rfl (beq_eq_false_iff_ne.2 hw3) rfl) <| dp rfl rfl rfl rfl (pickF rfl k82 rfl) <| dend <| xq_then <| xc_cond rfl (fun hc17 => ?_) (fun hc17 => ?_)
                ·
                  exfalso; first | cases hc17 | exact hne hw3 (balEq_iff.1 hc17)
                ·
                  -- REG 14 res ['b6', 'b4', 'b3', 'n1', 'sB', 'sA']
                  refine xc_skip <| xq_then <| xc_seq <| xc_draw (canon := [(0, .l), (1, .p), (2, .p), (3, .p), (5, .p), (6, .p), (4, .y), (7, .p), (8, .x), (9, .x)]) (Z := HP _ [cellR b6 _ _, _, _, _]) mixed_ rfl (akl <| akp <| akp <| akp <| akp <| akp <| aky <| akp <| akx <| akx <| ak0) (zsub (.cons_cons _ <| .cons _ <| .cons _ <| .cons_cons _ <| .cons_cons _ <| .cons_cons _ <| List.nil_sublist _)) ?_
                  refine dl rfl rfl rfl rfl (ld kd_46 rfl (.tail <| .tail .head) rfl) <| dp rfl rfl rfl rfl (fa fa_42_3 rfl) <| dp rfl rfl rfl rfl (ld kd_35 rfl .head rfl) <| dq rfl rfl rfl rfl rfl Tryz.call19 rfl rfl (fun W hW => (wplus_ok ((rootF cfg.w cfg.seed h (placeF cfg.seed h [] (rowsOf one h))).sum + (((newsF (placeF cfg.seed h [] (rowsOf one h)) (placeF cfg.seed h (placeF cfg.seed h [] (rowsOf one h)) (rowsOf other h))).take k).map fun p => p.b.bal).sum) ((newsF (placeF cfg.seed h [] (rowsOf one h)) (placeF cfg.seed h (placeF cfg.seed h [] (rowsOf one h)) (rowsOf other h))).getD k pr0).b.bal hbB hx W)) <| dp rfl rfl rfl rfl (fa fa_42_2 rfl) <| dp rfl rfl rfl rfl (ld kd_35 rfl .head rfl) <| dasy rfl rfl rfl rfl (ld kd_46 rfl (.tail .head) rfl) (zsub (.cons_cons _ <| .cons _ <| .cons _ <| .cons_cons _ <| .cons_cons _ <| .cons_cons _ <| List.nil_sublist _)) <| dq rfl rfl rfl rfl rfl Tryz.call19 rfl rfl (fun W hW => (wplus_ok ((rootF cfg.w cfg.seed h (placeF cfg.seed h (placeF cfg.seed h [] (rowsOf one h)) (rowsOf other h))).sum + (((newsF (placeF cfg.seed h [] (rowsOf one h)) (placeF cfg.seed h (placeF cfg.seed h [] (rowsOf one h)) (rowsOf other h))).take k).map fun p => p.a.bal).sum) ((newsF (placeF cfg.seed h [] (rowsOf one h)) (placeF cfg.seed h (placeF cfg.seed h [] (rowsOf one h)) (rowsOf other h))).getD k pr0).a.bal hbA hy W)) <| dst_ rfl rfl rfl rfl sz_46 rfl rfl rfl rfl (.tail <| .tail .head) rfl rfl (zsub (.cons_cons _ <| .cons _ <| .cons _ <| .cons_cons _ <| .cons_cons _ <| .cons_cons _ <| List.nil_sublist _)) <| dst_ rfl rfl rfl rfl sz_46 rfl rfl rfl rfl (.tail .head) rfl rfl (zsub (.cons_cons _ <| .cons _ <| .cons _ <| .cons_cons _ <| .cons_cons _ <| .cons_cons _ <| List.nil_sublist _)) <| dend <| xq_then <| ?_
                  -- REG 15 res ['b6', 'b4', 'b3', 'n1', 'sB', 'sA']
                  refine xc_seq <| xc_region <| xp rfl (fa fa_42_1 rfl) <| xp rfl (ld kd_5 rfl .head rfl) <| xl_nil <| xq_then <| ?_
                  -- REG 16 res ['b6', 'b4', 'b3', 'n1', 'sB', 'sA']
                  refine xc_block <| xc_seq <| xc_region <| xp rfl (bin rfl rfl bk_eql) <| xp rfl (asg rfl) <| xl_nil <| xq_then <| xc_cond rfl (fun hc18 => ?_) (fun hc18 => ?_)
                  ·
                    have hwq : prWhat ((newsF (placeF cfg.seed h [] (rowsOf one h)) (placeF cfg.seed h (placeF cfg.seed h [] (rowsOf one h)) (rowsOf other h))).getD k pr0) = 1 := by simpa using hc18
                    have c1 : cnt 1 ((newsF (placeF cfg.seed h [] (rowsOf one h)) (placeF cfg.seed h (placeF cfg.seed h [] (rowsOf one h)) (rowsOf other h))).take (k + 1)) = cnt 1 ((newsF (placeF cfg.seed h [] (rowsOf one h)) (placeF cfg.seed h (placeF cfg.seed h [] (rowsOf one h)) (rowsOf other h))).take k) + 1 := by rw [cnt_step hk1, hwq]; simp
                    have c2 : cnt 2 ((newsF (placeF cfg.seed h [] (rowsOf one h)) (placeF cfg.seed h (placeF cfg.seed h [] (rowsOf one h)) (rowsOf other h))).take (k + 1)) = cnt 2 ((newsF (placeF cfg.seed h [] (rowsOf one h)) (placeF cfg.seed h (placeF cfg.seed h [] (rowsOf one h)) (rowsOf other h))).take k) := by rw [cnt_step hk1, hwq]; simp
                    have c3 : cnt 3 ((newsF (placeF cfg.seed h [] (rowsOf one h)) (placeF cfg.seed h (placeF cfg.seed h [] (rowsOf one h)) (rowsOf other h))).take (k + 1)) = cnt 3 ((newsF (placeF cfg.seed h [] (rowsOf one h)) (placeF cfg.seed h (placeF cfg.seed h [] (rowsOf one h)) (rowsOf other h))).take k) := by rw [cnt_step hk1, hwq]; simp
                    -- REG 17 res ['b6', 'b4', 'b3', 'n1', 'sB', 'sA']
                    refine xc_region <| xp rfl (mv rfl) <| xp rfl (bin rfl rfl bk_add) <| xp rfl (asg rfl) <| xl_nil <| xq_in <| xq_in <| xq_then <| ?_
                    -- REG 18 res ['b6', 'b4', 'b3', 'n1', 'sB', 'sA']
                    refine xc_region <| xp rfl (mv rfl) <| xp rfl (bin rfl rfl bk_add) <| xp rfl (asg rfl) <| xl_nil <| xq_roundP (k + 1) hk1 (by omega) (sc ((by first | rfl | (rw [c1]; rfl) | (rw [c1]; exact iw (by omega) (by omega) (by omega) rfl))) <| sc ((by first | rfl | (rw [c2]; rfl) | (rw [c2]; exact iw (by omega) (by omega) (by omega) rfl))) <| sc ((by first | rfl | (rw [c3]; rfl) | (rw [c3]; exact iw (by omega) (by omega) (by omega) rfl))) <| sc (iw (by omega) (by omega) (by omega) rfl) <| sc rfl <| sc rfl <| sc rfl <| sc rfl <| sc rfl <| sn) (fun W hW => by rw [sx, sy, ← Nat.add_assoc, ← Nat.add_assoc]; exact hW.drop)
                  ·
                    -- REG 19 res ['b6', 'b4', 'b3', 'n1', 'sB', 'sA']
                    refine xc_seq <| xc_region <| xp rfl (bin rfl rfl bk_eql) <| xp rfl (asg rfl) <| xl_nil <| xq_then <| xc_cond rfl (fun hc19 => ?_) (fun hc19 => ?_)
                    ·
                      have hwq : prWhat ((newsF (placeF cfg.seed h [] (rowsOf one h)) (placeF cfg.seed h (placeF cfg.seed h [] (rowsOf one h)) (rowsOf other h))).getD k pr0) = 2 := by simpa using hc19
                      have c1 : cnt 1 ((newsF (placeF cfg.seed h [] (rowsOf one h)) (placeF cfg.seed h (placeF cfg.seed h [] (rowsOf one h)) (rowsOf other h))).take (k + 1)) = cnt 1 ((newsF (placeF cfg.seed h [] (rowsOf one h)) (placeF cfg.seed h (placeF cfg.seed h [] (rowsOf one h)) (rowsOf other h))).take k) := by rw [cnt_step hk1, hwq]; simp
                      have c2 : cnt 2 ((newsF (placeF cfg.seed h [] (rowsOf one h)) (placeF cfg.seed h (placeF cfg.seed h [] (rowsOf one h)) (rowsOf other h))).take (k + 1)) = cnt 2 ((newsF (placeF cfg.seed h [] (rowsOf one h)) (placeF cfg.seed h (placeF cfg.seed h [] (rowsOf one h)) (rowsOf other h))).take k) + 1 := by rw [cnt_step hk1, hwq]; simp
                      have c3 : cnt 3 ((newsF (placeF cfg.seed h [] (rowsOf one h)) (placeF cfg.seed h (placeF cfg.seed h [] (rowsOf one h)) (rowsOf other h))).take (k + 1)) = cnt 3 ((newsF (placeF cfg.seed h [] (rowsOf one h)) (placeF cfg.seed h (placeF cfg.seed h [] (rowsOf one h)) (rowsOf other h))).take k) := by rw [cnt_step hk1, hwq]; simp
                      -- REG 20 res ['b6', 'b4', 'b3', 'n1', 'sB', 'sA']
                      refine xc_region <| xp rfl (mv rfl) <| xp rfl (bin rfl rfl bk_add) <| xp rfl (asg rfl) <| xl_nil <| xq_in <| xq_in <| xq_then <| ?_
                      -- REG 21 res ['b6', 'b4', 'b3', 'n1', 'sB', 'sA']
                      refine xc_region <| xp rfl (mv rfl) <| xp rfl (bin rfl rfl bk_add) <| xp rfl (asg rfl) <| xl_nil <| xq_roundP (k + 1) hk1 (by omega) (sc ((by first | rfl | (rw [c1]; rfl) | (rw [c1]; exact iw (by omega) (by omega) (by omega) rfl))) <| sc ((by first | rfl | (rw [c2]; rfl) | (rw [c2]; exact iw (by omega) (by omega) (by omega) rfl))) <| sc ((by first | rfl | (rw [c3]; rfl) | (rw [c3]; exact iw (by omega) (by omega) (by omega) rfl))) <| sc (iw (by omega) (by omega) (by omega) rfl) <| sc rfl <| sc rfl <| sc rfl <| sc rfl <| sc rfl <| sn) (fun W hW => by rw [sx, sy, ← Nat.add_assoc, ← Nat.add_assoc]; exact hW.drop)
                    ·
                      -- REG 22 res ['b6', 'b4', 'b3', 'n1', 'sB', 'sA']
                      refine xc_seq <| xc_region <| xp rfl (bin rfl rfl bk_eql) <| xp rfl (asg rfl) <| xl_nil <| xq_then <| xc_cond rfl (fun hc20 => ?_) (fun hc20 => ?_)
                      ·
                        have hwq : prWhat ((newsF (placeF cfg.seed h [] (rowsOf one h)) (placeF cfg.seed h (placeF cfg.seed h [] (rowsOf one h)) (rowsOf other h))).getD k pr0) = 3 := by simpa using hc20
                        have c1 : cnt 1 ((newsF (placeF cfg.seed h [] (rowsOf one h)) (placeF cfg.seed h (placeF cfg.seed h [] (rowsOf one h)) (rowsOf other h))).take (k + 1)) = cnt 1 ((newsF (placeF cfg.seed h [] (rowsOf one h)) (placeF cfg.seed h (placeF cfg.seed h [] (rowsOf one h)) (rowsOf other h))).take k) := by rw [cnt_step hk1, hwq]; simp
                        have c2 : cnt 2 ((newsF (placeF cfg.seed h [] (rowsOf one h)) (placeF cfg.seed h (placeF cfg.seed h [] (rowsOf one h)) (rowsOf other h))).take (k + 1)) = cnt 2 ((newsF (placeF cfg.seed h [] (rowsOf one h)) (placeF cfg.seed h (placeF cfg.seed h [] (rowsOf one h)) (rowsOf other h))).take k) := by rw [cnt_step hk1, hwq]; simp
                        have c3 : cnt 3 ((newsF (placeF cfg.seed h [] (rowsOf one h)) (placeF cfg.seed h (placeF cfg.seed h [] (rowsOf one h)) (rowsOf other h))).take (k + 1)) = cnt 3 ((newsF (placeF cfg.seed h [] (rowsOf one h)) (placeF cfg.seed h (placeF cfg.seed h [] (rowsOf one h)) (rowsOf other h))).take k) + 1 := by rw [cnt_step hk1, hwq]; simp
                        -- REG 23 res ['b6', 'b4', 'b3', 'n1', 'sB', 'sA']
                        refine xc_region <| xp rfl (mv rfl) <| xp rfl (bin rfl rfl bk_add) <| xp rfl (asg rfl) <| xl_nil <| xq_in <| xq_in <| xq_then <| ?_
                        -- REG 24 res ['b6', 'b4', 'b3', 'n1', 'sB', 'sA']
                        refine xc_region <| xp rfl (mv rfl) <| xp rfl (bin rfl rfl bk_add) <| xp rfl (asg rfl) <| xl_nil <| xq_roundP (k + 1) hk1 (by omega) (sc ((by first | rfl | (rw [c1]; rfl) | (rw [c1]; exact iw (by omega) (by omega) (by omega) rfl))) <| sc ((by first | rfl | (rw [c2]; rfl) | (rw [c2]; exact iw (by omega) (by omega) (by omega) rfl))) <| sc ((by first | rfl | (rw [c3]; rfl) | (rw [c3]; exact iw (by omega) (by omega) (by omega) rfl))) <| sc (iw (by omega) (by omega) (by omega) rfl) <| sc rfl <| sc rfl <| sc rfl <| sc rfl <| sc rfl <| sn) (fun W hW => by rw [sx, sy, ← Nat.add_assoc, ← Nat.add_assoc]; exact hW.drop)
                      ·
                        exfalso; simp at hc18 hc19 hc20; rcases mg_what _ _ _ hpm with h5 | h5 | h5 | h5 <;> first | exact hc18 h5 | exact hc19 h5 | exact hc20 h5 | exact hp4 h5
          ·
            obtain rfl : k = (newsF (placeF cfg.seed h [] (rowsOf one h)) (placeF cfg.seed h (placeF cfg.seed h [] (rowsOf one h)) (rowsOf other h))).length := by have h1 : ¬ ((k : Int) < ((newsF (placeF cfg.seed h [] (rowsOf one h)) (placeF cfg.seed h (placeF cfg.seed h [] (rowsOf one h)) (rowsOf other h))).length : Nat)) := of_decide_eq_false hc4; omega
            have hxy : ((rootF cfg.w cfg.seed h (placeF cfg.seed h [] (rowsOf one h))).sum + (((newsF (placeF cfg.seed h [] (rowsOf one h)) (placeF cfg.seed h (placeF cfg.seed h [] (rowsOf one h)) (rowsOf other h))).take (newsF (placeF cfg.seed h [] (rowsOf one h)) (placeF cfg.seed h (placeF cfg.seed h [] (rowsOf one h)) (rowsOf other h))).length).map fun p => p.b.bal).sum) = ((rootF cfg.w cfg.seed h (placeF cfg.seed h (placeF cfg.seed h [] (rowsOf one h)) (rowsOf other h))).sum + (((newsF (placeF cfg.seed h [] (rowsOf one h)) (placeF cfg.seed h (placeF cfg.seed h [] (rowsOf one h)) (rowsOf other h))).take (newsF (placeF cfg.seed h [] (rowsOf one h)) (placeF cfg.seed h (placeF cfg.seed h [] (rowsOf one h)) (rowsOf other h))).length).map fun p => p.a.bal).sum) := by rw [List.take_length, rsL, rsM]; exact news_tot _ _
            have z1 := mg_lenA (placeF cfg.seed h [] (rowsOf one h)) (placeF cfg.seed h (placeF cfg.seed h [] (rowsOf one h)) (rowsOf other h))
            have z2 := mg_lenB (placeF cfg.seed h [] (rowsOf one h)) (placeF cfg.seed h (placeF cfg.seed h [] (rowsOf one h)) (rowsOf other h))
            have z3 := news_len (placeF cfg.seed h [] (rowsOf one h)) (placeF cfg.seed h (placeF cfg.seed h [] (rowsOf one h)) (rowsOf other h))
            have z4 := cnt_news (A := (placeF cfg.seed h [] (rowsOf one h))) (B := (placeF cfg.seed h (placeF cfg.seed h [] (rowsOf one h)) (rowsOf other h))) (w := 1) (by decide)
            have z5 := cnt_news (A := (placeF cfg.seed h [] (rowsOf one h))) (B := (placeF cfg.seed h (placeF cfg.seed h [] (rowsOf one h)) (rowsOf other h))) (w := 2) (by decide)
            have z6 := cnt_news (A := (placeF cfg.seed h [] (rowsOf one h))) (B := (placeF cfg.seed h (placeF cfg.seed h [] (rowsOf one h)) (rowsOf other h))) (w := 3) (by decide)
            have z7 := same_len pl1.1.asc pl2.1.asc
            -- REG 25 res ['b4', 'b3', 'n1', 'sB', 'sA']
            refine xc_exit <| xq_then_exit <| xq_then_exit <| xq_in_hit <| xq_then <| xc_seq <| xc_region <| xp rfl (mv rfl) <| xr rfl Tryz.call20 rfl rfl (fun W hW => (accs_ok (snapR_at (hW.mem_ok (.tail <| .tail <| .tail <| .head)) hq.2 hg.c.hh) (by omega))) fun lb _ => xp rfl (asg rfl) <| xl_nil <| xq_then <| ?_
            -- REG 26 res ['acc', 'b4', 'b3', 'n1', 'sB', 'sA']
            refine xc_seq <| xc_region <| xp rfl (asg rfl) <| xl_nil <| xq_then <| ?_
            -- REG 27 res ['acc', 'b4', 'b3', 'n1', 'sB', 'sA']
            refine xc_seq <| xc_seq <| xc_region <| xp rfl (asg rfl) <| xl_nil <| xq_then <| xc_block <| xc_loopP (σ := Nat) (fun k => [(19, .int .i64 (((placeF cfg.seed h (placeF cfg.seed h [] (rowsOf one h)) (rowsOf other h)).take k).filter (sameB (placeF cfg.seed h [] (rowsOf one h)) (placeF cfg.seed h (placeF cfg.seed h [] (rowsOf one h)) (rowsOf other h)))).length), (20, .int .i64 k), (7, _), (8, _), (10, _), (11, _), (12, _), (13, _), (14, _), (15, _), (18, _)]) (fun k => k ≤ (placeF cfg.seed h (placeF cfg.seed h [] (rowsOf one h)) (rowsOf other h)).length) (fun k => HP w [ownR 52 5 (.slice lb.1 (placeF cfg.seed h (placeF cfg.seed h [] (rowsOf one h)) (rowsOf other h)).length lb.2) (placeF cfg.seed h (placeF cfg.seed h [] (rowsOf one h)) (rowsOf other h)).length ((placeF cfg.seed h (placeF cfg.seed h [] (rowsOf one h)) (rowsOf other h)).flatMap Ac.c), cellR b4 46 (wdc ((rootF cfg.w cfg.seed h (placeF cfg.seed h (placeF cfg.seed h [] (rowsOf one h)) (rowsOf other h))).sum + (((newsF (placeF cfg.seed h [] (rowsOf one h)) (placeF cfg.seed h (placeF cfg.seed h [] (rowsOf one h)) (rowsOf other h))).take (newsF (placeF cfg.seed h [] (rowsOf one h)) (placeF cfg.seed h (placeF cfg.seed h [] (rowsOf one h)) (rowsOf other h))).length).map fun p => p.a.bal).sum)), cellR b3 46 (wdc ((rootF cfg.w cfg.seed h (placeF cfg.seed h [] (rowsOf one h))).sum + (((newsF (placeF cfg.seed h [] (rowsOf one h)) (placeF cfg.seed h (placeF cfg.seed h [] (rowsOf one h)) (rowsOf other h))).take (newsF (placeF cfg.seed h [] (rowsOf one h)) (placeF cfg.seed h (placeF cfg.seed h [] (rowsOf one h)) (rowsOf other h))).length).map fun p => p.b.bal).sum)), snapR cfg h (placeF cfg.seed h (placeF cfg.seed h [] (rowsOf one h)) (rowsOf other h)) q.2, snapR cfg h (placeF cfg.seed h [] (rowsOf one h)) q.1]) (fun k => (placeF cfg.seed h (placeF cfg.seed h [] (rowsOf one h)) (rowsOf other h)).length - k) 0 (Nat.zero_le _) (sc rfl <| sc rfl <| sc rfl <| sc rfl <| sc rfl <| sc rfl <| sc rfl <| sc rfl <| sc rfl <| sc rfl <| sc rfl <| sn) (fun W hW => hW.sub (.cons_cons _ <| .cons_cons _ <| .cons_cons _ <| .cons _ <| .refl _)) fun k hk2 => ?_
            -- REG 28 res ['acc', 'b4', 'b3', 'sB', 'sA']
            refine xc_seq <| xc_seq <| xc_region <| xp rfl (mv rfl) <| xp rfl (mv rfl) <| xp rfl (lenv Tryz.underlying49 rfl) <| xp rfl (bin rfl rfl bk_lss) <| xl_nil <| xq_then <| xc_cond rfl (fun hc21 => ?_) (fun hc21 => ?_)
            ·
              have hk3 : k < (placeF cfg.seed h (placeF cfg.seed h [] (rowsOf one h)) (rowsOf other h)).length := Int.ofNat_lt.1 (show (k : Int) < ((placeF cfg.seed h (placeF cfg.seed h [] (rowsOf one h)) (rowsOf other h)).length : Nat) from of_decide_eq_true hc21)
              have fk : (((placeF cfg.seed h (placeF cfg.seed h [] (rowsOf one h)) (rowsOf other h)).take k).filter (sameB (placeF cfg.seed h [] (rowsOf one h)) (placeF cfg.seed h (placeF cfg.seed h [] (rowsOf one h)) (rowsOf other h)))).length ≤ k := Nat.le_trans (List.length_filter_le _ _) (by rw [List.length_take]; omega)
              refine xc_skip <| xq_then <| xc_seq <| xc_block <| xc_seq <| xc_row .head (by omega) fun nb2 hnb2 hnc2 => ?_
              obtain ⟨lb1, lb2⟩ := lb
              simp only at hnb2
              subst hnb2
              dsimp only
              -- REG 29 res ['acc', 'b4', 'b3', 'sB', 'sA']
              refine xc_region <| xp rfl (mv rfl) <| xp rfl (mv rfl) <| xp rfl (mv rfl) <| xp rfl (mv rfl) <| xp rfl (ix so_49 rfl rfl (by first | omega | (rw [ew hkp]; omega)) (by first | omega | (rw [ew hkp]; omega))) <| xp rfl (fa fa_52_0 rfl) <| xp rfl (ldc kd_9 rfl (vs := _) (fun W hW => ac_at (ownR_rowOf (hW.mem_ok .head)) hk3 (by simp)) rfl) <| xv rfl Tryz.call18 rfl rfl (fun W hW => (uof_ok (snapR_at (hW.mem_ok (.tail <| .tail <| .tail <| .tail <| .head)) hq.1 hg.c.hh) (snapR_at (hW.mem_ok (.tail <| .tail <| .tail <| .head)) hq.2 hg.c.hh) pl1.1.asc pl2.1.asc (by omega) (by omega))) <| xp rfl (bin rfl rfl bk_eql) <| xl_nil <| xq_then <| xc_cond rfl (fun hc22 => ?_) (fun hc22 => ?_)
              ·
                have c4 : (((placeF cfg.seed h (placeF cfg.seed h [] (rowsOf one h)) (rowsOf other h)).take (k + 1)).filter (sameB (placeF cfg.seed h [] (rowsOf one h)) (placeF cfg.seed h (placeF cfg.seed h [] (rowsOf one h)) (rowsOf other h)))).length = (((placeF cfg.seed h (placeF cfg.seed h [] (rowsOf one h)) (rowsOf other h)).take k).filter (sameB (placeF cfg.seed h [] (rowsOf one h)) (placeF cfg.seed h (placeF cfg.seed h [] (rowsOf one h)) (rowsOf other h)))).length + 1 := by rw [same_step hk3, if_pos (show sameB (placeF cfg.seed h [] (rowsOf one h)) (placeF cfg.seed h (placeF cfg.seed h [] (rowsOf one h)) (rowsOf other h)) (getA (placeF cfg.seed h (placeF cfg.seed h [] (rowsOf one h)) (rowsOf other h)) k) = true from hc22)]
                -- REG 30 res ['acc', 'b4', 'b3', 'sB', 'sA']
                refine xc_region <| xp rfl (mv rfl) <| xp rfl (bin rfl rfl bk_add) <| xp rfl (asg rfl) <| xl_nil <| xq_in <| xq_then <| ?_
                -- REG 31 res ['acc', 'b4', 'b3', 'sB', 'sA']
                refine xc_region <| xp rfl (mv rfl) <| xp rfl (bin rfl rfl bk_add) <| xp rfl (asg rfl) <| xl_nil <| xq_roundP (k + 1) hk3 (by omega) (sc ((by first | rfl | (rw [c4]; rfl) | (rw [c4]; exact iw (by omega) (by omega) (by omega) rfl))) <| sc (iw (by omega) (by omega) (by omega) rfl) <| sc rfl <| sc rfl <| sc rfl <| sc rfl <| sc rfl <| sc rfl <| sc rfl <| sc rfl <| sc rfl <| sn) (fun W hW => hW)
              ·
                have c4 : (((placeF cfg.seed h (placeF cfg.seed h [] (rowsOf one h)) (rowsOf other h)).take (k + 1)).filter (sameB (placeF cfg.seed h [] (rowsOf one h)) (placeF cfg.seed h (placeF cfg.seed h [] (rowsOf one h)) (rowsOf other h)))).length = (((placeF cfg.seed h (placeF cfg.seed h [] (rowsOf one h)) (rowsOf other h)).take k).filter (sameB (placeF cfg.seed h [] (rowsOf one h)) (placeF cfg.seed h (placeF cfg.seed h [] (rowsOf one h)) (rowsOf other h)))).length := by rw [same_step hk3, if_neg (by rw [show sameB (placeF cfg.seed h [] (rowsOf one h)) (placeF cfg.seed h (placeF cfg.seed h [] (rowsOf one h)) (rowsOf other h)) (getA (placeF cfg.seed h (placeF cfg.seed h [] (rowsOf one h)) (rowsOf other h)) k) = false from hc22]; decide)]; rfl
                -- REG 32 res ['acc', 'b4', 'b3', 'sB', 'sA']
                refine xc_skip <| xq_in <| xq_then <| xc_region <| xp rfl (mv rfl) <| xp rfl (bin rfl rfl bk_add) <| xp rfl (asg rfl) <| xl_nil <| xq_roundP (k + 1) hk3 (by omega) (sc ((by first | rfl | (rw [c4]; rfl) | (rw [c4]; exact iw (by omega) (by omega) (by omega) rfl))) <| sc (iw (by omega) (by omega) (by omega) rfl) <| sc rfl <| sc rfl <| sc rfl <| sc rfl <| sc rfl <| sc rfl <| sc rfl <| sc rfl <| sc rfl <| sn) (fun W hW => hW)
            ·
              obtain rfl : k = (placeF cfg.seed h (placeF cfg.seed h [] (rowsOf one h)) (rowsOf other h)).length := by have h1 : ¬ ((k : Int) < ((placeF cfg.seed h (placeF cfg.seed h [] (rowsOf one h)) (rowsOf other h)).length : Nat)) := of_decide_eq_false hc21; omega
              rw [List.take_length, List.take_length]
              rw [List.take_length] at hxy
              have k148 : (IntKind.i64.wrap (IntKind.i64.wrap ((cnt 1 (newsF (placeF cfg.seed h [] (rowsOf one h)) (placeF cfg.seed h (placeF cfg.seed h [] (rowsOf one h)) (rowsOf other h))) : Int) + (cnt 2 (newsF (placeF cfg.seed h [] (rowsOf one h)) (placeF cfg.seed h (placeF cfg.seed h [] (rowsOf one h)) (rowsOf other h))) : Nat)) + (cnt 3 (newsF (placeF cfg.seed h [] (rowsOf one h)) (placeF cfg.seed h (placeF cfg.seed h [] (rowsOf one h)) (rowsOf other h))) : Nat)) == ((newsF (placeF cfg.seed h [] (rowsOf one h)) (placeF cfg.seed h (placeF cfg.seed h [] (rowsOf one h)) (rowsOf other h))).length : Int)) = true := wsum (by omega) (by omega)
              have k158 : (IntKind.i64.wrap (IntKind.i64.wrap ((((placeF cfg.seed h (placeF cfg.seed h [] (rowsOf one h)) (rowsOf other h)).filter (sameB (placeF cfg.seed h [] (rowsOf one h)) (placeF cfg.seed h (placeF cfg.seed h [] (rowsOf one h)) (rowsOf other h)))).length : Int) + (cnt 1 (newsF (placeF cfg.seed h [] (rowsOf one h)) (placeF cfg.seed h (placeF cfg.seed h [] (rowsOf one h)) (rowsOf other h))) : Nat)) + (cnt 3 (newsF (placeF cfg.seed h [] (rowsOf one h)) (placeF cfg.seed h (placeF cfg.seed h [] (rowsOf one h)) (rowsOf other h))) : Nat)) == ((placeF cfg.seed h (placeF cfg.seed h [] (rowsOf one h)) (rowsOf other h)).length : Int)) = true := wsum (by omega) (by omega)
              have k168 : (IntKind.i64.wrap (IntKind.i64.wrap ((((placeF cfg.seed h (placeF cfg.seed h [] (rowsOf one h)) (rowsOf other h)).filter (sameB (placeF cfg.seed h [] (rowsOf one h)) (placeF cfg.seed h (placeF cfg.seed h [] (rowsOf one h)) (rowsOf other h)))).length : Int) + (cnt 2 (newsF (placeF cfg.seed h [] (rowsOf one h)) (placeF cfg.seed h (placeF cfg.seed h [] (rowsOf one h)) (rowsOf other h))) : Nat)) + (cnt 3 (newsF (placeF cfg.seed h [] (rowsOf one h)) (placeF cfg.seed h (placeF cfg.seed h [] (rowsOf one h)) (rowsOf other h))) : Nat)) == ((placeF cfg.seed h [] (rowsOf one h)).length : Int)) = true := wsum (by omega) (by omega)
              -- REG 33 res ['acc', 'b4', 'b3', 'sB', 'sA']
              refine xc_exit <| xq_then_exit <| xq_then_exit <| xq_in_hit <| xq_then <| xc_seq <| xc_region <| xp rfl (ld kd_46 rfl (.tail <| .tail .head) rfl) <| xp rfl (ld kd_46 rfl (.tail .head) rfl) <| xp rfl (bin rfl rfl bk_aggeql_46) <| xp rfl (mv rfl) <| xgT rfl rfl rfl (by rw [hxy]; simp) <| xp rfl (mv rfl) <| xgT rfl rfl rfl (by rw [hxy]; simp) <| xp rfl (mv rfl) <| xgT rfl rfl rfl (by rw [hxy]; simp) <| xp rfl (bin rfl rfl bk_add) <| xgT rfl rfl rfl (by rw [hxy]; simp) <| xp rfl (mv rfl) <| xgT rfl rfl rfl (by rw [hxy]; simp) <| xp rfl (bin rfl rfl bk_add) <| xgT rfl rfl rfl (by rw [hxy]; simp) <| xp rfl (mv rfl) <| xgT rfl rfl rfl (by rw [hxy]; simp) <| xp rfl (lenv Tryz.underlying39 rfl) <| xgT rfl rfl rfl (by rw [hxy]; simp) <| xp rfl (bin rfl rfl bk_eql) <| xp rfl (pickT rfl (by rw [hxy]; simp) rfl) <| xp rfl (mv rfl) <| xgT rfl rfl rfl k148 <| xp rfl (mv rfl) <| xgT rfl rfl rfl k148 <| xp rfl (mv rfl) <| xgT rfl rfl rfl k148 <| xp rfl (bin rfl rfl bk_add) <| xgT rfl rfl rfl k148 <| xp rfl (mv rfl) <| xgT rfl rfl rfl k148 <| xp rfl (bin rfl rfl bk_add) <| xgT rfl rfl rfl k148 <| xp rfl (mv rfl) <| xgT rfl rfl rfl k148 <| xp rfl (lenv Tryz.underlying49 rfl) <| xgT rfl rfl rfl k148 <| xp rfl (bin rfl rfl bk_eql) <| xp rfl (pickT rfl k148 rfl) <| xp rfl (mv rfl) <| xgT rfl rfl rfl k158 <| xp rfl (mv rfl) <| xgT rfl rfl rfl k158 <| xp rfl (mv rfl) <| xgT rfl rfl rfl k158 <| xp rfl (bin rfl rfl bk_add) <| xgT rfl rfl rfl k158 <| xp rfl (mv rfl) <| xgT rfl rfl rfl k158 <| xp rfl (bin rfl rfl bk_add) <| xgT rfl rfl rfl k158 <| xp rfl (mv rfl) <| xgT rfl rfl rfl k158 <| xr rfl Tryz.call20 rfl rfl (fun W hW => (accs_ok (snapR_at (hW.mem_ok (.tail <| .tail <| .tail <| .tail <| .head)) hq.1 hg.c.hh) (by omega))) fun la _ => xgT rfl rfl rfl k158 <| xp rfl (lenv Tryz.underlying49 rfl) <| xgT rfl rfl rfl k158 <| xp rfl (bin rfl rfl bk_eql) <| xp rfl (pickT rfl k158 rfl) <| xp rfl (asg rfl) <| xl_nil <| xq_then <| xc_ret <| leave1 (.inl rfl) rfl (.tmp rfl) fun W hW => (⟨congrArg (fun b => Ending.returned (Value.bool b)) k168, hW.below⟩)
      ·
        -- REG 5 res ['b2', 'b1']
        refine xc_region <| xp rfl (ld kd_23 rfl (.tail .head) rfl) <| xp rfl (mv rfl) <| xp rfl (mv rfl) <| xr rfl Tryz.call12 rfl rfl (fun W hW => (two_no (cfg := ⟨cfg.h, cfg.w, cfg.seed⟩) (hG.up hW) hs1 hs2 hgd)) fun q hq => xp rfl (mv rfl) <| xp rfl (ext rfl rfl) <| xp rfl (ext rfl rfl) <| xp rfl (ext rfl rfl) <| xp rfl (asg rfl) <| xp rfl (asg rfl) <| xp rfl (asg rfl) <| xl_nil <| xq_then <| ?_
        -- REG 6 res ['b2', 'b1']
        refine xc_seq <| xc_seq <| xc_region <| xp rfl (mv rfl) <| xp rfl (un rfl uk_not) <| xl_nil <| xq_then <| xc_cond rfl (fun hc23 => ?_) (fun hc23 => ?_)
        ·
          -- REG 7 res ['b2', 'b1']
          refine xc_seq <| xc_region <| xp rfl (asg rfl) <| xl_nil <| xq_then <| xc_ret <| xq_then_ret <| leave1 (.inl rfl) rfl (.tmp rfl) fun W hW => (⟨rfl, hW.below⟩)
        ·
          cases hc23

end Go.Eng
end
