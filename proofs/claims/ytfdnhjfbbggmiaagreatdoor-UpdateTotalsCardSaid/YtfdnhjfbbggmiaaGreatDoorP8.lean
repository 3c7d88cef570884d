/- Part 8 of the walks and plain lemmas that the claim rests on. -/
import Derived.Shelf.SlSortCmp.NoneTotal
import Derived.Test.YtfdnhjfbbggmiaaGreatDoorP7
section
namespace Go.Eng
open Go Go.RowKit Go.Proofs Go.Maps
set_option linter.unusedVariables false
set_option linter.unusedSimpArgs false
set_option maxRecDepth 4000
/-! # Slots -/
theorem acK : ∀ x : Ac, (Ac.c x).length = 5 := fun _ => rfl
theorem acF : ∀ x : Ac, (Ac.c x).all flat1 = true := fun _ => rfl
def idxI {α : Type} (p : α → Bool) (l : List α) : Int := match l.findIdx? p with | some i => i | none => -1
theorem idxI_some {α : Type} {p : α → Bool} {l : List α} {k : Nat} (hk : k < l.length) (h1 : p l[k] = true) (h2 : ∀ i (hi : i < k), p (l[i]'(by omega)) = false) : idxI p l = k := by
  have : l.findIdx? p = some k := List.findIdx?_eq_some_iff_getElem.2 ⟨hk, h1, fun j hj => by simp [h2 j hj]⟩
  simp [idxI, this]
theorem idxI_none {α : Type} {p : α → Bool} {l : List α} (h : ∀ x ∈ l, p x = false) : idxI p l = -1 := by
  have : l.findIdx? p = none := List.findIdx?_eq_none_iff.2 h
  simp [idxI, this]
theorem idxI_cases {α : Type} (p : α → Bool) (l : List α) : (∃ (k : Nat) (hk : k < l.length), idxI p l = k ∧ l.find? p = some l[k]) ∨ (idxI p l = -1 ∧ l.find? p = none) := by
  cases h : l.findIdx? p with
  | none => exact .inr ⟨by simp [idxI, h], List.find?_eq_none.2 fun x hx => by simp [List.findIdx?_eq_none_iff.1 h x hx]⟩
  | some k =>
    obtain ⟨hk, h1, h2⟩ := List.findIdx?_eq_some_iff_getElem.1 h
    exact .inl ⟨k, hk, by simp [idxI, h], List.find?_eq_some_iff_getElem.2 ⟨h1, k, hk, rfl, fun j hj => by simpa using h2 j hj⟩⟩
/-- A predicate of accounts that the program calls. -/
def PredOK (w : World) (g : Nat) (cap : List Value) (p : Ac → Bool) : Prop := ∀ (W : World) (a : Ac), Below w.heap.size w W → RetV Tryz.prog g (a.V :: cap) W (.bool (p a))
theorem PredOK.up {w W : World} {g : Nat} {cap : List Value} {p : Ac → Bool} (h : PredOK w g cap p) (hb : Below w.heap.size w W) : PredOK W g cap p := fun W' a hb' => h W' a (hb.trans (hb'.mono hb.size))
def getA (l : List Ac) (k : Nat) : Ac := l.getD k ac0
theorem getA_eq {l : List Ac} {k : Nat} (h : k < l.length) : getA l k = l[k] := by simp [getA, List.getD_eq_getElem?_getD, h]
theorem ac_at {W : World} {b off : Nat} {l : List Ac} (h : rowOf W 5 Ac.c (some ⟨b, off, none⟩) l) {k : Nat} (hk : k < l.length) {o : Nat} (ho : o = off + k * 5) : Cells W b o (Ac.c (getA l k)) := by
  rw [getA_eq hk, ho]; exact h.cells_at acK k hk

theorem idxf_ok {A : Option Addr} {l : List Ac} {c g : Nat} {cap : List Value} {p : Ac → Bool} {w : World} (he : Enters Tryz.prog g) (hr : rowOf w 5 Ac.c A l) (hp : PredOK w g cap p) :
  RetV Tryz.prog 189 [.slice A l.length c, .func (.func g) #[] cap.toArray] w (.int .i64 (idxI p l)) := by
  have hsm := hr.small
  refine begin_ Tryz.func189 rfl rfl rfl ?_
  refine xc_seq <| xc_region <| xp rfl (asg rfl) <| xl_nil <| xq_then <| ?_
  refine xc_seq <| xc_seq <| xc_region <| xp rfl (mv rfl) <| xp rfl (lenv Tryz.underlying49 rfl) <| xp rfl (mv rfl) <| xl_nil <| xq_then <| xc_block <| xc_loopP (σ := Nat) (fun k => [(8, .int .i64 k), (0, _), (1, _), (7, _)]) (fun k => k ≤ l.length ∧ ∀ i, i < k → p (getA l i) = false) (fun k => HP w []) (fun k => l.length - k) 0 ⟨Nat.zero_le _, fun i h => absurd h (by omega)⟩ (sc rfl <| sc rfl <| sc rfl <| sc rfl <| sn) (fun W hW => hW) fun k ⟨hk, hlo⟩ => ?_
  refine xc_seq <| xc_region <| xp rfl (bin rfl rfl bk_lss) <| xl_nil <| xq_then <| xc_seq <| xc_cond rfl (fun hc1 => ?_) (fun hc1 => ?_)
  ·
    have hk1 : k < l.length := by have h := of_decide_eq_true hc1; omega
    obtain ⟨b, off, rfl⟩ := hr.addr (by omega)
    refine xc_skip <| xq_then <| xc_seq <| xc_block <| xc_seq <| xc_region <| xp rfl (mv rfl) <| xp rfl (asg rfl) <| xl_nil <| xq_then <| ?_
    refine xc_seq <| xc_region <| xp rfl (mv rfl) <| xp rfl (mv rfl) <| xp rfl (mv rfl) <| xp rfl (ix so_49 rfl rfl (by omega) (by omega)) <| xp rfl (ldc kd_52 rfl (vs := _) (fun W hW => ac_at (hr.up hW) hk1 (by omega)) rfl) <| xvC rfl he rfl rfl (fun W hW => (hp W (getA l k) hW.below)) <| xl_nil <| xq_then <| xc_cond rfl (fun hc2 => ?_) (fun hc2 => ?_)
    ·
      refine xc_seq <| xc_region <| xp rfl (mv rfl) <| xp rfl (asg rfl) <| xl_nil <| xq_then <| xc_ret <| xq_in_ret <| xq_then_ret <| xq_then_ret <| xq_in_ret <| xq_then_ret <| leave1 (.inl rfl) rfl (.tmp rfl) fun W hW => (⟨by rw [idxI_some hk1 (by rw [← getA_eq hk1]; exact hc2) (fun i hi => by rw [← getA_eq (by omega)]; exact hlo i hi)], hW.below⟩)
    ·
      refine xc_skip <| xq_in <| xq_then <| xc_region <| xp rfl (bin rfl rfl bk_add) <| xp rfl (mv rfl) <| xl_nil <| xq_roundP (k + 1) (⟨by omega, fun i hi => by rcases Nat.lt_or_eq_of_le (Nat.le_of_lt_succ hi) with h | h; exact hlo i h; subst h; exact hc2⟩) (by omega) (sc (iw (by omega) (by omega) (by omega) rfl) <| sc rfl <| sc rfl <| sc rfl <| sn) (fun W hW => hW.sub (.refl _))
  ·
    obtain rfl : k = l.length := by have h := of_decide_eq_false hc1; omega
    refine xc_exit <| xq_then_exit <| xq_then_exit <| xq_in_hit <| xq_then <| xc_seq <| xc_region <| xp rfl (asg rfl) <| xl_nil <| xq_then <| xc_ret <| leave1 (.inl rfl) rfl (.tmp rfl) fun W hW => (⟨by rw [idxI_none (fun x hx => by obtain ⟨i, hi, e⟩ := List.getElem_of_mem hx; rw [← e, ← getA_eq hi]; exact hlo i hi)], hW.below⟩)

theorem sfirst_ok {A : Option Addr} {l : List Ac} {c g : Nat} {cap : List Value} {p : Ac → Bool} {w : World} (he : Enters Tryz.prog g) (hr : rowOf w 5 Ac.c A l) (hp : PredOK w g cap p) :
  RetV Tryz.prog 170 [.slice A l.length c, .func (.func g) #[] cap.toArray] w (.tuple #[((l.find? p).getD ac0).V, .bool (l.find? p).isSome]) := by
  have hix := idxI_cases p l
  have hsm := hr.small
  refine begin_ Tryz.func170 rfl rfl rfl ?_
  refine xc_seq <| xc_region <| xe rfl (al zo_52) fun b1 _ => xp rfl (asg rfl) <| xl_nil <| xq_then <| ?_
  refine xc_seq <| xc_seq <| xc_region <| xp rfl (mv rfl) <| xp rfl (mv rfl) <| xv rfl Tryz.call189 rfl rfl (fun W hW => (idxf_ok he (hr.up hW) (hp.up hW.below))) <| xp rfl (asg rfl) <| xl_nil <| xq_then <| ?_
  refine xc_seq <| xc_region <| xp rfl (mv rfl) <| xp rfl (bin rfl rfl bk_geq) <| xl_nil <| xq_then <| xc_cond rfl (fun hc1 => ?_) (fun hc1 => ?_)
  ·
    have h := of_decide_eq_true hc1
    obtain ⟨k, hk, e1, e2⟩ : ∃ (k : Nat) (hk : k < l.length), idxI p l = k ∧ l.find? p = some l[k] := hix.resolve_right (fun h2 => by rw [h2.1] at h; omega)
    obtain ⟨b, off, rfl⟩ := hr.addr (by omega)
    refine xc_seq <| xc_region <| xp rfl (mv rfl) <| xp rfl (mv rfl) <| xp rfl (ix so_49 rfl rfl (by omega) (by omega)) <| xp rfl (ldc kd_52 rfl (vs := _) (fun W hW => ac_at (hr.up hW) hk (by rw [e1]; omega)) rfl) <| xs (st sz_52 rfl rfl rfl rfl .head rfl rfl) <| xp rfl (asg rfl) <| xl_nil <| xq_then <| xc_ret <| xq_then_ret <| leave2 (.inl rfl) rfl (.cell rfl (ld_own kd_52 .head rfl)) (.tmp rfl) fun W hW => (⟨by rw [e2, getA_eq hk]; rfl, hW.below⟩)
  ·
    have h := of_decide_eq_false hc1
    obtain ⟨e1, e2⟩ : idxI p l = -1 ∧ l.find? p = none := hix.resolve_left (fun ⟨k, hk, e1, _⟩ => by rw [e1] at h; omega)
    refine xc_skip <| xq_then <| xc_seq <| xc_region <| xp rfl (bd rfl bd_52_) <| xs (st sz_52 rfl rfl rfl rfl .head rfl rfl) <| xp rfl (asg rfl) <| xl_nil <| xq_then <| xc_ret <| leave2 (.inl rfl) rfl (.cell rfl (ld_own kd_52 .head rfl)) (.tmp rfl) fun W hW => (⟨by rw [e2]; simp [ac0, noneText, splice], hW.below⟩)

theorem find1_ok {w : World} {b : Nat} {id : ByteArray} (hc : Cells w b 0 [.string id]) (a : Ac) : RetV Tryz.prog 171 [a.V, .pointer (some ⟨b, 0, none⟩)] w (.bool (isId id a)) := by
  refine begin_ Tryz.func171 rfl rfl rfl ?_
  refine xc_seq <| xc_region <| xe rfl (bx rfl rfl) fun b1 _ => xp rfl (asg rfl) <| xl_nil <| xq_then <| ?_
  refine xc_seq <| xc_region <| xp rfl (fa fa_52_0 rfl) <| xp rfl (ld kd_9 rfl .head rfl) <| xp rfl (ldc kd_9 rfl (vs := _) (fun W hW => hc.below hW.below) rfl) <| xp rfl (bin rfl rfl bk_seql) <| xp rfl (asg rfl) <| xl_nil <| xq_then <| xc_ret <| leave1 (.inl rfl) rfl (.tmp rfl) fun W hW => (⟨rfl, hW.below⟩)

theorem find_ok {A : Option Addr} {l : List Ac} {c : Nat} {id : ByteArray} {w : World} (hr : rowOf w 5 Ac.c A l) : RetV Tryz.prog 90 [.slice A l.length c, .string id] w (.tuple #[(findF l id).V, .bool (hasF l id)]) := by
  refine begin_ Tryz.func90 rfl rfl rfl ?_
  refine xc_seq <| xc_region <| xe rfl (bx rfl rfl) fun b1 _ => xe rfl (al zo_52) fun b2 _ => xp rfl (asg rfl) <| xl_nil <| xq_then <| ?_
  refine xc_seq <| xc_region <| xp rfl (mv rfl) <| xp rfl (mf rfl rfl) <| xv rfl Tryz.call170 rfl rfl (fun W hW => (sfirst_ok (cap := [_]) Tryz.call171 (hr.up hW) (fun W2 a hb => find1_ok ((cells_of hW (.tail .head)).below hb) a))) <| xp rfl (ext rfl rfl) <| xp rfl (ext rfl rfl) <| xs (st sz_52 rfl rfl rfl rfl .head rfl rfl) <| xp rfl (asg rfl) <| xl_nil <| xq_then <| xc_ret <| leave2 (.inl rfl) rfl (.cell rfl (ld_own kd_52 .head rfl)) (.tmp rfl) fun W hW => (⟨rfl, hW.below⟩)

theorem gId_nodup {rows : List Rw} (h : (rows.map Rw.id).Nodup) (l : Lit) : gId rows l ≤ 1 := by
  cases l <;> simp only [gId]
  case string bs =>
    have h1 : ((rows.filter fun r => decide (r.id.data.toList = bs)).map Rw.id).Nodup := h.sublist (List.filter_sublist.map _)
    have h2 : ∀ r ∈ rows.filter fun r => decide (r.id.data.toList = bs), r.id.data.toList = bs := fun r hr => by simpa using (List.mem_filter.1 hr).2
    generalize rows.filter (fun r => decide (r.id.data.toList = bs)) = m at h1 h2
    match m, h1, h2 with
    | [], _, _ => simp
    | [_], _, _ => simp
    | a :: b :: m, h1, h2 =>
      simp only [List.map_cons, List.nodup_cons, List.mem_cons, not_or] at h1
      exact absurd (dataList_inj ((h2 a (by simp)).trans (h2 b (by simp)).symm)) h1.1.1
  all_goals decide
theorem take_step {α : Type} {l : List α} {k : Nat} (hk : k < l.length) (d : α) : l.take (k + 1) = l.take k ++ [l.getD k d] := by
  rw [List.take_succ_eq_append_getElem hk]; simp [List.getD_eq_getElem?_getD, hk]
theorem rw_at {W : World} {b off : Nat} {l : List Rw} (h : rowOf W 3 Rw.c (some ⟨b, off, none⟩) l) {k : Nat} (hk : k < l.length) {o : Nat} (ho : o = off + k * 3) : Cells W b o (Rw.c (l.getD k rw0)) := by
  have e : l.getD k rw0 = l[k] := by simp [List.getD_eq_getElem?_getD, hk]
  rw [e, ho]; exact h.cells_at rwK k hk
theorem getD_mem {α : Type} {l : List α} {k : Nat} (hk : k < l.length) (d : α) : l.getD k d ∈ l := by
  have e : l.getD k d = l[k] := by simp [List.getD_eq_getElem?_getD, hk]
  rw [e]; exact List.getElem_mem hk

theorem rowed_ok {A : Option Addr} {l : List Rw} {c : Nat} {w : World} (hG : Glob w) (hr : rowOf w 3 Rw.c A l) (hn : (l.map Rw.id).Nodup) (hids : ∀ r ∈ l, mayIdF r.id = true ∧ r.id.size ≤ 4096) (hl : l.length ≤ 100000) :
  RetV Tryz.prog 89 [.slice A l.length c] w (.bool true) := by
  refine begin_ Tryz.func89 rfl rfl rfl ?_
  refine xc_seq <| xc_region <| xp rfl (asg rfl) <| xl_nil <| xq_then <| ?_
  refine xc_seq <| xc_region <| xe rfl (mkm 9 3 .i64) fun b1 _ => xp rfl (asg rfl) <| xl_nil <| xq_then <| ?_
  refine xc_seq <| xc_seq <| xc_region <| xp rfl (mv rfl) <| xp rfl (lenv Tryz.underlying104 rfl) <| xp rfl (mv rfl) <| xl_nil <| xq_then <| xc_block <| xc_loopP (σ := Nat) (fun k => [(9, .int .i64 k), (3, _), (7, _), (8, _)]) (fun k => k ≤ l.length) (fun k => HP w [mapR Tryz.prog 9 3 .i64 b1 k (gId (l.take k))]) (fun k => l.length - k) 0 (Nat.zero_le _) (sc rfl <| sc rfl <| sc rfl <| sc rfl <| sn) (fun W hW => by rw [List.take_zero, gId_nil]; exact hW) fun k hk => ?_
  refine xc_seq <| xc_region <| xp rfl (bin rfl rfl bk_lss) <| xl_nil <| xq_then <| xc_seq <| xc_cond rfl (fun hc1 => ?_) (fun hc1 => ?_)
  ·
    have hk1 : k < l.length := by have h := of_decide_eq_true hc1; omega
    obtain ⟨b, off, rfl⟩ := hr.addr (by omega)
    have hid := hids _ (getD_mem hk1 rw0)
    have hgl := gId_le (l.take k) (kId (l.getD k rw0).id)
    rw [List.length_take] at hgl
    refine xc_skip <| xq_then <| xc_seq <| xc_block <| xc_seq <| xc_region <| xp rfl (ix so_104 rfl rfl (by omega) (by omega)) <| xp rfl (ldc kd_170 rfl (vs := _) (fun W hW => rw_at (hr.up hW) hk1 (by omega)) rfl) <| xe rfl (al zo_170) fun b2 _ => xs (st sz_170 rfl rfl rfl rfl .head rfl rfl) <| xl_nil <| xq_then <| ?_
    refine xc_seq <| xc_region <| xp rfl (mv rfl) <| xp rfl (fa fa_170_0 rfl) <| xp rfl (ld kd_9 rfl .head rfl) <| xp rfl (mlk mt_175 rfl rfl (key_id (by omega)) (.tail .head)) <| xp rfl (bin rfl rfl bk_add) <| xs (mu mt_175 rfl rfl rfl (key_id (by omega)) (wf_wrap _) (by simp only [maxLen]; omega) (.tail .head)) <| xl_nil <| xq_then <| ?_
    refine xc_seq <| xc_toH (HP w [cellR b2 170 (Rw.c (l.getD k rw0)), mapR Tryz.prog 9 3 .i64 b1 (k + 1) (gId (l.take (k + 1)))]) (fun W hW => by rw [wrap64 (by omega) (by omega), gId_put, ← take_step hk1] at hW; exact hW) ?_
    refine xc_region <| xp rfl (fa fa_170_0 rfl) <| xp rfl (ld kd_9 rfl .head rfl) <| xv rfl Tryz.call111 rfl rfl (fun W hW => (mayid_ok (hG.up hW) (by omega))) <| xp rfl (un rfl uk_not) <| xp rfl (mv rfl) <| xl_or 6 28 (fun hg2 => xgT rfl rfl rfl hg2 <| xp rfl (mv rfl) <| xgT rfl rfl rfl hg2 <| xp rfl (fa fa_170_0 rfl) <| xgT rfl rfl rfl hg2 <| xp rfl (ld kd_9 rfl .head rfl) <| xgT rfl rfl rfl hg2 <| xp rfl (mlk mt_175 rfl rfl (key_id (by omega)) (.tail .head)) <| xgT rfl rfl rfl hg2 <| xp rfl (bin rfl rfl bk_gtr) <| xp rfl (pickF rfl hg2 rfl) <| xl_nil <| xq_or_yes hg2 (.kc rfl <| .kc rfl <| .kc rfl <| .kc rfl <| .kc rfl .kn) (fun _ h => h)) (fun hg2 => xgF rfl rfl rfl hg2 <| xgF rfl rfl rfl hg2 <| xgF rfl rfl rfl hg2 <| xgF rfl rfl rfl hg2 <| xgF rfl rfl rfl hg2 <| xp rfl (pickT rfl hg2 rfl) <| xl_nil <| xq_or_no hg2 (.kc rfl <| .kc rfl <| .kc rfl <| .kc rfl <| .kc rfl .kn) (fun _ h => h)) <| xl_nil <| xq_then <| xc_cond rfl (fun hc3 => ?_) (fun hc3 => ?_)
    ·
      exfalso
      have h1 := gId_nodup (hn.sublist ((List.take_sublist (k + 1) l).map _)) (kId (l.getD k rw0).id)
      rw [hid.1] at hc3
      simp only [Bool.not_true, Bool.false_or, decide_eq_true_eq] at hc3
      omega
    ·
      refine xc_skip <| xq_in <| xq_then <| xc_region <| xp rfl (bin rfl rfl bk_add) <| xp rfl (mv rfl) <| xl_nil <| xq_roundP (k + 1) (by omega) (by omega) (sc (iw (by omega) (by omega) (by omega) rfl) <| sc rfl <| sc rfl <| sc rfl <| sn) (fun W hW => hW.sub (.cons _ <| .refl _))
  ·
    obtain rfl : k = l.length := by have h := of_decide_eq_false hc1; omega
    refine xc_exit <| xq_then_exit <| xq_then_exit <| xq_in_hit <| xq_then <| xc_seq <| xc_region <| xp rfl (asg rfl) <| xl_nil <| xq_then <| xc_ret <| leave1 (.inl rfl) rfl (.tmp rfl) fun W hW => (⟨rfl, hW.below⟩)

/-! The slots that somebody has. -/
def gSlot (l : List Ac) : Lit → Int
  | .int .u64 z => ((l.filter fun a => decide ((a.slot : Int) = z)).length : Int)
  | _ => 0
abbrev kSlot (n : Nat) : Lit := .int .u64 n
theorem gSlot_nil : gSlot [] = fun _ => 0 := by
  funext l; cases l with
  | int q z => cases q <;> rfl
  | _ => rfl
theorem gSlot_le (l : List Ac) (n : Nat) : 0 ≤ gSlot l (kSlot n) ∧ gSlot l (kSlot n) ≤ l.length := by
  simp only [gSlot, kSlot]; exact ⟨by omega, by exact_mod_cast List.length_filter_le _ _⟩
theorem gSlot_put (l : List Ac) (a : Ac) : mput (gSlot l) (kSlot a.slot) (gSlot l (kSlot a.slot) + 1) = gSlot (l ++ [a]) := by
  funext x
  by_cases h : x = kSlot a.slot
  · subst h; rw [mput_same]; simp [gSlot, kSlot]
  · rw [mput_other h]
    cases x with
    | int q z =>
      cases q <;> simp only [gSlot]
      have : ¬ (a.slot : Int) = z := fun e => h (by rw [← e])
      simp [this]
    | _ => rfl
theorem gSlot_zero (l : List Ac) (n : Nat) : (gSlot l (kSlot n) == 0) = freeAt l n := by
  rw [Bool.eq_iff_iff, beq_iff_eq, freeAt_iff]
  simp only [gSlot, kSlot]
  constructor
  · intro h hm
    obtain ⟨a, ha, e⟩ := List.mem_map.1 hm
    have := List.length_pos_of_mem (List.mem_filter.2 ⟨ha, by simp [e]⟩ : a ∈ l.filter fun x => decide ((x.slot : Int) = n))
    omega
  · intro h
    have : l.filter (fun x => decide ((x.slot : Int) = n)) = [] := List.filter_eq_nil_iff.2 fun a ha => by
      simp only [decide_eq_true_eq]; intro e; exact h (List.mem_map.2 ⟨a, ha, by omega⟩)
    rw [this]; rfl
theorem key_slot {n : Nat} (h : n < 18446744073709551616) : keyOf Tryz.prog 33 (.int .u64 n) = some (kSlot n) := Go.Maps.keyOf_int_mk Tryz.underlying33 (by simp [Lit.wf, IntKind.min, IntKind.max, IntKind.bits, IntKind.signed]; omega)
theorem wu64 {z : Int} {m : Nat} (e : z = m) (h : m < 18446744073709551616) : IntKind.u64.wrap z = (m : Int) := by rw [e, wrapU64, Nat.mod_eq_of_lt h]
theorem freeF_at {l : List Ac} {h a k : Nat} (hk : k < 2 ^ h) (hf : freeAt l ((a % 2 ^ h + k) % 2 ^ h) = true) (hlo : ∀ i, i < k → freeAt l ((a % 2 ^ h + i) % 2 ^ h) = false) : freeF l h a = (a % 2 ^ h + k) % 2 ^ h := by
  have : ((List.range (2 ^ h)).map fun k => (a % 2 ^ h + k) % 2 ^ h).find? (freeAt l) = some ((a % 2 ^ h + k) % 2 ^ h) :=
    List.find?_eq_some_iff_getElem.2 ⟨hf, k, by simpa using hk, by simp, fun j hj => by simp only [List.getElem_map, List.getElem_range, hlo j hj]; rfl⟩
  unfold freeF; rw [this]; rfl
theorem tmodN (a b : Nat) : (a : Int).tmod (b : Int) = ((a % b : Nat) : Int) := by
  rw [Int.tmod_eq_emod_of_nonneg (by omega)]; rfl

theorem of_slots {A : Option Addr} {l : List Ac} {c : Nat} {w : World} (hr : rowOf w 5 Ac.c A l) (hs : ∀ a ∈ l, a.slot < 18446744073709551616) (hl : l.length ≤ 100000) :
  Ret Tryz.prog 91 [.slice A l.length c] w (fun b : Nat => .map (some b)) (fun _ => True) (fun b => [mapR Tryz.prog 33 3 .i64 b l.length (gSlot l)]) := by
  refine begin_ Tryz.func91 rfl rfl rfl ?_
  refine xc_seq <| xc_region <| xp rfl (asg rfl) <| xl_nil <| xq_then <| ?_
  refine xc_seq <| xc_region <| xe rfl (mkm 33 3 .i64) fun b1 _ => xp rfl (asg rfl) <| xl_nil <| xq_then <| ?_
  refine xc_seq <| xc_seq <| xc_region <| xp rfl (mv rfl) <| xp rfl (lenv Tryz.underlying49 rfl) <| xp rfl (mv rfl) <| xl_nil <| xq_then <| xc_block <| xc_loopP (σ := Nat) (fun k => [(9, .int .i64 k), (3, _), (7, _), (8, _)]) (fun k => k ≤ l.length) (fun k => HP w [mapR Tryz.prog 33 3 .i64 b1 k (gSlot (l.take k))]) (fun k => l.length - k) 0 (Nat.zero_le _) (sc rfl <| sc rfl <| sc rfl <| sc rfl <| sn) (fun W hW => by rw [List.take_zero, gSlot_nil]; exact hW) fun k hk => ?_
  refine xc_seq <| xc_region <| xp rfl (bin rfl rfl bk_lss) <| xl_nil <| xq_then <| xc_seq <| xc_cond rfl (fun hc1 => ?_) (fun hc1 => ?_)
  ·
    have hk1 : k < l.length := by have h := of_decide_eq_true hc1; omega
    obtain ⟨b, off, rfl⟩ := hr.addr (by omega)
    have hsl := hs _ (getD_mem hk1 ac0)
    have hgl := gSlot_le (l.take k) (getA l k).slot
    rw [List.length_take] at hgl
    refine xc_skip <| xq_then <| xc_seq <| xc_block <| xc_seq <| xc_region <| xp rfl (ix so_49 rfl rfl (by omega) (by omega)) <| xp rfl (ldc kd_52 rfl (vs := _) (fun W hW => ac_at (hr.up hW) hk1 (by omega)) rfl) <| xe rfl (al zo_52) fun b2 _ => xs (st sz_52 rfl rfl rfl rfl .head rfl rfl) <| xl_nil <| xq_then <| ?_
    refine xc_region <| xp rfl (mv rfl) <| xp rfl (fa fa_52_3 rfl) <| xp rfl (ld kd_33 rfl .head rfl) <| xp rfl (mlk mt_183 rfl rfl (key_slot hsl) (.tail .head)) <| xp rfl (bin rfl rfl bk_add) <| xs (mu mt_183 rfl rfl rfl (key_slot hsl) (wf_wrap _) (by simp only [maxLen]; omega) (.tail .head)) <| xl_nil <| xq_in <| xq_then <| ?_
    refine xc_region <| xp rfl (bin rfl rfl bk_add) <| xp rfl (mv rfl) <| xl_nil <| xq_roundP (k + 1) (by omega) (by omega) (sc (iw (by omega) (by omega) (by omega) rfl) <| sc rfl <| sc rfl <| sc rfl <| sn) (fun W hW => by rw [wrap64 (by omega) (by omega), gSlot_put, show l.take k ++ [getA l k] = l.take (k + 1) from (take_step hk1 ac0).symm] at hW; exact hW.drop)
  ·
    obtain rfl : k = l.length := by have h := of_decide_eq_false hc1; omega
    refine xc_exit <| xq_then_exit <| xq_then_exit <| xq_in_hit <| xq_then <| xc_seq <| xc_region <| xp rfl (mv rfl) <| xp rfl (asg rfl) <| xl_nil <| xq_then <| xc_ret <| leave1 (.inl rfl) rfl (.tmp rfl) fun W hW => (⟨b1, rfl, trivial, by rw [List.take_length] at hW; exact hW⟩)

theorem free_ok {w : World} {mb m h a : Nat} {l : List Ac} (hm : (mapR Tryz.prog 33 3 .i64 mb m (gSlot l)).ok w) (hh : h ≤ 10) (ha : a < 18446744073709551616) (hl : l.length < 2 ^ h) :
  RetV Tryz.prog 93 [.map (some mb), .int .i64 h, .int .u64 a] w (.tuple #[.int .u64 (freeF l h a), .bool true]) := by
  have h2 : 2 ^ h ≤ 2 ^ 10 := Nat.pow_le_pow_right (by decide) hh
  have hp : 0 < 2 ^ h := Nat.two_pow_pos h
  have em : IntKind.u64.wrap (1 * 2 ^ (min (h : Int).toNat IntKind.u64.bits)) = ((2 ^ h : Nat) : Int) := by
    rw [show min (h : Int).toNat IntKind.u64.bits = h by rw [Int.toNat_natCast]; exact Nat.min_eq_left (by simp only [IntKind.bits]; omega)]
    exact wu64 (by simp) (by omega)
  refine begin_ Tryz.func93 rfl rfl rfl ?_
  refine xc_seq <| xc_region <| xp rfl (asg rfl) <| xp rfl (asg rfl) <| xl_nil <| xq_then <| ?_
  refine xc_seq <| xc_region <| xp rfl (mv rfl) <| xp rfl (bin rfl rfl (bk_shl (by omega))) <| xp rfl (asg rfl) <| xl_nil <| xq_then <| ?_
  refine xc_seq <| xc_seq <| xc_region <| xp rfl (mv rfl) <| xp rfl (mv rfl) <| xl_nil <| xq_then <| xc_block <| xc_loopP (σ := Nat) (fun k => [(14, .int .u64 k), (0, _), (2, _), (8, _), (13, _)]) (fun k => k ≤ 2 ^ h ∧ ∀ i, i < k → freeAt l ((a % 2 ^ h + i) % 2 ^ h) = false) (fun k => HP w []) (fun k => 2 ^ h - k) 0 ⟨Nat.zero_le _, fun i h => absurd h (by omega)⟩ (sc rfl <| sc rfl <| sc rfl <| sc rfl <| sc rfl <| sn) (fun W hW => hW) fun k ⟨hk, hlo⟩ => ?_
  refine xc_seq <| xc_region <| xp rfl (bin rfl rfl bk_lss) <| xl_nil <| xq_then <| xc_seq <| xc_cond rfl (fun hc1 => ?_) (fun hc1 => ?_)
  ·
    have hk1 : k < 2 ^ h := by have h := of_decide_eq_true hc1; rw [em] at h; omega
    have en : ((IntKind.u64.wrap ((a : Int).tmod (IntKind.u64.wrap (1 * 2 ^ (min (h : Int).toNat IntKind.u64.bits))) + k)).tmod (IntKind.u64.wrap (1 * 2 ^ (min (h : Int).toNat IntKind.u64.bits)))) = (((a % 2 ^ h + k) % 2 ^ h : Nat) : Int) := by
      have := Nat.mod_lt a hp
      rw [em, tmodN, wu64 (m := a % 2 ^ h + k) (by omega) (by omega), tmodN]
    have hn1 := Nat.mod_lt (a % 2 ^ h + k) hp
    refine xc_skip <| xq_then <| xc_seq <| xc_block <| xc_seq <| xc_region <| xp rfl (mv rfl) <| xp rfl (asg rfl) <| xl_nil <| xq_then <| ?_
    refine xc_seq <| xc_region <| xp rfl (mv rfl) <| xp rfl (mv rfl) <| xp rfl (bin rfl rfl (bk_rem (by rw [em]; omega))) <| xp rfl (mv rfl) <| xp rfl (bin rfl rfl bk_add) <| xp rfl (mv rfl) <| xp rfl (bin rfl rfl (bk_rem (by rw [em]; omega))) <| xp rfl (asg rfl) <| xl_nil <| xq_then <| ?_
    refine xc_seq <| xc_region <| xp rfl (mv rfl) <| xp rfl (mv rfl) <| xp rfl (mlkF mt_183 rfl rfl (by rw [en]; exact key_slot (by omega)) (fun W hW => mapR_below hm hW.below)) <| xp rfl (bin rfl rfl bk_eql) <| xl_nil <| xq_then <| xc_cond rfl (fun hc2 => ?_) (fun hc2 => ?_)
    ·
      have hf : freeAt l ((a % 2 ^ h + k) % 2 ^ h) = true := by rw [← gSlot_zero]; exact hc2
      refine xc_seq <| xc_region <| xp rfl (mv rfl) <| xp rfl (asg rfl) <| xp rfl (asg rfl) <| xl_nil <| xq_then <| xc_ret <| xq_in_ret <| xq_then_ret <| xq_then_ret <| xq_in_ret <| xq_then_ret <| leave2 (.inl rfl) rfl (.tmp rfl) (.tmp rfl) fun W hW => (⟨by rw [en, freeF_at hk1 hf hlo], hW.below⟩)
    ·
      have hf : freeAt l ((a % 2 ^ h + k) % 2 ^ h) = false := by rw [← gSlot_zero]; exact hc2
      refine xc_skip <| xq_in <| xq_then <| xc_region <| xp rfl (bin rfl rfl bk_add) <| xp rfl (mv rfl) <| xl_nil <| xq_roundP (k + 1) (⟨by omega, fun i hi => by rcases Nat.lt_or_eq_of_le (Nat.le_of_lt_succ hi) with h | h; exact hlo i h; subst h; exact hf⟩) (by omega) (sc (Env.as (congrArg (Value.int .u64) (wu64 (m := k + 1) (by omega) (by omega))) rfl) <| sc rfl <| sc rfl <| sc rfl <| sc rfl <| sn) (fun W hW => hW.sub (.refl _))
  ·
    exfalso
    obtain ⟨n, n1, n2⟩ := free_ex hl
    have hk2 : k = 2 ^ h := by have h := of_decide_eq_false hc1; rw [em] at h; omega
    have h3 : a % 2 ^ h < 2 ^ h := Nat.mod_lt _ hp
    have h4 := hlo ((n + (2 ^ h - a % 2 ^ h)) % 2 ^ h) (by rw [hk2]; exact Nat.mod_lt _ hp)
    rw [Nat.add_mod_mod, show a % 2 ^ h + (n + (2 ^ h - a % 2 ^ h)) = n + 2 ^ h by omega, Nat.add_mod_right, Nat.mod_eq_of_lt n1, n2] at h4
    cases h4

end Go.Eng
end
section
namespace Go.Eng
open Go Go.RowKit Go.Proofs Go.Maps
set_option linter.unusedVariables false
set_option linter.unusedSimpArgs false
set_option maxRecDepth 4000
def acRw (a : Ac) : Rw := ⟨a.id, a.bal⟩
theorem acRw_ids (l : List Ac) : (l.map acRw).map Rw.id = l.map Ac.id := by rw [List.map_map]; rfl
theorem gSlot_nodup {l : List Ac} (h : (l.map Ac.slot).Nodup) (n : Nat) : gSlot l (kSlot n) ≤ 1 := by
  simp only [gSlot, kSlot]
  have h1 : ((l.filter fun a => decide ((a.slot : Int) = n)).map Ac.slot).Nodup := h.sublist (List.filter_sublist.map _)
  have h2 : ∀ a ∈ l.filter fun a => decide ((a.slot : Int) = n), a.slot = n := fun a ha => by have := (List.mem_filter.1 ha).2; simp only [decide_eq_true_eq] at this; omega
  generalize l.filter (fun a => decide ((a.slot : Int) = n)) = m at h1 h2
  match m, h1, h2 with
  | [], _, _ => simp
  | [_], _, _ => simp
  | a :: b :: m, h1, h2 =>
    simp only [List.map_cons, List.nodup_cons, List.mem_cons, not_or] at h1
    exact absurd ((h2 a (by simp)).trans (h2 b (by simp)).symm) h1.1.1
theorem row_of_cell {α : Type} {K : Nat} {enc : α → List Value} {w0 W : World} {Rs : List Res} {b e : Nat} {l : List α} {f : Res → List Res} (hK : ∀ x, (enc x).length = K) (hW : HP w0 Rs W) (hp : Pos Rs (cellR b e (l.flatMap enc)) f) (hl : l.length ≤ 9223372036854775807) : rowOf W K enc (some ⟨b, 0, none⟩) l :=
  ⟨length_flatMap_enc hK l, hl, fun _ => ⟨b, 0, rfl, cells_of hW hp⟩⟩
theorem pow_small {h : Nat} (hh : h ≤ 10) : 0 < 2 ^ h ∧ 2 ^ h ≤ 1024 := ⟨Nat.two_pow_pos h, Nat.pow_le_pow_right (n := 2) (by decide) hh⟩
theorem many64 {h : Nat} (hh : h ≤ 10) : IntKind.u64.wrap (1 * 2 ^ (min (h : Int).toNat IntKind.u64.bits)) = ((2 ^ h : Nat) : Int) := by
  have := pow_small hh
  rw [show min (h : Int).toNat IntKind.u64.bits = h by rw [Int.toNat_natCast]; exact Nat.min_eq_left (by simp only [IntKind.bits]; omega)]
  exact wu64 (by simp) (by omega)

theorem may_ok {A : Option Addr} {l : List Ac} {c h : Nat} {seed : ByteArray} {w : World} (hG : Glob w) (hh : h ≤ 10) (hr : rowOf w 5 Ac.c A l) (hA : AccOK h seed l) (hl : l.length ≤ 100000) :
  RetV Tryz.prog 88 [.slice A l.length c, .int .i64 h] w (.bool true) := by
  have hp2 := pow_small hh
  have em := many64 hh
  refine begin_ Tryz.func88 rfl rfl rfl ?_
  refine xc_seq <| xc_region <| xp rfl (asg rfl) <| xl_nil <| xq_then <| ?_
  refine xc_seq <| xc_seq <| xc_region <| xp rfl (mv rfl) <| xv rfl Tryz.call87 rfl rfl (fun W hW => (high_ok _ W)) <| xp rfl (un rfl uk_not) <| xl_nil <| xq_then <| xc_cond rfl (fun hc1 => ?_) (fun hc1 => ?_)
  ·
    exfalso
    have : highF (h : Int) = true := by simp [highF]; omega
    rw [this] at hc1; cases hc1
  ·
    refine xc_skip <| xq_then <| xc_seq <| xc_region <| xe rfl (mkm 9 3 .i64) fun b1 _ => xe rfl (mkm 33 3 .i64) fun b2 _ => xp rfl (asg rfl) <| xp rfl (asg rfl) <| xl_nil <| xq_then <| ?_
    refine xc_seq <| xc_seq <| xc_region <| xp rfl (mv rfl) <| xp rfl (lenv Tryz.underlying49 rfl) <| xp rfl (mv rfl) <| xl_nil <| xq_then <| xc_block <| xc_loopP (σ := Nat) (fun k => [(16, .int .i64 k), (1, _), (5, _), (6, _), (14, _), (15, _)]) (fun k => k ≤ l.length) (fun k => HP w [mapR Tryz.prog 33 3 .i64 b2 k (gSlot (l.take k)), mapR Tryz.prog 9 3 .i64 b1 k (gId ((l.take k).map acRw))]) (fun k => l.length - k) 0 (Nat.zero_le _) (sc rfl <| sc rfl <| sc rfl <| sc rfl <| sc rfl <| sc rfl <| sn) (fun W hW => by rw [List.take_zero, List.map_nil, gSlot_nil, gId_nil]; exact hW) fun k hk => ?_
    refine xc_seq <| xc_region <| xp rfl (bin rfl rfl bk_lss) <| xl_nil <| xq_then <| xc_seq <| xc_cond rfl (fun hc2 => ?_) (fun hc2 => ?_)
    ·
      have hk1 : k < l.length := by have h := of_decide_eq_true hc2; omega
      obtain ⟨b, off, rfl⟩ := hr.addr (by omega)
      have hmem : getA l k ∈ l := getD_mem hk1 ac0
      have hid := hA.ids _ hmem
      have hsl := hA.slot _ hmem
      have hsa := hA.salt _ hmem
      have hsz : (getA l k).salt.size = 16 := by rw [hsa]; exact saltF_size _ _
      have hgl := gSlot_le (l.take k) (getA l k).slot
      have hgi := gId_le ((l.take k).map acRw) (kId (getA l k).id)
      rw [List.length_take] at hgl
      rw [List.length_map, List.length_take] at hgi
      have e1 : mput (gId ((l.take k).map acRw)) (kId (getA l k).id) (gId ((l.take k).map acRw) (kId (getA l k).id) + 1) = gId ((l.take (k + 1)).map acRw) := by rw [take_step hk1 ac0, List.map_append]; exact gId_put _ (acRw (getA l k))
      have e2 : mput (gSlot (l.take k)) (kSlot (getA l k).slot) (gSlot (l.take k) (kSlot (getA l k).slot) + 1) = gSlot (l.take (k + 1)) := by rw [take_step hk1 ac0]; exact gSlot_put _ _
      have hw1 : IntKind.i64.wrap (gId ((l.take k).map acRw) (kId (getA l k).id) + 1) = gId ((l.take k).map acRw) (kId (getA l k).id) + 1 := wrap64 (by omega) (by omega)
      have hw2 : IntKind.i64.wrap (gSlot (l.take k) (kSlot (getA l k).slot) + 1) = gSlot (l.take k) (kSlot (getA l k).slot) + 1 := wrap64 (by omega) (by omega)
      have hn1 := gId_nodup (rows := (l.take (k + 1)).map acRw) (by rw [acRw_ids]; exact hA.asc.nodup.sublist ((List.take_sublist _ l).map _)) (kId (getA l k).id)
      have hn2 := gSlot_nodup (hA.slots.sublist ((List.take_sublist (k + 1) l).map _)) (getA l k).slot
      have kg1 : (!mayIdF (getA l k).id) = false := by rw [hid.1]; rfl
      have kg2 : decide (IntKind.u64.wrap (1 * 2 ^ (min (h : Int).toNat IntKind.u64.bits)) ≤ ((getA l k).slot : Int)) = false := by rw [em]; exact decide_eq_false (by omega)
      have kg3 : decide (32 < ((getA l k).salt.size : Int)) = false := decide_eq_false (by omega)
      have kg4 : decide (1 < gId ((l.take (k + 1)).map acRw) (kId (getA l k).id)) = false := decide_eq_false (by omega)
      refine xc_skip <| xq_then <| xc_seq <| xc_block <| xc_seq <| xc_region <| xp rfl (ix so_49 rfl rfl (by omega) (by omega)) <| xp rfl (ldc kd_52 rfl (vs := _) (fun W hW => ac_at (hr.up hW) hk1 (by omega)) rfl) <| xe rfl (al zo_52) fun b3 _ => xs (st sz_52 rfl rfl rfl rfl .head rfl rfl) <| xl_nil <| xq_then <| ?_
      refine xc_seq <| xc_region <| xp rfl (mv rfl) <| xp rfl (fa fa_52_0 rfl) <| xp rfl (ld kd_9 rfl .head rfl) <| xp rfl (mlk mt_175 rfl rfl (key_id (by omega)) (.tail <| .tail .head)) <| xp rfl (bin rfl rfl bk_add) <| xs (mu mt_175 rfl rfl rfl (key_id (by omega)) (wf_wrap _) (by simp only [maxLen]; omega) (.tail <| .tail .head)) <| xl_nil <| xq_then <| ?_
      refine xc_seq <| xc_region <| xp rfl (mv rfl) <| xp rfl (fa fa_52_3 rfl) <| xp rfl (ld kd_33 rfl .head rfl) <| xp rfl (mlk mt_182 rfl rfl (key_slot (by omega)) (.tail .head)) <| xp rfl (bin rfl rfl bk_add) <| xs (mu mt_182 rfl rfl rfl (key_slot (by omega)) (wf_wrap _) (by simp only [maxLen]; omega) (.tail .head)) <| xl_nil <| xq_then <| ?_
      refine xc_seq <| xc_toH (HP w [cellR b3 52 (Ac.c (getA l k)), mapR Tryz.prog 33 3 .i64 b2 (k + 1) (gSlot (l.take (k + 1))), mapR Tryz.prog 9 3 .i64 b1 (k + 1) (gId ((l.take (k + 1)).map acRw))]) (fun W hW => by rw [hw1, e1, hw2, e2] at hW; exact hW) ?_
      refine xc_draw (canon := [(0, .p), (1, .p), (2, .p), (3, .p), (4, .p), (5, .p), (6, .p), (7, .p), (8, .p), (9, .p), (10, .p), (11, .p), (12, .p), (13, .p), (14, .p), (15, .p), (16, .p), (17, .p), (18, .p), (19, .p), (20, .p), (21, .p), (22, .p), (23, .p), (24, .p), (25, .p), (26, .p), (27, .p), (28, .p), (29, .p), (30, .p)]) (Z := HP _ [cellR b3 _ _, _, _]) mixed_ rfl (akp <| akp <| akp <| akp <| akp <| akp <| akp <| akp <| akp <| akp <| akp <| akp <| akp <| akp <| akp <| akp <| akp <| akp <| akp <| akp <| akp <| akp <| akp <| akp <| akp <| akp <| akp <| akp <| akp <| akp <| akp <| ak0) (zsub (.cons_cons _ <| .cons_cons _ <| .cons_cons _ <| List.nil_sublist _)) ?_
      refine dp rfl rfl rfl rfl (fa fa_52_0 rfl) <| dp rfl rfl rfl rfl (ld kd_9 rfl .head rfl) <| dq rfl rfl rfl rfl rfl Tryz.call111 rfl rfl (fun W hW => (mayid_ok (hG.below (Go.Eng.HP.below hW)) (by omega))) <| dp rfl rfl rfl rfl (un rfl uk_not) <| dp rfl rfl rfl rfl (mv rfl) <| dpT rfl rfl rfl rfl rfl rfl kg1 (fa fa_52_3 rfl) <| dpT rfl rfl rfl rfl rfl rfl kg1 (ld kd_33 rfl .head rfl) <| dpT rfl rfl rfl rfl rfl rfl kg1 (mv rfl) <| dpT rfl rfl rfl rfl rfl rfl kg1 (bin rfl rfl (bk_shl (by omega))) <| dpT rfl rfl rfl rfl rfl rfl kg1 (bin rfl rfl bk_geq) <| dp rfl rfl rfl rfl (pickF rfl kg1 rfl) <| dp rfl rfl rfl rfl (mv rfl) <| dpT rfl rfl rfl rfl rfl rfl kg2 (fa fa_52_2 rfl) <| dpT rfl rfl rfl rfl rfl rfl kg2 (ld kd_9 rfl .head rfl) <| dpT rfl rfl rfl rfl rfl rfl kg2 (lens Tryz.underlying9 rfl) <| dpT rfl rfl rfl rfl rfl rfl kg2 (bin rfl rfl bk_gtr) <| dp rfl rfl rfl rfl (pickF rfl kg2 rfl) <| dp rfl rfl rfl rfl (mv rfl) <| dpT rfl rfl rfl rfl rfl rfl kg3 (mv rfl) <| dpT rfl rfl rfl rfl rfl rfl kg3 (fa fa_52_0 rfl) <| dpT rfl rfl rfl rfl rfl rfl kg3 (ld kd_9 rfl .head rfl) <| dpT rfl rfl rfl rfl rfl rfl kg3 (mlk mt_175 rfl rfl (key_id (by omega)) (.tail <| .tail .head)) <| dpT rfl rfl rfl rfl rfl rfl kg3 (bin rfl rfl bk_gtr) <| dp rfl rfl rfl rfl (pickF rfl kg3 rfl) <| dp rfl rfl rfl rfl (mv rfl) <| dpT rfl rfl rfl rfl rfl rfl kg4 (mv rfl) <| dpT rfl rfl rfl rfl rfl rfl kg4 (fa fa_52_3 rfl) <| dpT rfl rfl rfl rfl rfl rfl kg4 (ld kd_33 rfl .head rfl) <| dpT rfl rfl rfl rfl rfl rfl kg4 (mlk mt_182 rfl rfl (key_slot (by omega)) (.tail .head)) <| dpT rfl rfl rfl rfl rfl rfl kg4 (bin rfl rfl bk_gtr) <| dp rfl rfl rfl rfl (pickF rfl kg4 rfl) <| dend <| xq_then <| xc_cond rfl (fun hc3 => ?_) (fun hc3 => ?_)
      ·
        exfalso; have h := of_decide_eq_true hc3; omega
      ·
        refine xc_skip <| xq_in <| xq_then <| xc_region <| xp rfl (bin rfl rfl bk_add) <| xp rfl (mv rfl) <| xl_nil <| xq_roundP (k + 1) (by omega) (by omega) (sc (iw (by omega) (by omega) (by omega) rfl) <| sc rfl <| sc rfl <| sc rfl <| sc rfl <| sc rfl <| sn) (fun W hW => hW.sub (.cons _ <| .refl _))
    ·
      obtain rfl : k = l.length := by have h := of_decide_eq_false hc2; omega
      refine xc_exit <| xq_then_exit <| xq_then_exit <| xq_in_hit <| xq_then <| xc_seq <| xc_region <| xp rfl (asg rfl) <| xl_nil <| xq_then <| xc_ret <| leave1 (.inl rfl) rfl (.tmp rfl) fun W hW => (⟨rfl, hW.below⟩)

theorem coming_ok {A B : Option Addr} {n m c c2 : Nat} (w : World) : Ret Tryz.prog 92 [.slice A n c, .slice B m c2] w (fun s : Nat × Nat => .func (.func 172) #[] #[.pointer (some ⟨s.1, 0, none⟩), .pointer (some ⟨s.2, 0, none⟩)]) (fun _ => True) (fun s => [cellR s.1 104 [.slice B m c2], cellR s.2 49 [.slice A n c]]) := by
  refine begin_ Tryz.func92 rfl rfl rfl ?_
  refine xc_seq <| xc_region <| xe rfl (bx rfl rfl) fun b1 _ => xe rfl (bx rfl rfl) fun b2 _ => xp rfl (asg rfl) <| xl_nil <| xq_then <| ?_
  refine xc_seq <| xc_region <| xp rfl (mf rfl rfl) <| xp rfl (asg rfl) <| xl_nil <| xq_then <| xc_ret <| leave1 (.inl rfl) rfl (.tmp rfl) fun W hW => (⟨(b2, b1), rfl, trivial, hW⟩)

abbrev encR (r : Rw) : List Value := [r.V]
theorem newF_step (was : List Ac) {rows : List Rw} {k : Nat} (hk : k < rows.length) : newF was (rows.drop k) = (if hasF was (rows.getD k rw0).id = true then [] else [rows.getD k rw0]) ++ newF was (rows.drop (k + 1)) := by
  have e : rows.getD k rw0 = rows[k] := by simp [List.getD_eq_getElem?_getD, hk]
  rw [List.drop_eq_getElem_cons hk, e]
  simp only [newF, List.filter_cons]
  cases h : hasF was rows[k].id <;> simp

theorem coming_iter {w1 : World} {sb1 sb2 : Nat} {A B : Option Addr} {c c2 : Nat} {was : List Ac} {rows : List Rw} (hA : rowOf w1 5 Ac.c A was) (hR : rowOf w1 3 Rw.c B rows) (hasc : Asc Rw.id rows) (hl : rows.length ≤ 100000) :
  Iter Tryz.prog 172 [.pointer (some ⟨sb1, 0, none⟩), .pointer (some ⟨sb2, 0, none⟩)] encR [cellR sb1 104 [.slice B rows.length c2], cellR sb2 49 [.slice A was.length c]] (newF was rows) w1 := by
  intro w0 l J Jx L W hB hW hJ hy
  have hA := hA.below hB
  have hR := hR.below hB
  refine begin_at Tryz.func172 rfl rfl rfl hW ?_
  refine xc_seq <| xc_region <| xp rfl (ld kd_104 rfl .head rfl) <| xr rfl Tryz.call86 rfl rfl (fun W hW => (rsort_ok (hR.up hW) hl hasc.nodup)) fun rb _ => xp rfl (lenv Tryz.underlying104 rfl) <| xp rfl (mv rfl) <| xl_nil <| xq_then <| xc_block <| xc_loopP (σ := Nat × List Rw × List Res) (fun s => [(11, .int .i64 s.1), (0, _), (2, _), (9, _), (10, _)]) (fun s => s.1 ≤ rows.length ∧ newF was rows = s.2.1 ++ newF was (rows.drop s.1) ∧ J s.2.1 s.2.2) (fun s => HP w0 (cellR rb 170 (rows.flatMap Rw.c) :: cellR sb1 104 [.slice B rows.length c2] :: cellR sb2 49 [.slice A was.length c] :: s.2.2)) (fun s => rows.length - s.1) (0, [], L) ⟨Nat.zero_le _, by simp, hJ⟩ (sc rfl <| sc rfl <| sc rfl <| sc rfl <| sc rfl <| sn) (fun W hW => by rw [byKey_self hasc] at hW; exact hW) fun s ⟨hk, hall, hj⟩ => ?_
  obtain ⟨k, pre, L1⟩ := s
  simp only at hk hall hj
  refine xc_seq <| xc_region <| xp rfl (bin rfl rfl bk_lss) <| xl_nil <| xq_then <| xc_seq <| xc_cond rfl (fun hc1 => ?_) (fun hc1 => ?_)
  ·
    have hk1 : k < rows.length := by have h := of_decide_eq_true hc1; simp only at h; omega
    rw [newF_step was hk1] at hall
    refine xc_skip <| xq_then <| xc_seq <| xc_block <| xc_seq <| xc_region <| xp rfl (ix so_104 rfl rfl (by simp only; omega) (by simp only; omega)) <| xp rfl (ldc kd_170 rfl (vs := _) (fun W hW => rw_at (row_of_cell rwK hW .head (by omega)) hk1 (by simp)) rfl) <| xe rfl (al zo_170) fun b1 _ => xs (st sz_170 rfl rfl rfl rfl .head rfl rfl) <| xl_nil <| xq_then <| ?_
    refine xc_seq <| xc_region <| xp rfl (ld kd_49 rfl (.tail <| .tail <| .tail .head) rfl) <| xp rfl (fa fa_170_0 rfl) <| xp rfl (ld kd_9 rfl .head rfl) <| xv rfl Tryz.call90 rfl rfl (fun W hW => (find_ok (hA.up hW))) <| xp rfl (mv rfl) <| xp rfl (ext rfl rfl) <| xp rfl (ext rfl rfl) <| xe rfl (al zo_52) fun b2 _ => xs (st sz_52 rfl rfl rfl rfl .head rfl rfl) <| xp rfl (asg rfl) <| xl_nil <| xq_then <| ?_
    refine xc_seq <| xc_em (hasF was (rows.getD k rw0).id = true) (fun hh => ?_) (fun hh => ?_)
    ·
      rw [if_pos hh] at hall
      refine xc_region <| xp rfl (mv rfl) <| xp rfl (un rfl uk_not) <| xp rfl (mv rfl) <| xgF rfl rfl rfl (congrArg not hh) <| xgF rfl rfl rfl (congrArg not hh) <| xgF rfl rfl rfl (congrArg not hh) <| xgF rfl rfl rfl (congrArg not hh) <| xp rfl (pickF rfl (congrArg not hh) rfl) <| xl_nil <| xq_then <| xc_cond rfl (fun hc2 => ?_) (fun hc2 => ?_)
      ·
        cases hc2
      ·
        refine xc_skip <| xq_in <| xq_then <| xc_region <| xp rfl (bin rfl rfl bk_add) <| xp rfl (mv rfl) <| xl_nil <| xq_roundP (k + 1, pre, L1) (⟨hk1, hall, hj⟩) (by simp only; omega) (sc (iw (m := ((k + 1 : Nat) : Int)) (by omega) (by omega) (by omega) rfl) <| sc rfl <| sc rfl <| sc rfl <| sc rfl <| sn) (fun W hW => hW.sub (.cons _ <| .cons _ <| .refl _))
    ·
      rw [if_neg hh] at hall
      refine xc_region <| xp rfl (mv rfl) <| xp rfl (un rfl uk_not) <| xp rfl (mv rfl) <| xgT rfl rfl rfl (congrArg not (Bool.eq_false_iff.2 hh)) <| xp rfl (mv rfl) <| xgT rfl rfl rfl (congrArg not (Bool.eq_false_iff.2 hh)) <| xp rfl (ld kd_170 rfl (.tail .head) rfl) <| xgT rfl rfl rfl (congrArg not (Bool.eq_false_iff.2 hh)) <| xe rfl (yld (Fr := ([cellR b2 52 _, cellR b1 170 _, cellR rb 170 _, cellR sb1 104 _, cellR sb2 49 _])) (hy _ _ _ hall) hj rfl rfl rfl) fun s hs => xgT rfl rfl rfl (congrArg not (Bool.eq_false_iff.2 hh)) <| xp rfl (un rfl uk_not) <| xp rfl (pickT rfl (congrArg not (Bool.eq_false_iff.2 hh)) rfl) <| xl_nil <| xq_then <| xc_cond rfl (fun hc3 => ?_) (fun hc3 => ?_)
      ·
        refine xc_ret <| xq_in_ret <| xq_then_ret <| xq_then_ret <| xq_in_ret <| leave0 (.inl rfl) rfl  fun W hW => (⟨⟨_, rfl⟩, s.2, hW.sub (.cons _ <| .cons _ <| .cons _ <| .cons _ <| .cons _ <| .refl _), .inr ⟨pre ++ [rows.getD k rw0], newF was (rows.drop (k + 1)), by rw [hall]; simp, hs.2 (by simpa using hc3)⟩⟩)
      ·
        refine xc_skip <| xq_in <| xq_then <| xc_region <| xp rfl (bin rfl rfl bk_add) <| xp rfl (mv rfl) <| xl_nil <| xq_roundP (k + 1, pre ++ [rows.getD k rw0], s.2) (⟨hk1, by rw [hall]; simp, hs.1 (by simpa using hc3)⟩) (by simp only; omega) (sc (iw (m := ((k + 1 : Nat) : Int)) (by omega) (by omega) (by omega) rfl) <| sc rfl <| sc rfl <| sc rfl <| sc rfl <| sn) (fun W hW => hW.sub (.cons _ <| .cons _ <| .refl _))
  ·
    obtain rfl : k = rows.length := by have h := of_decide_eq_false hc1; simp only at h; omega
    refine xc_exit <| xq_then_exit <| xq_then_exit <| xq_in_hit <| leave0 (.inr rfl) rfl  fun W hW => (⟨⟨_, rfl⟩, L1, hW.sub (.cons _ <| .cons _ <| .cons _ <| .refl _), .inl (by rw [hall]; simpa [newF] using hj)⟩)

end Go.Eng
end
section
namespace Go.Proofs
open Go Go.Shelf Go.RowKit Go.Lib Go.Sort Go.Eng
set_option linter.unusedVariables false
set_option linter.unusedSimpArgs false
theorem isnan_ex (s : ByteArray) (w : World) : Calls Tryz.prog 177 #[.string s] w fun e w' => e = .returned (.bool false) ∧ w' = w := by
  go_enter Tryz.func177, Tryz.ntmps177
  go_wp2
  go_ret
  exact ⟨by simp, rfl⟩
theorem cmps_ex (a b : ByteArray) (w : World) : Calls Tryz.prog 98 #[.string a, .string b] w fun e w' => e = .returned (.int .i64 (cmpI a b)) ∧ w' = w := by
  have hb := idLt_bytes a b
  go_enter Tryz.func98, Tryz.ntmps98
  go_wp2_with (go_at_call 177; refine (isnan_ex _ _).mono ?_; rintro e w' ⟨rfl, rfl⟩)
  all_goals go_ret
  all_goals refine ⟨?_, rfl⟩
  · have h : idLt a b = true := by assumption
    simp [cmpI, h]
  · have h : idLt a b = false := by assumption
    have h2 : (!a.toList == b.toList) = true := by assumption
    have h3 : idLt b a = true := by
      cases h4 : idLt b a with
      | true => rfl
      | false => rw [idLt_tri h h4] at h2; simp at h2
    simp [cmpI, h, h3]
  · have h : idLt a b = false := by assumption
    have h2 : (!a.toList == b.toList) = false := by assumption
    have h3 : a = b := beq_id.1 (by simpa using h2)
    subst h3
    simp [cmpI, idLt_irrefl]
theorem clos97 (x y : Ac) (W : World) : Calls Tryz.prog 97 #[.agg (Ac.c x).toArray, .agg (Ac.c y).toArray] W fun e w' => e = .returned (.int .i64 (cmpI x.id y.id)) ∧ ∃ q os', w' = grow (W.drewN q) os' := by
  have hcon := fun W' => cmps_ex x.id y.id W'
  generalize cmpI x.id y.id = r at hcon ⊢
  go_enter Tryz.func97, Tryz.ntmps97
  go_wp2_with (go_at_call 98; refine (hcon _).mono ?_; rintro e w' ⟨rfl, rfl⟩)
  go_ret
  exact ⟨rfl, 0, _, by rw [alloc_eq_grow, alloc_eq_grow, grow_grow]; rfl⟩
instance : Inhabited Ac := ⟨ac0⟩
abbrev acCf (x y : Ac) : Int := cmpI x.id y.id
theorem acCf_lt (x y : Ac) : ltOf acCf x y = idLt x.id y.id := cmpI_lt _ _
theorem acSwo : Sort.SWO (ltOf acCf) where
  irrefl x := by rw [acCf_lt]; exact idLt_irrefl _
  trans x y z h1 h2 := by rw [acCf_lt] at *; exact idLt_trans h1 h2
  ntrans x y z h1 h2 := by rw [acCf_lt] at *; exact idLt_le_trans h2 h1
end Go.Proofs
namespace Go.Eng
open Go Go.RowKit Go.Proofs
open Go.Sort (flatK get_flatK HoldsK putRowK putRow mapBlock putCells size_flatK)
set_option linter.unusedVariables false
set_option linter.unusedSimpArgs false
theorem flat_get {α : Type} {K : Nat} {enc : α → List Value} (hK : ∀ x, (enc x).length = K) (l : List α) (d : α) {t : Nat} (ht : t < l.length * K) : (l.flatMap enc)[t]? = (enc (l.getD (t / K) d))[t % K]? := by
  have hK0 : 0 < K := Nat.pos_of_ne_zero fun h => by subst h; simp at ht
  have hq : t / K < l.length := Nat.div_lt_of_lt_mul (by rw [Nat.mul_comm]; exact ht)
  have h1 := drop_flatMap_enc hK l (t / K)
  have h2 : t = t / K * K + t % K := by rw [Nat.mul_comm]; exact (Nat.div_add_mod t K).symm
  have h3 : (l.flatMap enc)[t]? = ((l.flatMap enc).drop (t / K * K))[t % K]? := by rw [List.getElem?_drop]; rw [← h2]
  rw [h3, h1, List.drop_eq_getElem_cons hq, List.flatMap_cons, List.getElem?_append_left (by rw [hK]; exact Nat.mod_lt _ hK0)]
  simp [List.getD_eq_getElem?_getD, hq]
theorem flatK_list {α : Type} [Inhabited α] {K : Nat} {enc : α → List Value} (hK : ∀ x, (enc x).length = K) (d : Array α) : flatK enc K d = (d.toList.flatMap enc).toArray := by
  apply Array.ext_getElem?
  intro t
  by_cases ht : t < d.size * K
  · have hK0 : 0 < K := Nat.pos_of_ne_zero fun h => by subst h; simp at ht
    have h1 := get_flatK enc K d t ht
    have h2 := flat_get hK d.toList default (t := t) (by simpa using ht)
    rw [Array.getElem?_eq_getElem (by simpa using ht), List.getElem?_toArray, h2]
    rw [getElem!_pos _ t (by simpa using ht)] at h1
    rw [h1]
    have hq : t / K < d.size := Nat.div_lt_of_lt_mul (by rw [Nat.mul_comm]; exact ht)
    have h3 : d.toList.getD (t / K) default = d[t / K]! := by
      rw [getElem!_pos d (t / K) hq]; simp [List.getD_eq_getElem?_getD, hq]
    rw [h3]
    have h4 : t % K < (enc d[t / K]!).length := by rw [hK]; exact Nat.mod_lt _ hK0
    rw [List.getElem?_eq_getElem h4, getElem!_pos (enc d[t / K]!) (t % K) h4]
  · rw [Array.getElem?_eq_none (by simpa using ht), Array.getElem?_eq_none (by simp [length_flatMap_enc hK]; simpa using ht)]
theorem sortf_ok {w : World} {v : Value} {l : List Ac} (hn : (l.map Ac.id).Nodup) (hl : l.length ≤ 100000) :
    RetM Tryz.prog w 96 [v, .func (.func 97) #[] #[]] [ownR 52 5 v l.length (l.flatMap Ac.c)] (fun _ : Unit => .tuple #[]) (fun _ => True) (fun _ => [ownR 52 5 v l.length ((byKey Ac.id l).flatMap Ac.c)]) := by
  intro w0 Fr W hB hW
  have hok : (ownR 52 5 v l.length (l.flatMap Ac.c)).ok W := hW.mem_ok .head
  rcases hok.2 with ⟨e1, e2⟩ | ⟨g, cap, cur, e1, hg0, hg, hcap, hcm, hsz, htk⟩
  · have hl0 : l = [] := List.eq_nil_of_length_eq_zero e2
    subst hl0; subst e1
    refine (AnyF.slices_SortFunc_none (P := Tryz.prog) Tryz.laysSortF none 0 _ W).mono ?_
    rintro e W' ⟨rfl, rfl⟩
    have hb : byKey Ac.id [] = [] := List.eq_nil_of_length_eq_zero (by rw [(byKey_perm Ac.id []).length_eq]; rfl)
    exact ⟨(), rfl, trivial, by rw [hb]; exact hW⟩
  · subst e1
    have hlt := (HPs.lt hW.res _ (List.mem_cons_self : ownR 52 5 (.slice (some ⟨g, 0, none⟩) l.length cap) l.length (l.flatMap Ac.c) ∈ _) g rfl)
    have hfl : (l.flatMap Ac.c).length = l.length * 5 := length_flatMap_enc acK l
    have hH : HoldsK Ac.c 5 W g 0 l.toArray := by
      intro j hj
      rw [flatK_list acK] at hj ⊢
      simp only [List.toList_toArray, List.size_toArray] at hj ⊢
      have hjc : (l.flatMap Ac.c)[j]? = cur[j]? := by
        rw [← htk, List.getElem?_take, if_pos (by omega)]; simp
      have hjl : j < (l.flatMap Ac.c).length := hj
      refine ⟨?_, by simp [World.frozen?, hg]⟩
      simp only [World.cell?, hg, Nat.zero_add]
      rw [← hjc, List.getElem?_eq_getElem hjl]
      show some (l.flatMap Ac.c)[j] = some (((l.flatMap Ac.c).toArray)[j]!)
      congr 1
      show (l.flatMap Ac.c)[j] = ((l.flatMap Ac.c).toArray)[j]!
      rw [getElem!_pos (l.flatMap Ac.c).toArray j (by simpa using hjl)]; rfl
    refine (AnyQ.slices_SortFunc (P := Tryz.prog) Tryz.laysSortF 5 Tryz.isAgg52 Tryz.sizeOf52 Ac.c acK (fun x u hu => by simp [Ac.c] at hu; rcases hu with rfl | rfl | rfl | rfl | rfl <;> rfl) acCf acSwo 97 #[] g 0 cap l.toArray W Tryz.call97 (fun m os dk _ x y => clos97 x y _) hH hlt.2 (by simp; omega)).mono ?_
    rintro e W' ⟨rfl, d', m, os, hp, hs, rfl⟩
    refine ⟨(), rfl, trivial, ?_⟩
    have hsize : d'.size = l.length := by have := hp.1; simpa using this
    have hperm : d'.toList.Perm l := by
      have := hp.2.2
      simp only [List.size_toArray] at this
      rw [← hsize] at this
      have e3 : (d'.extract 0 d'.size) = d' := by simp
      rw [e3] at this
      simpa [hsize] using this
    have hsorted : d'.toList.Pairwise (fun a b => idLt b.id a.id = false) := by
      rw [List.pairwise_iff_getElem]
      intro i j hi hj hij
      have := hs i j (Nat.zero_le _) hij (by simpa [hsize] using hj)
      rw [acCf_lt] at this
      simp only [Array.length_toList] at hi hj
      simpa [getElem!_pos, hi, hj] using this
    have hd : d'.toList = byKey Ac.id l := byKey_eq hn hperm hsorted
    have hblk : ∀ k, k < W.heap.size → k ≠ g → (sortWorldK Ac.c 5 W g 0 m d' os).heap[k]? = W.heap[k]? := fun k hk hne => by
      simp only [sortWorldK, Sort.grow, putRowK, putRow, mapBlock, Sort.ahead]
      rw [Array.getElem?_append_left (by simpa using hk), Array.getElem?_modify, if_neg (fun e => hne e.symm)]
    have hat : (sortWorldK Ac.c 5 W g 0 m d' os).heap[g]? = some (.cells (putCells id 0 (flatK Ac.c 5 d') cur) 52 (0, 0)) := by
      simp only [sortWorldK, Sort.grow, putRowK, putRow, mapBlock, Sort.ahead]
      rw [Array.getElem?_append_left (by simpa using hlt.2), Array.getElem?_modify, if_pos rfl, hg]
      rfl
    have hsz2 : W.heap.size ≤ (sortWorldK Ac.c 5 W g 0 m d' os).heap.size := by
      simp [sortWorldK, Sort.grow, putRowK, putRow, mapBlock, Sort.ahead]
    refine hW.put .head _ ⟨rfl, rfl, rfl, hsz2, fun k hk => hblk k (by have := hW.below.size; omega) (fun e => by subst e; omega)⟩ (fun k hk hne => hblk k hk (fun e => hne (by subst e; rfl))) ⟨?_, .inr ⟨g, cap, _, rfl, hg0, hat, hcap, hcm, ?_, ?_⟩⟩ (fun b hb => ?_)
    · rw [length_flatMap_enc acK, (byKey_perm _ _).length_eq]
    · simp [putCells, hsz]
    · rw [flatK_list acK, hd]
      have hfl2 : ((byKey Ac.id l).flatMap Ac.c).length = l.length * 5 := by rw [length_flatMap_enc acK, (byKey_perm _ _).length_eq]
      apply List.ext_getElem?
      intro j
      rw [List.getElem?_take]
      by_cases hj : j < l.length * 5
      · have hjc : j < cur.size := by rw [hsz]; have := Nat.mul_le_mul_right 5 hcap; omega
        rw [if_pos hj]
        simp only [putCells, Array.getElem?_toList, Array.getElem?_mapIdx, Array.getElem?_eq_getElem hjc, Option.map_some, List.size_toArray, hfl2, Nat.zero_add, Nat.zero_le, true_and, if_pos hj, Nat.sub_zero, id]
        rw [List.getElem?_eq_getElem (by omega)]
        simp [getElem!_pos, hfl2, hj]
      · rw [if_neg hj, List.getElem?_eq_none (by omega)]
    · simp [ownR, Value.ownBlock] at hb
      subst hb
      exact ⟨.inl rfl, by have := hlt.2; omega⟩
end Go.Eng
end
section
namespace Go.Eng
open Go Go.RowKit Go.Proofs Go.Maps
set_option linter.unusedVariables false
set_option linter.unusedSimpArgs false
set_option maxRecDepth 4000
theorem manyI {h : Nat} (hh : h ≤ 10) : IntKind.i64.wrap (1 * 2 ^ (min (h : Int).toNat IntKind.i64.bits)) = ((2 ^ h : Nat) : Int) := by
  have := pow_small hh
  rw [show min (h : Int).toNat IntKind.i64.bits = h by rw [Int.toNat_natCast]; exact Nat.min_eq_left (by simp only [IntKind.bits]; omega)]
  exact w64 (by simp) (by omega)
def putBal (a : Ac) (n : Nat) : Ac := { a with bal := n }
theorem stayF_step (was : List Ac) {rows : List Rw} {k : Nat} (hk : k < rows.length) : stayF was (rows.take (k + 1)) = stayF was (rows.take k) ++ (if hasF was (rows.getD k rw0).id = true then [putBal (findF was (rows.getD k rw0).id) (rows.getD k rw0).amt] else []) := by
  rw [take_step hk rw0, stayF, List.filterMap_append]
  simp only [stayF, List.filterMap_cons, List.filterMap_nil]
  cases h : hasF was (rows.getD k rw0).id <;> simp [putBal]
theorem comeF_snoc (seed : ByteArray) (h : Nat) : ∀ (rs : List Rw) (out : List Ac) (r : Rw), comeF seed h (rs ++ [r]) out = comeF seed h rs out ++ [⟨r.id, r.amt, saltF seed r.id, freeF (comeF seed h rs out) h (firstSlot seed r.id h)⟩]
  | [], out, r => by simp [comeF]
  | x :: rs, out, r => by simp only [List.cons_append, comeF]; exact comeF_snoc seed h rs _ r
theorem comeF_len (seed : ByteArray) (h : Nat) : ∀ (rs : List Rw) (out : List Ac), (comeF seed h rs out).length = out.length + rs.length
  | [], out => by simp [comeF]
  | x :: rs, out => by simp only [comeF]; rw [comeF_len seed h rs]; simp; omega
theorem stay_new_len (was : List Ac) (rows : List Rw) : (stayF was rows).length + (newF was rows).length = rows.length := by
  have e1 : (stayF was rows).length = (rows.filter fun r => hasF was r.id).length := by
    have := congrArg List.length (stayF_idBal was rows); simpa using this
  have e2 := (List.filter_append_perm (fun r => hasF was r.id) rows).length_eq
  rw [List.length_append] at e2
  simp only [newF]; omega
theorem out_nodup {h : Nat} {seed : ByteArray} {was : List Ac} {rows : List Rw} (hw : AccOK h seed was) (hr : RowsOK h rows) : ((comeF seed h (newF was rows) (stayF was rows)).map Ac.id).Nodup :=
  ((byKey_perm Ac.id _).map _).nodup_iff.1 (placeF_ok hw hr).1.asc.nodup
theorem stayF_len (was : List Ac) (rows : List Rw) : (stayF was rows).length ≤ rows.length := List.length_filterMap_le _ _
theorem stay_slot {h : Nat} {seed : ByteArray} {was : List Ac} {rows : List Rw} (hw : AccOK h seed was) : ∀ a ∈ stayF was rows, a.slot < 2 ^ h := fun a ha => by
  obtain ⟨x, hx, _, e2, _⟩ := stayF_mem ha; rw [← e2]; exact hw.slot x hx

theorem place_ok {A B : Option Addr} {seed : ByteArray} {h c c2 : Nat} {was : List Ac} {rows : List Rw} {w : World} (hG : Glob w) (hh : h ≤ 10) (hsd : seed.size ≤ 64) (hA : rowOf w 5 Ac.c A was) (hR : rowOf w 3 Rw.c B rows) (hw : AccOK h seed was) (hr : RowsOK h rows) (hwl : was.length ≤ 2 ^ h) :
  Ret Tryz.prog 45 [.string seed, .int .i64 h, .slice A was.length c, .slice B rows.length c2] w (fun s : Option Addr × Nat => .tuple #[.slice s.1 (placeF seed h was rows).length s.2, .int .i64 0]) (fun _ => True)
    (fun s => [ownR 52 5 (.slice s.1 (placeF seed h was rows).length s.2) (placeF seed h was rows).length ((placeF seed h was rows).flatMap Ac.c)]) := by
  have hp2 := pow_small hh
  have em := manyI hh
  have hhf : highF (h : Int) = true := by simp [highF]; omega
  have hrl := hr.len
  have hsn := stay_new_len was rows
  refine begin_m Tryz.func45 rfl rfl rfl ?_
  refine xc_seq <| xc_region <| xe rfl (bx rfl rfl) fun b1 _ => xe rfl (bx rfl rfl) fun b2 _ => xp rfl (asg rfl) <| xp rfl (asg rfl) <| xl_nil <| xq_then <| ?_
  refine xc_seq <| xc_block <| xc_seq <| xc_region <| xp rfl (ld kd_3 rfl .head rfl) <| xv rfl Tryz.call87 rfl rfl (fun W hW => (high_ok _ W)) <| xp rfl (un rfl uk_not) <| xp rfl (asg rfl) <| xl_nil <| xq_then <| xc_cond rfl (fun hc1 => ?_) (fun hc1 => ?_)
  ·
    rw [hhf] at hc1; cases hc1
  ·
    refine xc_seq <| xc_region <| xp rfl (ld kd_9 rfl (.tail .head) rfl) <| xp rfl (lens Tryz.underlying9 rfl) <| xp rfl (bin rfl rfl bk_gtr) <| xp rfl (asg rfl) <| xl_nil <| xq_then <| xc_cond rfl (fun hc2 => ?_) (fun hc2 => ?_)
    ·
      exfalso; have h1 := of_decide_eq_true hc2; omega
    ·
      refine xc_seq <| xc_region <| xp rfl (mv rfl) <| xp rfl (ld kd_3 rfl .head rfl) <| xv rfl Tryz.call88 rfl rfl (fun W hW => (may_ok (hG.up hW) hh (hA.up hW) hw (by omega))) <| xp rfl (un rfl uk_not) <| xp rfl (mv rfl) <| xl_or 4 36 (fun hg3 => xgT rfl rfl rfl hg3 <| xp rfl (mv rfl) <| xgT rfl rfl rfl hg3 <| xv rfl Tryz.call89 rfl rfl (fun W hW => (rowed_ok (hG.up hW) (hR.up hW) hr.asc.nodup hr.ids (by omega))) <| xgT rfl rfl rfl hg3 <| xp rfl (un rfl uk_not) <| xp rfl (pickF rfl hg3 rfl) <| xl_nil <| xq_or_yes hg3 (.kc rfl <| .kc rfl <| .kc rfl .kn) (fun _ h => h)) (fun hg3 => xgF rfl rfl rfl hg3 <| xgF rfl rfl rfl hg3 <| xgF rfl rfl rfl hg3 <| xp rfl (pickT rfl hg3 rfl) <| xl_nil <| xq_or_no hg3 (.kc rfl <| .kc rfl <| .kc rfl .kn) (fun _ h => h)) <| xp rfl (asg rfl) <| xl_nil <| xq_then <| xc_cond rfl (fun hc4 => ?_) (fun hc4 => ?_)
      ·
        exact absurd hc4 (by decide)
      ·
        refine xc_seq <| xc_region <| xp rfl (mv rfl) <| xp rfl (lenv Tryz.underlying104 rfl) <| xp rfl (ld kd_3 rfl .head rfl) <| xp rfl (bin rfl rfl (bk_shl (by omega))) <| xp rfl (bin rfl rfl bk_gtr) <| xp rfl (asg rfl) <| xl_nil <| xq_then <| xc_cond rfl (fun hc5 => ?_) (fun hc5 => ?_)
        ·
          exfalso; have h1 := of_decide_eq_true hc5; rw [em] at h1; omega
        ·
          refine xc_skip <| xq_in <| xq_then <| xc_seq <| xc_region <| xe rfl (al zo_49) fun b3 _ => xl_nil <| xq_then <| ?_
          refine xc_seq <| xc_seq <| xc_toH (HP w [ownR 52 5 (.slice none 0 0) 0 [], cellR b3 49 [.slice none 0 0], cellR b2 3 [.int .i64 h], cellR b1 9 [.string seed]]) (fun W hW => ownR_nil w W 52 5 hW) ?_
          refine xc_region <| xp rfl (mv rfl) <| xp rfl (lenv Tryz.underlying104 rfl) <| xp rfl (mv rfl) <| xl_nil <| xq_then <| xc_block <| xc_loopP (σ := Nat × Option Addr × Nat) (fun q => [(45, .int .i64 q.1), (2, _), (3, _), (4, _), (5, _), (10, _), (43, _), (44, _)]) (fun q => q.1 ≤ rows.length) (fun q => HP w (ownR 52 5 (.slice q.2.1 (stayF was (rows.take q.1)).length q.2.2) (stayF was (rows.take q.1)).length ((stayF was (rows.take q.1)).flatMap Ac.c) :: cellR b3 49 [.slice q.2.1 (stayF was (rows.take q.1)).length q.2.2] :: [cellR b2 3 [.int .i64 h], cellR b1 9 [.string seed]])) (fun q => rows.length - q.1) (0, none, 0) (Nat.zero_le _) (sc rfl <| sc rfl <| sc rfl <| sc rfl <| sc rfl <| sc rfl <| sc rfl <| sc rfl <| sn) (fun W hW => hW) fun q hk => ?_
          obtain ⟨k, A1, c1⟩ := q
          simp only at hk
          dsimp only
          have hsl := stayF_len was (rows.take k)
          rw [List.length_take] at hsl
          refine xc_seq <| xc_region <| xp rfl (bin rfl rfl bk_lss) <| xl_nil <| xq_then <| xc_seq <| xc_cond rfl (fun hc6 => ?_) (fun hc6 => ?_)
          ·
            have hk1 : k < rows.length := by have h1 := of_decide_eq_true hc6; omega
            obtain ⟨bb, off, rfl⟩ := hR.addr (by omega)
            have hstep := stayF_step was hk1
            have hsl2 : (stayF was (rows.take k)).length ≤ 1024 := by omega
            refine xc_skip <| xq_then <| xc_seq <| xc_block <| xc_seq <| xc_region <| xp rfl (ix so_104 rfl rfl (by omega) (by omega)) <| xp rfl (ldc kd_170 rfl (vs := _) (fun W hW => rw_at (hR.up hW) hk1 (by omega)) rfl) <| xe rfl (al zo_170) fun b4 _ => xs (st sz_170 rfl rfl rfl rfl .head rfl rfl) <| xl_nil <| xq_then <| ?_
            refine xc_seq <| xc_region <| xp rfl (mv rfl) <| xp rfl (fa fa_170_0 rfl) <| xp rfl (ld kd_9 rfl .head rfl) <| xv rfl Tryz.call90 rfl rfl (fun W hW => (find_ok (hA.up hW))) <| xp rfl (mv rfl) <| xp rfl (ext rfl rfl) <| xp rfl (ext rfl rfl) <| xe rfl (al zo_52) fun b5 _ => xs (st sz_52 rfl rfl rfl rfl .head rfl rfl) <| xp rfl (asg rfl) <| xl_nil <| xq_then <| ?_
            refine xc_seq <| xc_region <| xp rfl (mv rfl) <| xl_nil <| xq_then <| xc_cond rfl (fun hc7 => ?_) (fun hc7 => ?_)
            ·
              rw [if_pos hc7] at hstep
              refine xc_seq <| xc_region <| xp rfl (fa fa_170_1 rfl) <| xp rfl (ld kd_35 rfl (.tail .head) rfl) <| xp rfl (fa fa_52_1 rfl) <| xs (st sz_35 rfl rfl rfl rfl .head rfl rfl) <| xl_nil <| xq_then <| ?_
              refine xc_region <| xp rfl (ld kd_49 rfl (.tail <| .tail <| .tail .head) rfl) <| xp rfl (ld kd_52 rfl .head rfl) <| xe rfl (bs rfl bs_49_1) fun b6 _ => xe rfl (apS mo_49 rfl rfl (.tail <| .tail <| .tail .head) rfl (nw .head) (by simp [Value.oneCell']) (by simp only [maxLen]; omega) (by omega)) fun s1 _ => xs (st sz_49 rfl rfl rfl rfl (.tail <| .tail <| .tail <| .tail .head) rfl rfl) <| xl_nil <| xq_in <| xq_then <| ?_
              refine xc_region <| xp rfl (bin rfl rfl bk_add) <| xp rfl (mv rfl) <| xl_nil <| xq_roundP (k + 1, s1.1, s1.2) hk1 (by simp only; omega) (sc (by dsimp only; exact iw (by omega) (by omega) (by omega) rfl) <| sc rfl <| sc rfl <| sc rfl <| sc rfl <| sc rfl <| sc rfl <| sc rfl <| sn) (fun W hW => by
              have h1 := hW.sub (.cons _ <| .cons _ <| .cons _ <| .refl _)
              dsimp only
              rw [hstep]
              simp only [List.length_append, List.length_cons, List.length_nil, List.flatMap_append, List.flatMap_cons, List.flatMap_nil, List.append_nil]
              exact h1)
            ·
              rw [if_neg (by rw [hc7]; decide), List.append_nil] at hstep
              refine xc_skip <| xq_in <| xq_then <| xc_region <| xp rfl (bin rfl rfl bk_add) <| xp rfl (mv rfl) <| xl_nil <| xq_roundP (k + 1, A1, c1) hk1 (by simp only; omega) (sc (by dsimp only; exact iw (by omega) (by omega) (by omega) rfl) <| sc rfl <| sc rfl <| sc rfl <| sc rfl <| sc rfl <| sc rfl <| sc rfl <| sn) (fun W hW => by dsimp only; rw [hstep]; exact hW.sub (.cons _ <| .cons _ <| .refl _))
          ·
            obtain rfl : k = rows.length := by have h1 := of_decide_eq_false hc6; omega
            rw [List.take_length]
            refine xc_exit <| xq_then_exit <| xq_then_exit <| xq_in_hit <| xq_then <| xc_seq <| xc_region <| xp rfl (ld kd_49 rfl (.tail .head) rfl) <| xr rfl Tryz.call91 rfl rfl (fun W hW => (of_slots (ownR_rowOf (hW.mem_ok .head)) (fun a ha => by have := stay_slot hw a ha; omega) (by omega))) fun tb _ => xe rfl (al zo_183) fun b7 _ => xs (st sz_183 rfl rfl rfl rfl .head rfl rfl) <| xl_nil <| xq_then <| ?_
            refine xc_seq <| xc_seq <| xc_region <| xp rfl (mv rfl) <| xp rfl (mv rfl) <| xr rfl Tryz.call92 rfl rfl (fun W hW => (coming_ok W)) fun cs _ => xl_nil <| xq_then <| xc_block <| ?_
            -- RANGE 1 f=('Operand.tmp', '69') params=[70] res=['s1', 's2', 'b7', 'map', 'row', 'b3', 'b2', 'b1']
            refine xc_range (pl := [70]) (It := ([cellR cs.1 104 [.slice B rows.length c2], cellR cs.2 49 [.slice A was.length c]])) (all := (newF was rows)) (encs := encR) (fun pre L => (∃ (A2 : Option Addr) (c3 m : Nat), m ≤ 2000 + pre.length ∧ L = cellR b7 183 [.map (some tb)] :: mapR Tryz.prog 33 3 .i64 tb m (gSlot (comeF seed h pre (stayF was rows))) :: ownR 52 5 (.slice A2 (comeF seed h pre (stayF was rows)).length c3) (comeF seed h pre (stayF was rows)).length ((comeF seed h pre (stayF was rows)).flatMap Ac.c) :: cellR b3 49 [.slice A2 (comeF seed h pre (stayF was rows)).length c3] :: [cellR b2 3 [.int .i64 h], cellR b1 9 [.string seed]])) (fun c pre L => False) Tryz.call172 rfl (fun _ => rfl) rfl (coming_iter hA hR hr.asc (by omega)) (⟨_, _, (stayF was rows).length, by simp; omega, rfl⟩) (fun l pre post x L Fr hall hJ => ?_) (fun b L hJ => ?_) (fun b c pre post L hall hJ => ?_)
            ·
              obtain ⟨A2, c3, m, hm, rfl⟩ := hJ
              have hcl := comeF_len seed h pre (stayF was rows)
              have hal := congrArg List.length hall
              simp only [List.length_append, List.length_cons] at hal
              have hxr : x ∈ rows := (List.mem_filter.1 (by rw [← newF, hall]; simp : x ∈ rows.filter fun r => !hasF was r.id)).1
              have hxi := (hr.ids x hxr).2
              have hol : (comeF seed h pre (stayF was rows)).length < 2 ^ h := by omega
              have hfr := freeF_spec (a := firstSlot seed x.id h) hol
              have hgl := gSlot_le (comeF seed h pre (stayF was rows)) (freeF (comeF seed h pre (stayF was rows)) h (firstSlotF seed x.id h))
              have hlt : freeF (comeF seed h pre (stayF was rows)) h (firstSlotF seed x.id h) < 2 ^ h := hfr.2
              refine xc_region <| xe rfl (al zo_170) fun b8 _ => xs (st sz_170 rfl rfl rfl rfl .head rfl rfl) <| xl_nil <| xq_rnd (L1 := _ :: _) fun Fr => ?_
              refine xc_block <| xc_seq <| xc_draw (canon := [(0, .p), (1, .p), (2, .p), (3, .p), (4, .p), (5, .p), (6, .p), (7, .p), (8, .p), (9, .p), (10, .p), (11, .x), (12, .x)]) (Z := HP _ [cellR b8 _ _, cellR b7 _ _, _, _, cellR b3 _ _, cellR b2 _ _, cellR b1 _ _]) mixed_ rfl (akp <| akp <| akp <| akp <| akp <| akp <| akp <| akp <| akp <| akp <| akp <| akx <| akx <| ak0) (zsub (.cons_cons _ <| .cons_cons _ <| .cons_cons _ <| .cons_cons _ <| .cons_cons _ <| .cons_cons _ <| .cons_cons _ <| List.nil_sublist _)) ?_
              refine dp rfl rfl rfl rfl (ld kd_183 rfl (.tail .head) rfl) <| dp rfl rfl rfl rfl (ld kd_3 rfl (.tail <| .tail <| .tail <| .tail <| .tail .head) rfl) <| dp rfl rfl rfl rfl (ld kd_9 rfl (.tail <| .tail <| .tail <| .tail <| .tail <| .tail .head) rfl) <| dp rfl rfl rfl rfl (fa fa_170_0 rfl) <| dp rfl rfl rfl rfl (ld kd_9 rfl .head rfl) <| dp rfl rfl rfl rfl (ld kd_3 rfl (.tail <| .tail <| .tail <| .tail <| .tail .head) rfl) <| dq rfl rfl rfl rfl rfl Tryz.call94 rfl rfl (fun W hW => (tfirst_ok (hG.up (hW.sub (List.nil_sublist _))) (by omega) (by omega) (by omega))) <| dq rfl rfl rfl rfl rfl Tryz.call93 rfl rfl (fun W hW => (free_ok (map_of hW (.tail <| .tail .head)) hh (firstSlotF_lt _ _ _) hol)) <| dp rfl rfl rfl rfl (mv rfl) <| dp rfl rfl rfl rfl (ext rfl rfl) <| dp rfl rfl rfl rfl (ext rfl rfl) <| das rfl rfl rfl rfl (asg rfl) (zsub (.cons_cons _ <| .cons_cons _ <| .cons_cons _ <| .cons_cons _ <| .cons_cons _ <| .cons_cons _ <| .cons_cons _ <| List.nil_sublist _)) <| das rfl rfl rfl rfl (asg rfl) (zsub (.cons_cons _ <| .cons_cons _ <| .cons_cons _ <| .cons_cons _ <| .cons_cons _ <| .cons_cons _ <| .cons_cons _ <| List.nil_sublist _)) <| dend <| xq_then <| ?_
              refine xc_seq <| xc_region <| xp rfl (ld kd_183 rfl (.tail .head) rfl) <| xp rfl (mv rfl) <| xp rfl (mlk mt_183 rfl rfl (key_slot (by omega)) (.tail <| .tail .head)) <| xp rfl (bin rfl rfl bk_add) <| xs (mu mt_183 rfl rfl rfl (key_slot (by omega)) (wf_wrap _) (by simp only [maxLen]; omega) (.tail <| .tail .head)) <| xl_nil <| xq_then <| ?_
              refine xc_draw (canon := [(0, .l), (1, .p), (2, .p), (3, .p), (4, .p), (5, .p), (6, .p), (7, .p), (8, .p), (9, .p), (10, .p), (11, .y), (12, .x), (13, .x)]) (Z := HP _ [cellR b8 _ _, cellR b7 _ _, _, cellR b2 _ _, cellR b1 _ _]) mixed_ rfl (akl <| akp <| akp <| akp <| akp <| akp <| akp <| akp <| akp <| akp <| akp <| aky <| akx <| akx <| ak0) (zsub (.cons_cons _ <| .cons_cons _ <| .cons_cons _ <| .cons _ <| .cons _ <| .cons_cons _ <| .cons_cons _ <| List.nil_sublist _)) ?_
              refine dl rfl rfl rfl rfl (ld kd_49 rfl (.tail <| .tail <| .tail <| .tail .head) rfl) <| dp rfl rfl rfl rfl (fa fa_170_0 rfl) <| dp rfl rfl rfl rfl (ld kd_9 rfl .head rfl) <| dp rfl rfl rfl rfl (fa fa_170_1 rfl) <| dp rfl rfl rfl rfl (ld kd_35 rfl .head rfl) <| dp rfl rfl rfl rfl (ld kd_9 rfl (.tail <| .tail <| .tail <| .tail .head) rfl) <| dp rfl rfl rfl rfl (fa fa_170_0 rfl) <| dp rfl rfl rfl rfl (ld kd_9 rfl .head rfl) <| dq rfl rfl rfl rfl rfl Tryz.call95 rfl rfl (fun W hW => (salt_ok (hG.up (hW.sub (List.nil_sublist _))) (by omega) (by omega))) <| dp rfl rfl rfl rfl (mv rfl) <| dp rfl rfl rfl rfl (bd rfl bd_52_0_1_2_3) <| dey rfl rfl rfl (.inl rfl) (fun Fr => bs rfl bs_49_1) (fun _ => (zsub (.cons _ <| .cons_cons _ <| .cons_cons _ <| .cons_cons _ <| .cons _ <| .cons _ <| .cons_cons _ <| .cons_cons _ <| List.nil_sublist _))) fun b9 _ => dap rfl rfl rfl rfl rfl mo_49 rfl rfl (.tail <| .tail <| .tail <| .tail .head) rfl (nwF .head) (by simp [Value.oneCell']) (by simp only [maxLen]; omega) (by omega) (fun _ => (zsub (.cons _ <| .cons_cons _ <| .cons_cons _ <| .cons_cons _ <| .cons _ <| .cons _ <| .cons_cons _ <| .cons_cons _ <| List.nil_sublist _))) fun s2 _ => dst_ rfl rfl rfl rfl sz_49 rfl rfl rfl rfl (.tail <| .tail <| .tail <| .tail <| .tail .head) rfl rfl (zsub (.cons _ <| .cons_cons _ <| .cons_cons _ <| .cons_cons _ <| .cons _ <| .cons _ <| .cons_cons _ <| .cons_cons _ <| List.nil_sublist _)) <| dend <| xq_in <| xq_bodyW (L1 := (cellR b7 183 [.map (some tb)] :: mapR Tryz.prog 33 3 .i64 tb (m + 1) (gSlot (comeF seed h (pre ++ [x]) (stayF was rows))) :: ownR 52 5 (.slice s2.1 (comeF seed h (pre ++ [x]) (stayF was rows)).length s2.2) (comeF seed h (pre ++ [x]) (stayF was rows)).length ((comeF seed h (pre ++ [x]) (stayF was rows)).flatMap Ac.c) :: cellR b3 49 [.slice s2.1 (comeF seed h (pre ++ [x]) (stayF was rows)).length s2.2] :: [cellR b2 3 [.int .i64 h], cellR b1 9 [.string seed]])) (fun W hW => by
                rw [wrap64 (by omega) (by omega)] at hW
                rw [comeF_snoc, ← gSlot_put]
                have h1 := hW.sub (.cons _ <| .cons _ <| .refl _)
                simp only [List.length_append, List.length_cons, List.length_nil, List.flatMap_append, List.flatMap_cons, List.flatMap_nil, List.append_nil]
                exact h1) (⟨_, _, _, by simp; omega, rfl⟩)
            ·
              obtain ⟨A2, c3, m, hm, rfl⟩ := hJ
              have hcl := comeF_len seed h (newF was rows) (stayF was rows)
              refine xq_in <| xq_then <| xc_seq <| xc_region <| xp rfl (ld kd_49 rfl (.tail <| .tail <| .tail <| .tail .head) rfl) <| xm rfl Tryz.call96 rfl rfl (.tc (.tail <| .tail <| .tail .head) <| .tn) (sortf_ok (out_nodup hw hr) (by omega)) fun _ _ => xl_nil <| xq_then <| ?_
              refine xc_seq <| xc_region <| xp rfl (ld kd_49 rfl (.tail <| .tail <| .tail <| .tail .head) rfl) <| xp rfl (asg rfl) <| xp rfl (asg rfl) <| xl_nil <| xq_then <| xc_ret <| leaveM1 (.inl rfl) (.tail .head) (rets2 rfl (.tmp rfl) (.tmp rfl)) fun W hW => (⟨(A2, c3), by rw [show (placeF seed h was rows).length = (comeF seed h (newF was rows) (stayF was rows)).length from (byKey_perm _ _).length_eq], trivial, by
      rw [show (placeF seed h was rows).length = (comeF seed h (newF was rows) (stayF was rows)).length from (byKey_perm _ _).length_eq]
      exact hW.sub (.cons_cons _ <| List.nil_sublist _)⟩)
            ·
              exact hJ.elim

end Go.Eng
end
section
namespace Go.Eng
open Go Go.RowKit Go.Proofs
set_option linter.unusedVariables false
set_option linter.unusedSimpArgs false
set_option maxRecDepth 4000
theorem bitLen_pow {h : Nat} (hh : h ≤ 10) : Lib.bitLen (2 ^ h) = h + 1 := by
  have hp := Nat.two_pow_pos h
  have h64 : 2 ^ h < 2 ^ 64 := by have := pow_small hh; omega
  have := Lib.bitLen_shift h (2 ^ h) (Nat.le_refl _) h64
  rw [this, Nat.div_self hp]; rfl

theorem height_ok {h : Nat} (hh : h ≤ 10) (w : World) : RetV Tryz.prog 117 [.int .i64 ((2 ^ h : Nat) : Int)] w (.tuple #[.int .i64 h, .bool true]) := by
  have hp2 := pow_small hh
  have em := manyI hh
  have eb := bitLen_pow hh
  have ew : IntKind.u64.wrap ((2 ^ h : Nat) : Int) = ((2 ^ h : Nat) : Int) := wu64 rfl (by omega)
  have e5 : IntKind.i64.wrap ((Lib.bitLen (IntKind.u64.wrap ((2 ^ h : Nat) : Int)).toNat : Int) - 1) = (h : Int) := by rw [ew, Int.toNat_natCast, eb]; exact w64 (by omega) (by omega)
  refine begin_ Tryz.func117 rfl rfl rfl ?_
  refine xc_seq <| xc_region <| xp rfl (asg rfl) <| xp rfl (asg rfl) <| xl_nil <| xq_then <| ?_
  refine xc_seq <| xc_region <| xp rfl (mv rfl) <| xp rfl (cv rfl (cvi Tryz.underlying3 Tryz.underlying56)) <| xv rfl Tryz.call176 rfl rfl (fun W hW => (RetV.of (Tryz.bits_Len _ W (by rw [ew]; omega) (by rw [ew]; omega)))) <| xp rfl (bin rfl rfl bk_sub) <| xp rfl (asg rfl) <| xl_nil <| xq_then <| ?_
  refine xc_seq <| xc_region <| xp rfl (mv rfl) <| xp rfl (mv rfl) <| xp rfl (bin rfl rfl bk_gtr) <| xp rfl (mv rfl) <| xl_and 5 17 (fun hg1 => xgT rfl rfl rfl hg1 <| xp rfl (mv rfl) <| xgT rfl rfl rfl hg1 <| xp rfl (mv rfl) <| xgT rfl rfl rfl hg1 <| xp rfl (bin rfl rfl (bk_shl (by rw [e5]; omega))) <| xgT rfl rfl rfl hg1 <| xp rfl (bin rfl rfl bk_eql) <| xp rfl (pickT rfl hg1 rfl) <| xl_nil <| xq_and_yes hg1 (.kc rfl <| .kc rfl <| .kc rfl <| .kc rfl .kn) (fun _ h => h)) (fun hg1 => xgF rfl rfl rfl hg1 <| xgF rfl rfl rfl hg1 <| xgF rfl rfl rfl hg1 <| xgF rfl rfl rfl hg1 <| xp rfl (pickF rfl hg1 rfl) <| xl_nil <| xq_and_no hg1 (.kc rfl <| .kc rfl <| .kc rfl <| .kc rfl .kn) (fun _ h => h)) <| xp rfl (mv rfl) <| xl_and 3 21 (fun hg2 => xgT rfl rfl rfl hg2 <| xp rfl (mv rfl) <| xgT rfl rfl rfl hg2 <| xp rfl (bin rfl rfl bk_leq) <| xp rfl (pickT rfl hg2 rfl) <| xl_nil <| xq_and_yes hg2 (.kc rfl <| .kc rfl .kn) (fun _ h => h)) (fun hg2 => xgF rfl rfl rfl hg2 <| xgF rfl rfl rfl hg2 <| xp rfl (pickF rfl hg2 rfl) <| xl_nil <| xq_and_no hg2 (.kc rfl <| .kc rfl .kn) (fun _ h => h)) <| xp rfl (asg rfl) <| xp rfl (asg rfl) <| xl_nil <| xq_then <| xc_ret <| leave2 (.inl rfl) rfl (.tmp rfl) (.tmp rfl) fun W hW => (⟨by rw [e5, em]; simp only [decide_true, Bool.and_true, Bool.true_and, show decide ((0 : Int) < ((2 ^ h : Nat) : Int)) = true from decide_eq_true (by omega), show decide ((h : Int) ≤ 10) = true from decide_eq_true (by omega), beq_self_eq_true], hW.below⟩)

/-- append to an empty row that was just written. -/
theorem apS0 {r : Option Nat} {n : Nat} {P : Program} {E : Env} {ty T e b : TypeId} {w0 : World} {Rs : List Res} {k bytes m c : Nat} {news : List Value} {ad : Addr} {x y : Operand} (hT : ElemOf P T e k bytes) (hx : E.ev x = some (.slice (some ⟨b, 0, none⟩) 0 0)) (hy : E.ev y = some (.slice (some ad) m c))
    (hl : news.length = m * k) (hnews : ∀ W, HP w0 Rs W → ∀ j u, news[j]? = some u → W.cell? (ad.add j) = some u) (h1 : ∀ u ∈ news, u.oneCell' = true) (h63 : m ≤ maxLen) (hbytes : m * bytes ≤ 140737488355328) :
    OpE r n P (.call { callee := .builtin .append, args := #[x, y], argTypes := #[T, T] }) ty E (HP w0 (cellR b e [] :: Rs)) (fun s : Option Addr × Nat => .slice s.1 m s.2) (fun _ => True) (fun s => HP w0 (ownR e k (.slice s.1 m s.2) m news :: Rs)) := by
  intro d p af g a W K Q ho hw kk
  have hw2 : HP w0 (ownR e k (.slice (some ⟨b, 0, none⟩) 0 0) 0 [] :: Rs) W := ownR_of_cell hw .head (by simp) (by simp [maxLen])
  refine apS hT hx hy (.head) hl (fun W hW => hnews W hW.drop) h1 (by omega) (by rw [Nat.zero_add]; exact hbytes) d p af g a W K Q ho hw2 fun s _ W' hW' => ?_
  rw [Nat.zero_add] at hW' ⊢
  exact kk s trivial W' hW'
theorem leafK : ∀ l : Leaf, l.c.length = 5 := fun _ => rfl
theorem ndK : ∀ l : Nd, l.c.length = 3 := fun _ => rfl
theorem row_news {α : Type} {K : Nat} {enc : α → List Value} {W : World} {ad : Addr} {l : List α} (hr : rowOf W K enc (some ad) l) : ∀ j u, (l.flatMap enc)[j]? = some u → W.cell? (ad.add j) = some u := by
  intro j u hj
  by_cases h0 : l.length = 0
  · rw [List.eq_nil_of_length_eq_zero h0] at hj; simp at hj
  · obtain ⟨b', off', e, hc⟩ := hr.2.2 (by omega)
    cases e
    rw [Addr.add_lit]; exact hc j u hj

theorem lclone_ok {A : Option Addr} {l : List Leaf} {c : Nat} {w : World} (hr : rowOf w 5 Leaf.c A l) (hl : l.length ≤ 100000) : Ret Tryz.prog 118 [.slice A l.length c] w (fun s : Option Addr × Nat => .slice s.1 l.length s.2) (fun _ => True) (fun s => [ownR 58 5 (.slice s.1 l.length s.2) l.length (l.flatMap Leaf.c)]) := by
  refine begin_ Tryz.func118 rfl rfl rfl ?_
  refine xc_seq <| xc_region <| xp rfl (asg rfl) <| xl_nil <| xq_then <| ?_
  refine xc_seq <| xc_seq <| xc_region <| xp rfl (mv rfl) <| xp rfl (bin rfl rfl (bk_veql Tryz.underlying132)) <| xl_nil <| xq_then <| xc_cond rfl (fun hc1 => ?_) (fun hc1 => ?_)
  ·
    obtain rfl : A = none := by cases A with | none => rfl | some a => exact absurd hc1 (by simp)
    obtain rfl : l = [] := by cases l with | nil => rfl | cons x r => obtain ⟨b, o, e, _⟩ := hr.2.2 (by simp); exact absurd e (by simp)
    refine xc_seq <| xc_region <| xp rfl (asg rfl) <| xl_nil <| xq_then <| xc_ret <| xq_then_ret <| leave1 (.inl rfl) rfl (.tmp rfl) fun W hW => (⟨(none, 0), rfl, trivial, ownR_nil _ _ _ _ hW⟩)
  ·
    obtain ⟨⟨bb, off, pp⟩, rfl⟩ : ∃ a, A = some a := by cases A with | none => exact absurd hc1 (by simp) | some a => exact ⟨a, rfl⟩
    refine xc_skip <| xq_then <| xc_seq <| xc_region <| xe rfl (bs rfl bs_132_0) fun b1 _ => xp rfl (mv rfl) <| xe rfl (apS0 mo_132 rfl rfl (length_flatMap_enc (enc := Leaf.c) (fun _ => rfl) l) (fun W hW => row_news (enc := Leaf.c) (hr.up hW)) (fun u hu => by obtain ⟨x, _, h⟩ := List.mem_flatMap.1 hu; simp only [Leaf.c, List.mem_cons, List.not_mem_nil, or_false] at h; rcases h with rfl | rfl | rfl | rfl | rfl <;> rfl) (by simp only [maxLen]; omega) (by omega)) fun s1 _ => xp rfl (asg rfl) <| xl_nil <| xq_then <| xc_ret <| leave1 (.inl rfl) rfl (.tmp rfl) fun W hW => (⟨s1, rfl, trivial, hW⟩)

theorem aclone_ok {A : Option Addr} {l : List Ac} {c : Nat} {w : World} (hr : rowOf w 5 Ac.c A l) (hl : l.length ≤ 100000) : Ret Tryz.prog 53 [.slice A l.length c] w (fun s : Option Addr × Nat => .slice s.1 l.length s.2) (fun _ => True) (fun s => [ownR 52 5 (.slice s.1 l.length s.2) l.length (l.flatMap Ac.c)]) := by
  refine begin_ Tryz.func53 rfl rfl rfl ?_
  refine xc_seq <| xc_region <| xp rfl (asg rfl) <| xl_nil <| xq_then <| ?_
  refine xc_seq <| xc_seq <| xc_region <| xp rfl (mv rfl) <| xp rfl (bin rfl rfl (bk_veql Tryz.underlying49)) <| xl_nil <| xq_then <| xc_cond rfl (fun hc1 => ?_) (fun hc1 => ?_)
  ·
    obtain rfl : A = none := by cases A with | none => rfl | some a => exact absurd hc1 (by simp)
    obtain rfl : l = [] := by cases l with | nil => rfl | cons x r => obtain ⟨b, o, e, _⟩ := hr.2.2 (by simp); exact absurd e (by simp)
    refine xc_seq <| xc_region <| xp rfl (asg rfl) <| xl_nil <| xq_then <| xc_ret <| xq_then_ret <| leave1 (.inl rfl) rfl (.tmp rfl) fun W hW => (⟨(none, 0), rfl, trivial, ownR_nil _ _ _ _ hW⟩)
  ·
    obtain ⟨⟨bb, off, pp⟩, rfl⟩ : ∃ a, A = some a := by cases A with | none => exact absurd hc1 (by simp) | some a => exact ⟨a, rfl⟩
    refine xc_skip <| xq_then <| xc_seq <| xc_region <| xe rfl (bs rfl bs_49_0) fun b1 _ => xp rfl (mv rfl) <| xe rfl (apS0 mo_49 rfl rfl (length_flatMap_enc (enc := Ac.c) (fun _ => rfl) l) (fun W hW => row_news (enc := Ac.c) (hr.up hW)) (fun u hu => by obtain ⟨x, _, h⟩ := List.mem_flatMap.1 hu; simp only [Ac.c, List.mem_cons, List.not_mem_nil, or_false] at h; rcases h with rfl | rfl | rfl | rfl | rfl <;> rfl) (by simp only [maxLen]; omega) (by omega)) fun s1 _ => xp rfl (asg rfl) <| xl_nil <| xq_then <| xc_ret <| leave1 (.inl rfl) rfl (.tmp rfl) fun W hW => (⟨s1, rfl, trivial, hW⟩)

theorem chunk_ok (v : Value) (hv : ∃ A n c, v = .slice A n c) (w : World) : Ret Tryz.prog 119 [v, .int .i64 2] w (fun s : Nat × Nat => .func (.func 191) #[] #[.pointer (some ⟨s.1, 0, none⟩), .pointer (some ⟨s.2, 0, none⟩)]) (fun _ => True) (fun s => [cellR s.2 3 [.int .i64 2], cellR s.1 59 [v]]) := by
  obtain ⟨A, n, c, rfl⟩ := hv
  refine begin_ Tryz.func119 rfl rfl rfl ?_
  refine xc_seq <| xc_region <| xe rfl (bx rfl rfl) fun b1 _ => xe rfl (bx rfl rfl) fun b2 _ => xp rfl (asg rfl) <| xl_nil <| xq_then <| ?_
  refine xc_seq <| xc_seq <| xc_region <| xp rfl (ld kd_3 rfl .head rfl) <| xp rfl (bin rfl rfl bk_lss) <| xl_nil <| xq_then <| xc_cond rfl (fun hc1 => ?_) (fun hc1 => ?_)
  ·
    exact absurd hc1 (by decide)
  ·
    refine xc_skip <| xq_then <| xc_seq <| xc_region <| xp rfl (mf rfl rfl) <| xp rfl (asg rfl) <| xl_nil <| xq_then <| xc_ret <| leave1 (.inl rfl) rfl (.tmp rfl) fun W hW => (⟨(b1, b2), rfl, trivial, hW⟩)

theorem range_at {k m : Nat} (h : k < m) : ∃ post, List.range m = List.range k ++ k :: post := by
  obtain ⟨d, rfl⟩ : ∃ d, m = k + (d + 1) := ⟨m - k - 1, by omega⟩
  rw [List.range_add, List.range_succ_eq_map]
  exact ⟨_, rfl⟩
abbrev twoV (b off j : Nat) : List Value := [.slice (some ⟨b, off + 2 * j * 3, none⟩) 2 2]

theorem chunk_iter {w1 : World} {sb1 sb2 b off m n c : Nat} (hn : n = 2 * m) (hm : 2 * m ≤ 100000) (hc : 2 * m ≤ c) :
  Iter Tryz.prog 191 [.pointer (some ⟨sb1, 0, none⟩), .pointer (some ⟨sb2, 0, none⟩)] (twoV b off) [cellR sb2 3 [.int .i64 2], cellR sb1 59 [.slice (some ⟨b, off, none⟩) n c]] (List.range m) w1 := by
  subst hn
  intro w0 l J Jx L W hB hW hJ hy
  refine begin_at Tryz.func191 rfl rfl rfl hW ?_
  refine xc_seq <| xc_region <| xp rfl (asg rfl) <| xl_nil <| xq_then <| xc_block <| xc_loopP (σ := Nat × List Res) (fun s => [(4, .int .i64 ((2 * s.1 : Nat) : Int)), (0, _), (1, _), (2, _)]) (fun s => s.1 ≤ m ∧ J (List.range s.1) s.2) (fun s => HP w0 (cellR sb2 3 [.int .i64 2] :: cellR sb1 59 [.slice (some ⟨b, off, none⟩) (2 * m) c] :: s.2)) (fun s => m - s.1) (0, L) ⟨Nat.zero_le _, hJ⟩ (sc rfl <| sc rfl <| sc rfl <| sc rfl <| sn) (fun W hW => hW.sub (.refl _)) fun s ⟨hk, hj⟩ => ?_
  obtain ⟨k, L1⟩ := s
  simp only at hk hj
  dsimp only
  refine xc_seq <| xc_seq <| xc_region <| xp rfl (mv rfl) <| xp rfl (ld kd_59 rfl (.tail .head) rfl) <| xp rfl (lenv Tryz.underlying59 rfl) <| xp rfl (bin rfl rfl bk_lss) <| xl_nil <| xq_then <| xc_cond rfl (fun hc1 => ?_) (fun hc1 => ?_)
  ·
    have hk1 : k < m := by have h := of_decide_eq_true hc1; omega
    obtain ⟨post, hall⟩ := range_at hk1
    have ew : IntKind.i64.wrap (((2 * k : Nat) : Int) + 2) = ((2 * k + 2 : Nat) : Int) := w64 (by omega) (by omega)
    have emn : (if (((2 * m - ((2 * k : Nat) : Int).toNat : Nat) : Int)) < 2 then (((2 * m - ((2 * k : Nat) : Int).toNat : Nat) : Int)) else 2) = (2 : Int) := if_neg (by rw [Int.toNat_natCast]; omega)
    refine xc_skip <| xq_then <| xc_seq <| xc_block <| xc_seq <| xc_draw (canon := [(0, .p), (1, .p), (2, .p), (3, .p), (4, .p), (5, .p), (6, .x)]) (Z := HP _ [_, _]) mixed_ rfl (akp <| akp <| akp <| akp <| akp <| akp <| akx <| ak0) (zsub (.cons_cons _ <| .cons_cons _ <| List.nil_sublist _)) ?_
    refine dp rfl rfl rfl rfl (ld kd_3 rfl .head rfl) <| dp rfl rfl rfl rfl (ld kd_59 rfl (.tail .head) rfl) <| dp rfl rfl rfl rfl (mv rfl) <| dp rfl rfl rfl rfl (vsl so_59 rfl rfl (by omega) (by omega)) <| dp rfl rfl rfl rfl (lenv Tryz.underlying59 rfl) <| dp rfl rfl rfl rfl (minv rfl rfl) <| das rfl rfl rfl rfl (asg rfl) (zsub (.cons_cons _ <| .cons_cons _ <| List.nil_sublist _)) <| dend <| xq_then <| ?_
    refine xc_seq <| xc_region <| xp rfl (mv rfl) <| xp rfl (ld kd_59 rfl (.tail .head) rfl) <| xp rfl (mv rfl) <| xp rfl (mv rfl) <| xp rfl (mv rfl) <| xp rfl (bin rfl rfl bk_add) <| xp rfl (mv rfl) <| xp rfl (mv rfl) <| xp rfl (bin rfl rfl bk_add) <| xp rfl (vs3 so_59 rfl rfl rfl rfl (by first | omega | (rw [emn, ew]; omega)) (by first | omega | (rw [emn, ew]; omega)) (by first | omega | (rw [emn, ew]; omega)) (by first | omega | (rw [emn, ew]; omega))) <| xe rfl (yld (Fr := ([cellR sb2 3 _, cellR sb1 59 _])) (hy _ _ _ hall) hj rfl rfl (by rw [emn, ew]; simp only [Int.toNat_natCast, twoV, offA, Option.map, Addr.add_lit]; rw [if_neg (by omega)]; simp)) fun s hs => xp rfl (un rfl uk_not) <| xl_nil <| xq_then <| xc_cond rfl (fun hc2 => ?_) (fun hc2 => ?_)
    ·
      refine xc_ret <| xq_in_ret <| xq_then_ret <| xq_then_ret <| xq_in_ret <| leave0 (.inl rfl) rfl  fun W hW => (⟨⟨_, rfl⟩, s.2, hW.sub (.cons _ <| .cons _ <| .refl _), .inr ⟨List.range k ++ [k], post, by rw [hall]; simp, hs.2 (by simpa using hc2)⟩⟩)
    ·
      refine xc_skip <| xq_in <| xq_then <| xc_region <| xp rfl (mv rfl) <| xp rfl (ld kd_3 rfl .head rfl) <| xp rfl (bin rfl rfl bk_add) <| xp rfl (asg rfl) <| xl_nil <| xq_roundP (k + 1, s.2) (⟨hk1, by rw [List.range_succ]; exact hs.1 (by simpa using hc2)⟩) (by simp only; omega) (sc (iw (by omega) (by omega) (by omega) rfl) <| sc rfl <| sc rfl <| sc rfl <| sn) (fun W hW => hW.sub (.refl _))
  ·
    obtain rfl : k = m := by have h := of_decide_eq_false hc1; omega
    refine xc_exit <| xq_then_exit <| xq_then_exit <| xq_in_hit <| leave0 (.inr rfl) rfl  fun W hW => (⟨⟨_, rfl⟩, L1, hW.sub (.cons _ <| .cons _ <| .refl _), .inl hj⟩)

end Go.Eng
end
section
namespace Go.Eng
open Go Go.RowKit Go.Proofs
set_option linter.unusedVariables false
set_option linter.unusedSimpArgs false
set_option maxRecDepth 4000
structure Lvl where (A : Option Addr) (c : Nat) (l : List Nd)
abbrev Lvl.val (x : Lvl) : Value := .slice x.A x.l.length x.c
abbrev Lvl.res (x : Lvl) : Res := ownR 152 3 (.slice x.A x.l.length x.c) x.l.length (x.l.flatMap Nd.c)
def lvCells : Nat → List Lvl → List Value
  | _, [] => []
  | k, x :: r => x.val :: .int .i64 k :: lvCells (k + 1) r
theorem lvCells_snoc : ∀ (k : Nat) (d : List Lvl) (x : Lvl), lvCells k (d ++ [x]) = lvCells k d ++ [x.val, .int .i64 (k + d.length : Nat)]
  | k, [], x => by simp [lvCells]
  | k, y :: d, x => by simp only [List.cons_append, lvCells]; rw [lvCells_snoc (k + 1) d x]; simp only [List.length_cons, List.cons_append]; rw [show k + 1 + d.length = k + (d.length + 1) by omega]
theorem lvCells_len : ∀ (k : Nat) (d : List Lvl), (lvCells k d).length = d.length * 2
  | _, [] => rfl
  | k, y :: d => by simp [lvCells, lvCells_len (k + 1) d]; omega
structure TreeV where (tb : Nat) (lA : Option Addr) (lc : Nat) (LA : Option Addr) (Lc : Nat) (dn : List Lvl)
def treeR (z : Int) (leaves : List Leaf) (s : TreeV) : Res :=
  starR [starR (s.dn.map Lvl.res), ownR 197 2 (.slice s.LA s.dn.length s.Lc) s.dn.length (lvCells 0 s.dn), cellR s.tb 200 [.int .i64 z, .slice s.lA leaves.length s.lc, .slice s.LA s.dn.length s.Lc], ownR 58 5 (.slice s.lA leaves.length s.lc) leaves.length (leaves.flatMap Leaf.c)]
theorem star_snoc {w0 W : World} {X : Res} {Xs Ys : List Res} (h : HP w0 (X :: starR Xs :: Ys) W) : HP w0 (starR (Xs ++ [X]) :: Ys) W := by
  have h2 : HP w0 (Xs ++ X :: Ys) W := h.swap.unstar
  refine HP.star (Xs := Xs ++ [X]) ?_
  rw [List.append_assoc]; exact h2
section
variable {r : Option Nat} {n N : Nat} {P : Program} {D : List Deferred} {E : Env} {H : World → Prop} {Q : Exit → Act → World → Prop} {c : Code} {w0 : World} {Rs : List Res}
theorem xc_nil (e k : Nat) (h : XC r n P c Q N D E (HP w0 (ownR e k (.slice none 0 0) 0 [] :: Rs))) : XC r n P c Q N D E (HP w0 Rs) := fun a W ha hw => h a W ha (ownR_nil _ _ _ _ hw)
theorem xc_drop2 {A B : Res} (h : XC r n P c Q N D E (HP w0 (A :: Rs))) : XC r n P c Q N D E (HP w0 (A :: B :: Rs)) := fun a W ha hw => h a W ha (hw.sub (.cons_cons _ <| .cons _ <| .refl _))
theorem xc_row {e k m cc : Nat} {A : Option Addr} {xs : List Value} {f : Res → List Res} (hp : Pos Rs (ownR e k (.slice A m cc) m xs) f) (h0 : 0 < m) (h : ∀ b, A = some ⟨b, 0, none⟩ → m ≤ cc → XC r n P c Q N D E (HP w0 Rs)) : XC r n P c Q N D E (HP w0 Rs) := fun a W ha hw => by
  rcases (hw.mem_ok hp).2 with ⟨_, h1⟩ | ⟨g, cap, cur, h1, _, _, h2, _⟩
  · omega
  · cases h1; exact h g rfl h2 a W ha hw
end
def nd0 : Nd := ⟨noneText, 0⟩
theorem pairUp_step (z : Int) : ∀ (k : Nat) (l : List Nd), 2 * k + 1 < l.length → (pairUp z l).take (k + 1) = (pairUp z l).take k ++ [joinF z (l.getD (2 * k) nd0) (l.getD (2 * k + 1) nd0)]
  | _, [], h => by simp at h
  | _, [a], h => by simp at h
  | 0, a :: b :: r, h => by simp [pairUp]
  | k + 1, a :: b :: r, h => by
    simp only [pairUp, List.take_succ_cons, List.cons_append]
    rw [pairUp_step z k r (by simp at h; omega)]
    simp [Nat.mul_succ]
theorem pair_sum_le : ∀ (k : Nat) (l : List Nd), 2 * k + 1 < l.length → (l.getD (2 * k) nd0).sum + (l.getD (2 * k + 1) nd0).sum ≤ (l.map Nd.sum).sum
  | _, [], h => by simp at h
  | _, [a], h => by simp at h
  | 0, a :: b :: r, h => by simp only [List.map_cons, List.sum_cons, Nat.mul_zero, Nat.zero_add, List.getD_cons_zero, List.getD_cons_succ]; omega
  | k + 1, a :: b :: r, h => by
    have := pair_sum_le k r (by simp at h; omega)
    simp [Nat.mul_succ] at this ⊢; omega
theorem nd_at {W : World} {b off : Nat} {l : List Nd} (h : rowOf W 3 Nd.c (some ⟨b, off, none⟩) l) {k : Nat} (hk : k < l.length) {o : Nat} (ho : o = off + k * 3) : Cells W b o (Nd.c (l.getD k nd0)) := by
  have e : l.getD k nd0 = l[k] := by simp [List.getD_eq_getElem?_getD, hk]
  rw [e, ho]; exact h.cells_at ndK k hk
def leaf0 : Leaf := ⟨false, noneText, noneText, 0⟩
theorem lf_at {W : World} {b off : Nat} {l : List Leaf} (h : rowOf W 5 Leaf.c (some ⟨b, off, none⟩) l) {k : Nat} (hk : k < l.length) {o : Nat} (ho : o = off + k * 5) : Cells W b o (Leaf.c (l.getD k leaf0)) := by
  have e : l.getD k leaf0 = l[k] := by simp [List.getD_eq_getElem?_getD, hk]
  rw [e, ho]; exact h.cells_at leafK k hk
theorem range_split {m x : Nat} {pre post : List Nat} (h : List.range m = pre ++ x :: post) : x = pre.length ∧ pre.length < m := by
  have hl : pre.length < (List.range m).length := by rw [h]; simp
  have e : (List.range m)[pre.length]? = some x := by rw [h]; simp
  rw [List.length_range] at hl
  rw [List.getElem?_range hl] at e
  exact ⟨by cases e; rfl, hl⟩
structure LeavesOK (h : Nat) (l : List Leaf) : Prop where
  len : l.length = 2 ^ h
  may : ∀ a ∈ l, mayLeafF a = true
  size : ∀ a ∈ l, a.id.size ≤ 65536 ∧ a.salt.size ≤ 65536
  sum : (l.map Leaf.bal).sum < BB
noncomputable abbrev nodesF (z : Int) (l : List Leaf) : List Nd := l.map (leafNodeF z)
theorem nodes_of {z : Int} (hz : mayWidthF z = true) (l : List Leaf) : ∀ a ∈ nodesF z l, ofF z a = true := fun a ha => by
  obtain ⟨x, _, rfl⟩ := List.mem_map.1 ha
  have hz2 : 1 ≤ z ∧ z ≤ 32 := by simpa [mayWidthF] using hz
  have hs := shaF_size (leafTextF x)
  have : (((shaF (leafTextF x)).extract 0 z.toNat).size : Int) = z := by rw [ByteArray.size_extract, hs]; omega
  simp only [ofF, leafNodeF, this]; simp [hz2]
theorem nodes_sum (z : Int) (l : List Leaf) : ((nodesF z l).map Nd.sum).sum = (l.map Leaf.bal).sum := by
  rw [List.map_map]; rfl

theorem tnew_ok {z : Int} {h : Nat} {A : Option Addr} {leaves : List Leaf} {c : Nat} {w : World} (hG : Glob w) (hz : mayWidthF z = true) (hh : h ≤ 10) (hL : rowOf w 5 Leaf.c A leaves) (hl : LeavesOK h leaves) :
  Ret Tryz.prog 64 [.int .i64 z, .slice A leaves.length c] w (fun s : TreeV => .tuple #[.pointer (some ⟨s.tb, 0, none⟩), .int .i64 0]) (fun s => s.dn.map Lvl.l = levelsF z h (nodesF z leaves)) (fun s => [treeR z leaves s]) := by
  have hp2 := pow_small hh
  have hlen := hl.len
  have hz2 : 1 ≤ z ∧ z ≤ 32 := by simpa [mayWidthF] using hz
  refine begin_m Tryz.func64 rfl rfl rfl ?_
  refine xc_seq <| xc_region <| xe rfl (bx rfl rfl) fun b1 _ => xe rfl (al zo_109) fun b2 _ => xe rfl (al zo_30) fun b3 _ => xl_nil <| xq_then <| ?_
  refine xc_scope <| xc_seq <| xc_region <| xp rfl (mv rfl) <| xp rfl (lenv Tryz.underlying132 rfl) <| xv rfl Tryz.call117 rfl rfl (fun W hW => (by rw [hlen]; exact height_ok hh W)) <| xp rfl (mv rfl) <| xp rfl (ext rfl rfl) <| xp rfl (ext rfl rfl) <| xp rfl (asg rfl) <| xp rfl (asg rfl) <| xl_nil <| xq_then <| ?_
  refine xc_seq <| xc_block <| xc_seq <| xc_region <| xp rfl (ld kd_3 rfl (.tail <| .tail .head) rfl) <| xp rfl (bin rfl rfl bk_lss) <| xp rfl (mv rfl) <| xl_or 3 28 (fun hg1 => xgT rfl rfl rfl hg1 <| xp rfl (ld kd_3 rfl (.tail <| .tail .head) rfl) <| xgT rfl rfl rfl hg1 <| xp rfl (bin rfl rfl bk_gtr) <| xp rfl (pickF rfl hg1 rfl) <| xl_nil <| xq_or_yes hg1 (.kc rfl <| .kc rfl .kn) (fun _ h => h)) (fun hg1 => xgF rfl rfl rfl hg1 <| xgF rfl rfl rfl hg1 <| xp rfl (pickT rfl hg1 rfl) <| xl_nil <| xq_or_no hg1 (.kc rfl <| .kc rfl .kn) (fun _ h => h)) <| xp rfl (asg rfl) <| xl_nil <| xq_then <| xc_cond rfl (fun hc2 => ?_) (fun hc2 => ?_)
  ·
    exfalso; simp at hc2; omega
  ·
    refine xc_seq <| xc_region <| xp rfl (mv rfl) <| xp rfl (un rfl uk_not) <| xp rfl (asg rfl) <| xl_nil <| xq_then <| xc_cond rfl (fun hc3 => ?_) (fun hc3 => ?_)
    ·
      cases hc3
    ·
      refine xc_skip <| xq_in <| xq_then <| xc_seq <| xc_region <| xp rfl (asg rfl) <| xl_nil <| xq_then <| xc_seq <| xc_label <| xq_then <| ?_
      refine xc_seq <| xc_seq <| xc_region <| xp rfl (mv rfl) <| xp rfl (lenv Tryz.underlying132 rfl) <| xp rfl (mv rfl) <| xl_nil <| xq_then <| xc_block <| xc_loopP (σ := Nat × Option Addr × Nat) (fun q => [(8, .slice q.2.1 q.1 q.2.2), (34, .int .i64 q.1), (1, _), (2, _), (4, _), (5, _), (32, _), (33, _)]) (fun q => q.1 ≤ leaves.length) (fun q => HP w (ownR 152 3 (.slice q.2.1 q.1 q.2.2) q.1 ((nodesF z (leaves.take q.1)).flatMap Nd.c) :: [cellR b3 30 [.int .i64 0], cellR b2 109 [.pointer none], cellR b1 3 [.int .i64 z]])) (fun q => leaves.length - q.1) (0, none, 0) (Nat.zero_le _) (sc rfl <| sc rfl <| sc rfl <| sc rfl <| sc rfl <| sc rfl <| sc rfl <| sc rfl <| sn) (fun W hW => ownR_nil _ _ _ _ hW) fun q hk => ?_
      obtain ⟨k, LA, Lc⟩ := q
      simp only at hk
      dsimp only
      refine xc_seq <| xc_region <| xp rfl (bin rfl rfl bk_lss) <| xl_nil <| xq_then <| xc_seq <| xc_cond rfl (fun hc4 => ?_) (fun hc4 => ?_)
      ·
        have hk1 : k < leaves.length := by have h := of_decide_eq_true hc4; omega
        obtain ⟨bb, off, rfl⟩ := hL.addr (by omega)
        have hm := getD_mem hk1 leaf0
        have hsz := hl.size _ hm
        have hmay := hl.may _ hm
        refine xc_skip <| xq_then <| xc_seq <| xc_block <| xc_seq <| xc_region <| xp rfl (ix so_132 rfl rfl (by omega) (by omega)) <| xp rfl (ldc kd_58 rfl (vs := _) (fun W hW => lf_at (hL.up hW) hk1 (by omega)) rfl) <| xe rfl (al zo_58) fun b4 _ => xs (st sz_58 rfl rfl rfl rfl .head rfl rfl) <| xl_nil <| xq_then <| ?_
        refine xc_seq <| xc_seq <| xc_region <| xp rfl (ld kd_58 rfl .head rfl) <| xv rfl Tryz.call105 rfl rfl (fun W hW => (mayleaf_ok (hG.up hW) (by omega))) <| xp rfl (un rfl uk_not) <| xl_nil <| xq_then <| xc_cond rfl (fun hc5 => ?_) (fun hc5 => ?_)
        ·
          rw [hmay] at hc5; cases hc5
        ·
          refine xc_skip <| xq_then <| xc_region <| xp rfl (mv rfl) <| xp rfl (ld kd_3 rfl (.tail <| .tail <| .tail <| .tail .head) rfl) <| xp rfl (ld kd_58 rfl .head rfl) <| xv rfl Tryz.call108 rfl rfl (fun W hW => (leafnode_ok (hG.up hW) hz hmay hsz.1 hsz.2)) <| xe rfl (bs rfl bs_59_1) fun b5 _ => xe rfl (apS mo_59 rfl rfl (.tail <| .tail .head) rfl (nw .head) (by simp [Value.oneCell']) (by simp only [maxLen]; omega) (by omega)) fun s1 _ => xp rfl (asg rfl) <| xl_nil <| xq_in <| xq_then <| ?_
          refine xc_region <| xp rfl (bin rfl rfl bk_add) <| xp rfl (mv rfl) <| xl_nil <| xq_roundP (k + 1, s1.1, s1.2) hk1 (by simp only; omega) (sc rfl <| sc (iw (by omega) (by omega) (by omega) rfl) <| sc rfl <| sc rfl <| sc rfl <| sc rfl <| sc rfl <| sc rfl <| sn) (fun W hW => by
              have h1 := hW.sub (.cons _ <| .cons _ <| .refl _)
              dsimp only
              rw [take_step hk1 leaf0, nodesF, List.map_append, List.flatMap_append]
              simp only [List.map_cons, List.map_nil, List.flatMap_cons, List.flatMap_nil, List.append_nil]
              exact h1)
      ·
        obtain rfl : k = leaves.length := by have h := of_decide_eq_false hc4; omega
        rw [List.take_length]
        refine xc_exit <| xq_then_exit <| xq_then_exit <| xq_in_hit <| xq_then <| xc_seq <| xc_seq <| xc_region <| xp rfl (mv rfl) <| xp rfl (lenv Tryz.underlying59 rfl) <| xp rfl (mv rfl) <| xp rfl (lenv Tryz.underlying132 rfl) <| xp rfl (bin rfl rfl bk_lss) <| xl_nil <| xq_then <| xc_cond rfl (fun hc6 => ?_) (fun hc6 => ?_)
        ·
          exfalso; have h := of_decide_eq_true hc6; omega
        ·
          refine xc_skip <| xq_then <| xc_seq <| xc_draw (canon := [(0, .p), (1, .p), (2, .x), (3, .p), (4, .x), (5, .x)]) (Z := HP _ [_, cellR b3 _ _, cellR b2 _ _, cellR b1 _ _]) mixed_ rfl (akp <| akp <| akx <| akp <| akx <| akx <| ak0) (zsub (.cons_cons _ <| .cons_cons _ <| .cons_cons _ <| .cons_cons _ <| List.nil_sublist _)) ?_
          refine dp rfl rfl rfl rfl (ld kd_3 rfl (.tail <| .tail <| .tail .head) rfl) <| dp rfl rfl rfl rfl (mv rfl) <| dr rfl rfl rfl (.inl rfl) rfl Tryz.call118 rfl rfl (fun W hW => (lclone_ok (hL.up hW) (by omega))) (zsub (.cons_cons _ <| .cons_cons _ <| .cons_cons _ <| .cons_cons _ <| List.nil_sublist _)) fun lv _ => dp rfl rfl rfl rfl (bd rfl bd_200_0_1) <| dbx rfl rfl rfl rfl rfl rfl rfl (zsub (.cons _ <| .cons_cons _ <| .cons_cons _ <| .cons_cons _ <| .cons_cons _ <| List.nil_sublist _)) fun b6 => das rfl rfl rfl rfl (asg rfl) (zsub (.cons _ <| .cons _ <| .cons_cons _ <| .cons_cons _ <| .cons_cons _ <| .cons_cons _ <| List.nil_sublist _)) <| dend <| xq_then <| xc_block <| xc_loopD (σ := Nat × Lvl × List Lvl × Option Addr × Nat × List Nat) (fun q => marksD q.2.2.2.2.2) (fun q => [(8, .slice q.2.1.A q.2.1.l.length q.2.1.c), (2, _), (4, _), (5, _), (11, _)]) (fun q => q.1 ≤ h ∧ q.2.1.l.length = 2 ^ q.1 ∧ levelsF z h (nodesF z leaves) = q.2.2.1.map Lvl.l ++ levelsF z q.1 q.2.1.l ∧ (∀ a ∈ q.2.1.l, ofF z a = true) ∧ (q.2.1.l.map Nd.sum).sum < BB ∧ q.2.2.1.length + q.1 = h) (fun q => HP w (Lvl.res q.2.1 :: starR (q.2.2.1.map Lvl.res) :: starR (marksL q.2.2.2.2.2) :: ownR 197 2 (.slice q.2.2.2.1 q.2.2.1.length q.2.2.2.2.1) q.2.2.1.length (lvCells 0 q.2.2.1) :: cellR b6 200 [.int .i64 z, .slice lv.1 leaves.length lv.2, .slice q.2.2.2.1 q.2.2.1.length q.2.2.2.2.1] :: [ownR 58 5 (.slice lv.1 leaves.length lv.2) leaves.length (leaves.flatMap Leaf.c), cellR b3 30 [.int .i64 0], cellR b2 109 [.pointer none], cellR b1 3 [.int .i64 z]])) (fun q => q.1) (h, ⟨LA, Lc, nodesF z leaves⟩, [], none, 0, []) ⟨Nat.le_refl _, by simp [hlen], by simp, nodes_of hz _, by rw [nodes_sum]; exact hl.sum, by simp⟩ rfl (sc ((by simp only [List.length_map]; rfl)) <| sc rfl <| sc rfl <| sc rfl <| sc rfl <| sn) (fun W hW => by
          have h1 := ((ownR_nil w W 197 2 hW).star_nil.star_nil).perm (Takes.perm (.tc (.tail <| .tail <| .tail <| .tail <| .tail <| .head) <| .tn))
          dsimp only [Lvl.res]
          rw [show (nodesF z leaves).length = leaves.length from List.length_map _]
          exact h1) fun q ⟨hm, hcl, hlv, hof, hsm, hdn⟩ => ?_
          obtain ⟨m, ⟨cA, cc, cl⟩, dn, LA, Lc, mks⟩ := q
          simp only at hm hcl hlv hof hsm hdn
          dsimp only
          refine xc_block <| xc_seq <| xc_draw (canon := [(0, .p), (1, .p), (2, .p), (3, .p), (4, .l), (5, .p), (6, .p), (7, .p), (8, .p), (9, .p), (10, .y), (11, .p), (12, .p), (13, .y), (14, .x), (15, .p), (16, .p), (17, .x)]) (Z := HP _ [_, _, _, _, cellR b3 _ _, cellR b2 _ _, cellR b1 _ _]) mixed_ rfl (akp <| akp <| akp <| akp <| akl <| akp <| akp <| akp <| akp <| akp <| aky <| akp <| akp <| aky <| akx <| akp <| akp <| akx <| ak0) (zsub (.cons_cons _ <| .cons_cons _ <| .cons_cons _ <| .cons _ <| .cons _ <| .cons_cons _ <| .cons_cons _ <| .cons_cons _ <| .cons_cons _ <| List.nil_sublist _)) ?_
          refine dp rfl rfl rfl rfl (mv rfl) <| dp rfl rfl rfl rfl (mv rfl) <| dp rfl rfl rfl rfl (nc rfl) <| dp rfl rfl rfl rfl (fa fa_200_2 rfl) <| dl rfl rfl rfl rfl (ld kd_198 rfl (.tail <| .tail <| .tail <| .tail .head) rfl) <| dp rfl rfl rfl rfl (mv rfl) <| dp rfl rfl rfl rfl (bd rfl bd_195_0) <| dp rfl rfl rfl rfl (mv rfl) <| dp rfl rfl rfl rfl (nc rfl) <| dp rfl rfl rfl rfl (fa fa_200_2 rfl) <| dasy rfl rfl rfl rfl (ld kd_198 rfl (.tail <| .tail <| .tail <| .tail .head) rfl) (zsub (.cons_cons _ <| .cons_cons _ <| .cons_cons _ <| .cons _ <| .cons _ <| .cons_cons _ <| .cons_cons _ <| .cons_cons _ <| .cons_cons _ <| List.nil_sublist _)) <| dp rfl rfl rfl rfl (lenv Tryz.underlying198 rfl) <| dp rfl rfl rfl rfl (bd rfl bd_197_0_1) <| dey rfl rfl rfl (.inl rfl) (fun Fr => bs rfl bs_198_1) (fun _ => (zsub (.cons _ <| .cons_cons _ <| .cons_cons _ <| .cons_cons _ <| .cons _ <| .cons _ <| .cons_cons _ <| .cons_cons _ <| .cons_cons _ <| .cons_cons _ <| List.nil_sublist _))) fun b7 _ => dap rfl rfl rfl rfl rfl mo_198 rfl rfl (.tail <| .tail <| .tail <| .tail <| .head) rfl (nwF .head) (by simp [Value.oneCell']) (by simp only [maxLen]; omega) (by omega) (fun _ => (zsub (.cons _ <| .cons_cons _ <| .cons_cons _ <| .cons_cons _ <| .cons _ <| .cons _ <| .cons_cons _ <| .cons_cons _ <| .cons_cons _ <| .cons_cons _ <| List.nil_sublist _))) fun s2 _ => dp rfl rfl rfl rfl (nc rfl) <| dp rfl rfl rfl rfl (fa fa_200_2 rfl) <| dst_ rfl rfl rfl rfl sz_198 rfl rfl rfl rfl (.tail <| .tail <| .tail <| .tail <| .tail .head) rfl rfl (zsub (.cons _ <| .cons_cons _ <| .cons_cons _ <| .cons_cons _ <| .cons _ <| .cons _ <| .cons_cons _ <| .cons_cons _ <| .cons_cons _ <| .cons_cons _ <| List.nil_sublist _)) <| dend <| xq_then <| ?_
          refine xc_seq <| xc_seq <| xc_region <| xp rfl (mv rfl) <| xp rfl (lenv Tryz.underlying59 rfl) <| xp rfl (bin rfl rfl bk_eql) <| xl_nil <| xq_then <| xc_cond rfl (fun hc7 => ?_) (fun hc7 => ?_)
          ·
            have hl1 : (cl.length : Int) = 1 := eq_of_beq hc7
            obtain rfl : m = 0 := by cases m with | zero => rfl | succ m => exfalso; rw [Nat.pow_succ] at hcl; omega
            refine xc_seq <| xc_region <| xp rfl (mv rfl) <| xs (st sz_109 rfl rfl rfl rfl (.tail <| .tail <| .tail <| .tail <| .tail <| .tail <| .tail <| .tail .head) rfl rfl) <| xs (st sz_30 rfl rfl rfl rfl (.tail <| .tail <| .tail <| .tail <| .tail <| .tail <| .tail .head) rfl rfl) <| xl_nil <| xq_then <| xc_ret <| xq_then_ret <| xq_in_ret <| xq_then_ret <| xq_in_ret <| xq_ng_ret <| leaveMs (.inl rfl) (.tail <| .tail <| .tail .head) (rets2 rfl (.cell rfl (ld_own kd_109 (.tail <| .tail <| .tail <| .tail <| .tail <| .tail <| .tail .head) rfl)) (.cell rfl (ld_own kd_30 (.tail <| .tail <| .tail <| .tail <| .tail <| .tail .head) rfl))) fun W hW => (⟨⟨b6, lv.1, lv.2, s2.1, s2.2, dn ++ [⟨cA, cc, cl⟩]⟩, rfl, by rw [hlv]; simp [levelsF], by
              have h1 := (star_snoc hW.drop).sub (.cons_cons _ <| .cons_cons _ <| .cons_cons _ <| .cons_cons _ <| List.nil_sublist _)
              refine HP.star (Xs := [_, _, _, _]) (Ys := []) ?_
              simp only [List.map_append, List.map_cons, List.map_nil, List.length_append, List.length_cons, List.length_nil, lvCells_snoc, Nat.zero_add]
              exact h1⟩)
          ·
            obtain ⟨m, rfl⟩ : ∃ m1, m = m1 + 1 := by cases m with | zero => exfalso; rw [hcl] at hc7; exact absurd hc7 (by decide) | succ m => exact ⟨m, rfl⟩
            have hcl2 : cl.length = 2 * 2 ^ m := by rw [hcl, Nat.pow_succ, Nat.mul_comm]
            have hpm := Nat.two_pow_pos m
            have hpb := (pow_small (show m + 1 ≤ 10 by omega)).2
            rw [Nat.pow_succ] at hpb
            refine xc_skip <| xq_then <| xc_seq <| xc_region <| xe rfl (al zo_59) fun b8 _ => xl_nil <| xq_then <| ?_
            refine xc_seq <| xc_seq <| xc_drop2 <| xc_nil 152 3 <| xc_row (.tail <| .tail .head) (by show 0 < cl.length; omega) fun cb hcb hcc => ?_
            subst hcb
            simp only at hcc
            refine xc_region <| xp rfl (mv rfl) <| xr rfl Tryz.call119 rfl rfl (fun W hW => (chunk_ok _ ⟨_, _, _, rfl⟩ W)) fun cs _ => xl_nil <| xq_then <| xc_block <| ?_
            -- RANGE 1 f=('Operand.tmp', '80') params=[81] res=['c1', 'c2', 'nrow', 'b8', 'cur', 'dn', 'marks', 'lev', 'b6', 'lrow', 'b3', 'b2', 'b1']
            refine xc_range (pl := [81]) (It := ([cellR cs.2 3 [.int .i64 2], cellR cs.1 59 [.slice (some ⟨cb, 0, none⟩) cl.length cc]])) (all := (List.range (2 ^ m))) (encs := (twoV cb 0)) (fun pre L => (∃ (A2 : Option Addr) (c3 : Nat), L = ownR 152 3 (.slice A2 pre.length c3) pre.length (((pairUp z cl).take pre.length).flatMap Nd.c) :: cellR b8 59 [.slice A2 pre.length c3] :: Lvl.res (⟨some ⟨cb, 0, none⟩, cc, cl⟩ : Lvl) :: starR (dn.map Lvl.res) :: starR (marksL mks) :: ownR 197 2 (.slice s2.1 (dn.length + 1) s2.2) (dn.length + 1) (lvCells 0 dn ++ [Lvl.val (⟨some ⟨cb, 0, none⟩, cc, cl⟩ : Lvl), .int .i64 dn.length]) :: cellR b6 200 [.int .i64 z, .slice lv.1 leaves.length lv.2, .slice s2.1 (dn.length + 1) s2.2] :: [ownR 58 5 (.slice lv.1 leaves.length lv.2) leaves.length (leaves.flatMap Leaf.c), cellR b3 30 [.int .i64 0], cellR b2 109 [.pointer none], cellR b1 3 [.int .i64 z]])) (fun c pre L => False) Tryz.call191 rfl (fun _ => rfl) rfl (chunk_iter hcl2 (by omega) (by omega)) (⟨none, 0, rfl⟩) (fun l pre post x L Fr hall hJ => ?_) (fun b L hJ => ?_) (fun b c pre post L hall hJ => ?_)
            ·
              obtain ⟨A2, c3, rfl⟩ := hJ
              obtain ⟨rfl, hpl⟩ := range_split hall
              have i0 : 2 * pre.length < cl.length := by omega
              have i1 : 2 * pre.length + 1 < cl.length := by omega
              have hps := pair_sum_le pre.length cl i1
              have hstep := pairUp_step z pre.length cl i1
              have hplen := pairUp_len z _ _ hcl2
              refine xc_region <| xp rfl (asg rfl) <| xl_nil <| xq_rnd fun Fr => ?_
              refine xc_block <| xc_seq <| xc_draw (canon := [(0, .p), (1, .p), (2, .p), (3, .p), (4, .p), (5, .p), (6, .p), (7, .x), (8, .p), (9, .p), (10, .p), (11, .a), (12, .x), (13, .x)]) (Z := HP _ [_, cellR b8 _ _, _, _, _, _, cellR b6 _ _, _, cellR b3 _ _, cellR b2 _ _, cellR b1 _ _]) mixed_ rfl (akp <| akp <| akp <| akp <| akp <| akp <| akp <| akx <| akp <| akp <| akp <| aka rfl rfl rfl rfl rfl zo_152 <| akx <| akx <| ak0) (zsub (.cons_cons _ <| .cons_cons _ <| .cons_cons _ <| .cons_cons _ <| .cons_cons _ <| .cons_cons _ <| .cons_cons _ <| .cons_cons _ <| .cons_cons _ <| .cons_cons _ <| .cons_cons _ <| List.nil_sublist _)) ?_
              refine dp rfl rfl rfl rfl (ld kd_3 rfl (.tail <| .tail <| .tail <| .tail <| .tail <| .tail <| .tail <| .tail <| .tail <| .tail .head) rfl) <| dp rfl rfl rfl rfl (mv rfl) <| dp rfl rfl rfl rfl (ix so_59 rfl rfl (by omega) (by omega)) <| dp rfl rfl rfl rfl (ldc kd_152 rfl (vs := _) (fun W hW => nd_at (ownR_rowOf (hW.mem_ok (.tail <| .tail .head))) i0 (by simp)) rfl) <| dp rfl rfl rfl rfl (mv rfl) <| dp rfl rfl rfl rfl (ix so_59 rfl rfl (by omega) (by omega)) <| dp rfl rfl rfl rfl (ldc kd_152 rfl (vs := _) (fun W hW => nd_at (ownR_rowOf (hW.mem_ok (.tail <| .tail .head))) i1 (by simp; omega)) rfl) <| dv rfl rfl rfl (.inl rfl) rfl Tryz.call120 rfl rfl (fun W hW => (join_ok (hG.up (hW.sub (List.nil_sublist _))) (hof _ (getD_mem i0 _)) (hof _ (getD_mem i1 _)) (Nat.lt_of_le_of_lt hps hsm))) (zsub (.cons_cons _ <| .cons_cons _ <| .cons_cons _ <| .cons_cons _ <| .cons_cons _ <| .cons_cons _ <| .cons_cons _ <| .cons_cons _ <| .cons_cons _ <| .cons_cons _ <| .cons_cons _ <| List.nil_sublist _)) <| dp rfl rfl rfl rfl (mv rfl) <| dp rfl rfl rfl rfl (ext rfl rfl) <| dp rfl rfl rfl rfl (ext rfl rfl) <| da rfl rfl rfl rfl rfl zo_152 fun b9 => dst_ rfl rfl rfl rfl sz_152 rfl rfl rfl rfl .head rfl rfl (zsub (.cons _ <| .cons_cons _ <| .cons_cons _ <| .cons_cons _ <| .cons_cons _ <| .cons_cons _ <| .cons_cons _ <| .cons_cons _ <| .cons_cons _ <| .cons_cons _ <| .cons_cons _ <| .cons_cons _ <| List.nil_sublist _)) <| das rfl rfl rfl rfl (asg rfl) (zsub (.cons _ <| .cons_cons _ <| .cons_cons _ <| .cons_cons _ <| .cons_cons _ <| .cons_cons _ <| .cons_cons _ <| .cons_cons _ <| .cons_cons _ <| .cons_cons _ <| .cons_cons _ <| .cons_cons _ <| List.nil_sublist _)) <| dend <| xq_then <| ?_
              refine xc_seq <| xc_seq <| xc_region <| xp rfl (mv rfl) <| xp rfl (bin rfl rfl bk_neq) <| xl_nil <| xq_then <| xc_cond rfl (fun hc8 => ?_) (fun hc8 => ?_)
              ·
                exact absurd hc8 (by decide)
              ·
                refine xc_skip <| xq_then <| xc_region <| xp rfl (ld kd_59 rfl (.tail <| .tail .head) rfl) <| xp rfl (ld kd_152 rfl .head rfl) <| xe rfl (bs rfl bs_59_1) fun b10 _ => xe rfl (apS mo_59 rfl rfl (.tail <| .tail .head) rfl (nw .head) (by simp [Value.oneCell']) (by simp only [maxLen]; omega) (by omega)) fun s3 _ => xs (st sz_59 rfl rfl rfl rfl (.tail <| .tail <| .tail .head) rfl rfl) <| xl_nil <| xq_in <| xq_bodyW (L1 := (ownR 152 3 (.slice s3.1 (pre ++ [pre.length]).length s3.2) (pre ++ [pre.length]).length (((pairUp z cl).take (pre ++ [pre.length]).length).flatMap Nd.c) :: cellR b8 59 [.slice s3.1 (pre ++ [pre.length]).length s3.2] :: Lvl.res (⟨some ⟨cb, 0, none⟩, cc, cl⟩ : Lvl) :: starR (dn.map Lvl.res) :: starR (marksL mks) :: ownR 197 2 (.slice s2.1 (dn.length + 1) s2.2) (dn.length + 1) (lvCells 0 dn ++ [Lvl.val (⟨some ⟨cb, 0, none⟩, cc, cl⟩ : Lvl), .int .i64 dn.length]) :: cellR b6 200 [.int .i64 z, .slice lv.1 leaves.length lv.2, .slice s2.1 (dn.length + 1) s2.2] :: [ownR 58 5 (.slice lv.1 leaves.length lv.2) leaves.length (leaves.flatMap Leaf.c), cellR b3 30 [.int .i64 0], cellR b2 109 [.pointer none], cellR b1 3 [.int .i64 z]])) (fun W hW => by
                have h1 := hW.sub (.cons _ <| .cons _ <| .refl _)
                simp only [List.length_append, List.length_cons, List.length_nil, Nat.zero_add]
                rw [hstep, List.flatMap_append]
                simp only [List.flatMap_cons, List.flatMap_nil, List.append_nil]
                exact h1) (⟨_, _, rfl⟩)
            ·
              obtain ⟨A2, c3, rfl⟩ := hJ
              have hplen := pairUp_len z _ _ hcl2
              simp only [List.length_range]
              refine xq_in <| xq_then <| xc_region <| xp rfl (ld kd_59 rfl (.tail <| .tail .head) rfl) <| xp rfl (asg rfl) <| xl_nil <| xq_in <| xq_roundD (m, ⟨A2, c3, pairUp z cl⟩, dn ++ [(⟨some ⟨cb, 0, none⟩, cc, cl⟩ : Lvl)], s2.1, s2.2, b :: mks) (⟨by omega, hplen, by rw [hlv]; simp [levelsF], pairUp_of hz _ _ hcl2, by rw [pairUp_sum z _ _ hcl2]; exact hsm, by simp; omega⟩) (by simp only; omega) rfl (sc ((by simp only [pairUp_len z _ _ hcl2]; rfl)) <| sc rfl <| sc rfl <| sc rfl <| sc rfl <| sn) (fun W hW => by
                have h1 := marks_cons (hW.perm (Takes.perm (.tc .head <| .tc (.tail <| .tail <| .tail <| .tail <| .head) <| .tn)))
                have h2 := star_snoc (h1.perm (Takes.perm (.tc (.tail <| .tail <| .tail <| .head) <| .tc (.tail <| .tail <| .tail <| .head) <| .tn)))
                have h3 := (h2.perm (Takes.perm (.tc (.tail <| .tail <| .head) <| .tc .head <| .tc .head <| .tn))).sub (.cons_cons _ <| .cons_cons _ <| .cons_cons _ <| .cons _ <| .refl _)
                rw [List.take_of_length_le (by omega)] at h3
                simp only [List.map_append, List.map_cons, List.map_nil, List.length_append, List.length_cons, List.length_nil, lvCells_snoc, Nat.zero_add, Lvl.res, hplen]
                exact h3)
            ·
              exact hJ.elim

end Go.Eng
end
section
namespace Go.Eng
open Go Go.RowKit Go.Proofs
set_option linter.unusedVariables false
theorem levels_last (z : Int) : ∀ (m : Nat) (l : List Nd), l.length = 2 ^ m → ∃ init, levelsF z m l = init ++ [[rootN z m l]] ∧ init.length = m
  | 0, l, h => by
    match l, h with
    | [a], _ => exact ⟨[], by simp [levelsF, rootN], rfl⟩
  | m + 1, l, h => by
    rw [Nat.pow_succ, Nat.mul_comm] at h
    obtain ⟨i, e, hl⟩ := levels_last z m _ (pairUp_len z _ _ h)
    exact ⟨l :: i, by rw [levelsF, e, rootN]; rfl, by simp [hl]⟩
theorem cellR_at {W : World} {b T : Nat} {vs : List Value} (h : (cellR b T vs).ok W) : Cells W b 0 vs := fun i u hu => by
  have h : W.heap[b]? = some (.cells vs.toArray T (0, 0)) := h
  simp [World.cell?, h, hu]
theorem one_of {d2 : List Lvl} {v : List Nd} (h2 : d2.map Lvl.l = [v]) : ∃ x, d2 = [x] ∧ x.l = v := by
  match d2, h2 with
  | [x], h2 => exact ⟨x, rfl, by simpa using h2⟩
theorem treeR_at {W : World} {z : Int} {h : Nat} {leaves : List Leaf} {s : TreeV} (hW : (treeR z leaves s).ok W) (hs : s.dn.map Lvl.l = levelsF z h (nodesF z leaves)) (hl : leaves.length = 2 ^ h) (hh : h ≤ 10) : TreeAt W s.tb (rootN z h (nodesF z leaves)) h := by
  obtain ⟨tb, lA, lc, LA, Lc, dn⟩ := s
  simp only at hs
  obtain ⟨init, e1, e2⟩ := levels_last z h (nodesF z leaves) (by rw [nodesF, List.length_map, hl])
  rw [e1] at hs
  obtain ⟨d1, d2, rfl, h1, h2⟩ := List.map_eq_append_iff.1 hs
  obtain ⟨last, rfl, h3⟩ : ∃ x, d2 = [x] ∧ x.l = [rootN z h (nodesF z leaves)] := one_of h2
  have hd : d1.length = h := by rw [← e2, ← h1, List.length_map]
  have k1 := cellR_at (starR_ok hW (X := cellR tb 200 [.int .i64 z, .slice lA leaves.length lc, .slice LA (d1 ++ [last]).length Lc]) (by simp))
  have k2 := ownR_row (starR_ok hW (X := ownR 197 2 (.slice LA (d1 ++ [last]).length Lc) (d1 ++ [last]).length (lvCells 0 (d1 ++ [last]))) (by simp))
  have k3 := ownR_row (starR_ok (starR_ok hW (X := starR ((d1 ++ [last]).map Lvl.res)) (by simp)) (X := last.res) (by simp))
  obtain ⟨lb, lo, rfl, c2⟩ := k2.2.2 (by simp)
  obtain ⟨lA3, lc3, ll⟩ := last
  simp only at h3
  subst h3
  obtain ⟨nb, no, e3, c3⟩ := k3.2.2 (by simp)
  simp only at e3
  subst e3
  have c3 : Cells W nb no (rootN z h (nodesF z leaves)).c := by simpa using c3
  refine ⟨by omega, z, .slice lA leaves.length lc, lb, lo, Lc, nb, no, lc3, ?_, ?_, c3⟩
  · simpa [hd] using k1
  · intro i u hu
    have := c2 (h * 2 + i) u (by rw [lvCells_snoc, List.getElem?_append_right (by rw [lvCells_len, hd]; omega), lvCells_len, hd, Nat.zero_add, Nat.add_sub_cancel_left]; exact hu)
    rw [← this, Nat.add_assoc]
end Go.Eng
end
