/- Part 9 of the walks and plain lemmas that the claim rests on. -/
import Derived.Test.YtfdnhjfbbggmiaaGreatDoorP8
section
namespace Go.Eng
open Go Go.RowKit Go.Proofs
set_option linter.unusedVariables false
set_option linter.unusedSimpArgs false
set_option maxRecDepth 4000
theorem Takes.allIt {L : List Res} : ∀ {It : List Res}, Takes (It ++ L) It L
  | [] => .tn
  | _ :: _ => .tc .head Takes.allIt

theorem idxm_ok {σ : Type} {It : Nat → σ → List Res} {A : Option Addr} {l : List Ac} {c g : Nat} {cap : List Value} {w : World} (he : Enters Tryz.prog g) (hr : rowOf w 5 Ac.c A l)
  (hp : ∀ (w1 : World), Below w.heap.size w w1 → ∀ k s, k < l.length → RetM Tryz.prog w1 g ((getA l k).V :: cap) (It k s) (fun _ : σ => .bool false) (fun _ => True) (fun s' => It (k + 1) s')) (s0 : σ) :
  RetM Tryz.prog w 189 [.slice A l.length c, .func (.func g) #[] cap.toArray] (It 0 s0) (fun _ : σ => .int .i64 (-1)) (fun _ => True) (fun s => It l.length s) := by
  intro w0 Fr0 W hB hW
  have hsm := hr.small
  have hr := hr.below hB
  refine begin_at Tryz.func189 rfl rfl rfl hW ?_
  refine xc_seq <| xc_region <| xp rfl (asg rfl) <| xl_nil <| xq_then <| ?_
  refine xc_seq <| xc_seq <| xc_region <| xp rfl (mv rfl) <| xp rfl (lenv Tryz.underlying49 rfl) <| xp rfl (mv rfl) <| xl_nil <| xq_then <| xc_block <| xc_loopP (σ := Nat × σ) (fun q => [(8, .int .i64 q.1), (0, _), (1, _), (7, _)]) (fun q => q.1 ≤ l.length) (fun q => HP w0 (It q.1 q.2 ++ Fr0)) (fun q => l.length - q.1) (0, s0) (Nat.zero_le _) (sc rfl <| sc rfl <| sc rfl <| sc rfl <| sn) (fun W hW => hW) fun q hk => ?_
  obtain ⟨k, s⟩ := q
  simp only at hk
  dsimp only
  refine xc_seq <| xc_region <| xp rfl (bin rfl rfl bk_lss) <| xl_nil <| xq_then <| xc_seq <| xc_cond rfl (fun hc1 => ?_) (fun hc1 => ?_)
  ·
    have hk1 : k < l.length := by have h := of_decide_eq_true hc1; omega
    obtain ⟨b, off, rfl⟩ := hr.addr (by omega)
    refine xc_skip <| xq_then <| xc_seq <| xc_block <| xc_seq <| xc_region <| xp rfl (mv rfl) <| xp rfl (asg rfl) <| xl_nil <| xq_then <| ?_
    refine xc_seq <| xc_region <| xp rfl (mv rfl) <| xp rfl (mv rfl) <| xp rfl (mv rfl) <| xp rfl (ix so_49 rfl rfl (by omega) (by omega)) <| xp rfl (ldc kd_52 rfl (vs := _) (fun W hW => ac_at (hr.below (Go.Eng.HP.below hW)) hk1 (by omega)) rfl) <| xmC rfl he rfl rfl Takes.allIt (hp w0 hB k s hk1) fun s' _ => xl_nil <| xq_then <| xc_cond rfl (fun hc2 => ?_) (fun hc2 => ?_)
    ·
      cases hc2
    ·
      refine xc_skip <| xq_in <| xq_then <| xc_region <| xp rfl (bin rfl rfl bk_add) <| xp rfl (mv rfl) <| xl_nil <| xq_roundP (k + 1, s') hk1 (by simp only; omega) (sc (iw (by omega) (by omega) (by omega) rfl) <| sc rfl <| sc rfl <| sc rfl <| sn) (fun W hW => hW)
  ·
    obtain rfl : k = l.length := by have h := of_decide_eq_false hc1; omega
    refine xc_exit <| xq_then_exit <| xq_then_exit <| xq_in_hit <| xq_then <| xc_seq <| xc_region <| xp rfl (asg rfl) <| xl_nil <| xq_then <| xc_ret <| leave1 (.inl rfl) rfl (.tmp rfl) fun W hW => (⟨s, rfl, trivial, hW⟩)

theorem hasm_ok {σ : Type} {It : Nat → σ → List Res} {A : Option Addr} {l : List Ac} {c g : Nat} {cap : List Value} {w : World} (he : Enters Tryz.prog g) (hr : rowOf w 5 Ac.c A l)
  (hp : ∀ (w1 : World), Below w.heap.size w w1 → ∀ k s, k < l.length → RetM Tryz.prog w1 g ((getA l k).V :: cap) (It k s) (fun _ : σ => .bool false) (fun _ => True) (fun s' => It (k + 1) s')) (s0 : σ) :
  RetM Tryz.prog w 112 [.slice A l.length c, .func (.func g) #[] cap.toArray] (It 0 s0) (fun _ : σ => .bool false) (fun _ => True) (fun s => It l.length s) := by
  intro w0 Fr0 W hB hW
  have hr := hr.below hB
  refine begin_at Tryz.func112 rfl rfl rfl hW ?_
  refine xc_seq <| xc_region <| xp rfl (asg rfl) <| xl_nil <| xq_then <| ?_
  refine xc_seq <| xc_region <| xp rfl (mv rfl) <| xp rfl (mv rfl) <| xm rfl Tryz.call189 rfl rfl Takes.allIt (idxm_ok he hr (fun w1 hb => hp w1 (hB.trans (hb.mono hB.size))) s0) fun s' _ => xp rfl (bin rfl rfl bk_geq) <| xp rfl (asg rfl) <| xl_nil <| xq_then <| xc_ret <| leave1 (.inl rfl) rfl (.tmp rfl) fun W hW => (⟨s', rfl, trivial, hW⟩)

theorem less_ok (a b : Ac) (w : World) : RetV Tryz.prog 114 [a.V, b.V] w (.bool (idLt a.id b.id)) := by
  refine begin_ Tryz.func114 rfl rfl rfl ?_
  refine xc_seq <| xc_region <| xe rfl (bx rfl rfl) fun b1 _ => xe rfl (bx rfl rfl) fun b2 _ => xp rfl (asg rfl) <| xl_nil <| xq_then <| ?_
  refine xc_seq <| xc_region <| xp rfl (fa fa_52_0 rfl) <| xp rfl (ld kd_9 rfl (.tail .head) rfl) <| xp rfl (fa fa_52_0 rfl) <| xp rfl (ld kd_9 rfl .head rfl) <| xp rfl (bin rfl rfl bk_slss) <| xp rfl (asg rfl) <| xl_nil <| xq_then <| xc_ret <| leave1 (.inl rfl) rfl (.tmp rfl) fun W hW => (⟨by rw [← idLt_bytes], hW.below⟩)

theorem rises_ok {A : Option Addr} {l : List Ac} {c : Nat} {w : World} (hr : rowOf w 5 Ac.c A l) (ha : Asc Ac.id l) : RetV Tryz.prog 113 [.slice A l.length c, .func (.func 114) #[] #[]] w (.bool true) := by
  have hsm := hr.small
  refine begin_ Tryz.func113 rfl rfl rfl ?_
  refine xc_seq <| xc_region <| xp rfl (asg rfl) <| xl_nil <| xq_then <| ?_
  refine xc_seq <| xc_seq <| xc_region <| xp rfl (asg rfl) <| xl_nil <| xq_then <| xc_block <| xc_loopP (σ := Nat) (fun k => [(5, .int .i64 k), (0, _), (1, _)]) (fun k => 1 ≤ k ∧ k ≤ max 1 l.length) (fun k => HP w []) (fun k => l.length - k) 1 ⟨Nat.le_refl _, by omega⟩ (sc rfl <| sc rfl <| sc rfl <| sn) (fun W hW => hW) fun k ⟨hk0, hk⟩ => ?_
  refine xc_seq <| xc_seq <| xc_region <| xp rfl (mv rfl) <| xp rfl (mv rfl) <| xp rfl (lenv Tryz.underlying49 rfl) <| xp rfl (bin rfl rfl bk_lss) <| xl_nil <| xq_then <| xc_cond rfl (fun hc1 => ?_) (fun hc1 => ?_)
  ·
    have hk1 : k < l.length := by have h := of_decide_eq_true hc1; omega
    obtain ⟨b, off, rfl⟩ := hr.addr (by omega)
    have ew : IntKind.i64.wrap ((k : Int) - 1) = ((k - 1 : Nat) : Int) := w64 (by omega) (by omega)
    have hlt : idLt (getA l (k - 1)).id (getA l k).id = true := by rw [getA_eq hk1, getA_eq (by omega : k - 1 < l.length)]; exact List.pairwise_iff_getElem.1 ha _ _ _ _ (by omega)
    refine xc_skip <| xq_then <| xc_seq <| xc_block <| xc_seq <| xc_draw (canon := [(0, .p), (1, .p), (2, .p), (3, .p), (4, .p), (5, .p), (6, .p), (7, .p), (8, .p), (9, .p), (10, .x), (11, .p)]) (Z := HP _ []) mixed_ rfl (akp <| akp <| akp <| akp <| akp <| akp <| akp <| akp <| akp <| akp <| akx <| akp <| ak0) (zsub (List.nil_sublist _)) ?_
    refine dp rfl rfl rfl rfl (mv rfl) <| dp rfl rfl rfl rfl (mv rfl) <| dp rfl rfl rfl rfl (mv rfl) <| dp rfl rfl rfl rfl (bin rfl rfl bk_sub) <| dp rfl rfl rfl rfl (ix so_49 rfl rfl (by rw [ew]; omega) (by rw [ew]; omega)) <| dp rfl rfl rfl rfl (ldc kd_52 rfl (vs := _) (fun W hW => ac_at (hr.up hW) (by omega) (by rw [ew]; omega)) rfl) <| dp rfl rfl rfl rfl (mv rfl) <| dp rfl rfl rfl rfl (mv rfl) <| dp rfl rfl rfl rfl (ix so_49 rfl rfl (by omega) (by omega)) <| dp rfl rfl rfl rfl (ldc kd_52 rfl (vs := _) (fun W hW => ac_at (hr.up hW) hk1 (by omega)) rfl) <| dv rfl rfl rfl (.inl rfl) rfl Tryz.call114 rfl rfl (fun W hW => (less_ok (getA l (k - 1)) (getA l k) W)) (zsub (List.nil_sublist _)) <| dp rfl rfl rfl rfl (un rfl uk_not) <| dend <| xq_then <| xc_cond rfl (fun hc2 => ?_) (fun hc2 => ?_)
    ·
      rw [hlt] at hc2; cases hc2
    ·
      refine xc_skip <| xq_in <| xq_then <| xc_region <| xp rfl (mv rfl) <| xp rfl (bin rfl rfl bk_add) <| xp rfl (asg rfl) <| xl_nil <| xq_roundP (k + 1) (⟨by omega, by omega⟩) (by omega) (sc (iw (by omega) (by omega) (by omega) rfl) <| sc rfl <| sc rfl <| sn) (fun W hW => hW.sub (.refl _))
  ·
    refine xc_exit <| xq_then_exit <| xq_then_exit <| xq_in_hit <| xq_then <| xc_seq <| xc_region <| xp rfl (asg rfl) <| xl_nil <| xq_then <| xc_ret <| leave1 (.inl rfl) rfl (.tmp rfl) fun W hW => (⟨rfl, hW.below⟩)

abbrev odyR (tm ba bb bc : Nat) (cfg : Cfg) (l : List Ac) (k : Nat) (s : Option Addr × Nat) : List Res :=
  [mapR Tryz.prog 33 3 .i64 tm k (gSlot (l.take k)), cellR ba 182 [.map (some tm)], ownR 35 2 (.slice s.1 k s.2) k (((l.take k).map Ac.bal).flatMap uc), cellR bb 215 [.slice s.1 k s.2], cellR bc 23 cfg.c]
theorem ody0 (tm ba bb bc : Nat) (cfg : Cfg) (l : List Ac) : odyR tm ba bb bc cfg l 0 (none, 0) = [mapR Tryz.prog 33 3 .i64 tm 0 (fun _ => 0), cellR ba 182 [.map (some tm)], ownR 35 2 (.slice none 0 0) 0 [], cellR bb 215 [.slice none 0 0], cellR bc 23 cfg.c] := by
  simp [odyR, gSlot_nil]
theorem RetM.cast {P : Program} {w : World} {g : Nat} {args : List Value} {It It' : List Res} {σ : Type} {val : σ → Value} {φ : σ → Prop} {R : σ → List Res} (e : It = It') (h : RetM P w g args It val φ R) : RetM P w g args It' val φ R := e ▸ h
theorem sum_all {l : List Ac} {A : Option Addr} {c : Nat} {W : World} (h : (ownR 35 2 (.slice A l.length c) l.length (((l.take l.length).map Ac.bal).flatMap uc)).ok W) (hs : (l.map Ac.bal).sum < BB) : RetV Tryz.prog 115 [.slice A l.length c] W (.tuple #[U (l.map Ac.bal).sum, .int .i64 0]) := by
  rw [List.take_length] at h
  have e : l.length = (l.map Ac.bal).length := by simp
  rw [e] at h ⊢
  have h2 := sum_ok (c := c) (ownR_rowOf h) (fun x hx => Nat.lt_of_le_of_lt (sum_le_of_mem hx) hs)
  rw [if_pos hs, if_pos hs] at h2
  exact h2

theorem odd1_ok {w : World} {tm ba bb bc h k : Nat} {cfg : Cfg} {l : List Ac} (hG : Glob w) (hh : h ≤ 10) (hch : cfg.h = h) (hsd : cfg.seed.size ≤ 64) (hA : AccOK h cfg.seed l) (hl : l.length ≤ 100000) (hk : k < l.length) (s : Option Addr × Nat) :
  RetM Tryz.prog w 110 [(getA l k).V, .pointer (some ⟨ba, 0, none⟩), .pointer (some ⟨bb, 0, none⟩), .pointer (some ⟨bc, 0, none⟩)] (odyR tm ba bb bc cfg l k s) (fun _ : Option Addr × Nat => .bool false) (fun _ => True) (fun s' => odyR tm ba bb bc cfg l (k + 1) s') := by
  intro w0 Fr0 W hB hW
  obtain ⟨ch, cw, cs⟩ := cfg
  simp only at hch hsd hA
  subst hch
  have hG := hG.below hB
  have hp2 := pow_small hh
  have hmem : getA l k ∈ l := getD_mem hk ac0
  have hid := hA.ids _ hmem
  have hsl := hA.slot _ hmem
  have hsa := hA.salt _ hmem
  have hgl := gSlot_le (l.take k) (getA l k).slot
  rw [List.length_take] at hgl
  have e2 : mput (gSlot (l.take k)) (kSlot (getA l k).slot) (gSlot (l.take k) (kSlot (getA l k).slot) + 1) = gSlot (l.take (k + 1)) := by rw [take_step hk ac0]; exact gSlot_put _ _
  have hw2 : IntKind.i64.wrap (gSlot (l.take k) (kSlot (getA l k).slot) + 1) = gSlot (l.take k) (kSlot (getA l k).slot) + 1 := wrap64 (by omega) (by omega)
  have hn2 := gSlot_nodup (hA.slots.sublist ((List.take_sublist (k + 1) l).map _)) (getA l k).slot
  have kg1 : (!mayIdF (getA l k).id) = false := by rw [hid.1]; rfl
  have kg2 : (!((getA l k).salt.toList == (firstF cs (oneB 3 ++ (getA l k).id) 16).toList)) = false := by rw [hsa, saltF]; simp
  have kg3 : (((getA l k).slot : Int).fdiv (2 ^ (min (h : Int).toNat IntKind.u64.bits)) != 0) = false := by rw [fdivNat, Nat.div_eq_of_lt (by rw [show min (h : Int).toNat IntKind.u64.bits = h by rw [Int.toNat_natCast]; exact Nat.min_eq_left (by simp only [IntKind.bits]; omega)]; exact hsl)]; rfl
  refine begin_at Tryz.func110 rfl rfl rfl hW ?_
  refine xc_seq <| xc_region <| xe rfl (bx rfl rfl) fun b1 _ => xp rfl (asg rfl) <| xl_nil <| xq_then <| ?_
  refine xc_seq <| xc_region <| xp rfl (ld kd_182 rfl (.tail <| .tail .head) rfl) <| xp rfl (fa fa_52_3 rfl) <| xp rfl (ld kd_33 rfl .head rfl) <| xp rfl (mlk mt_182 rfl rfl (key_slot (by omega)) (.tail .head)) <| xp rfl (bin rfl rfl bk_add) <| xs (mu mt_182 rfl rfl rfl (key_slot (by omega)) (wf_wrap _) (by simp only [maxLen]; omega) (.tail .head)) <| xl_nil <| xq_then <| ?_
  refine xc_seq <| xc_region <| xp rfl (ld kd_215 rfl (.tail <| .tail <| .tail <| .tail .head) rfl) <| xp rfl (fa fa_52_1 rfl) <| xp rfl (ld kd_35 rfl .head rfl) <| xe rfl (bs rfl bs_215_1) fun b2 _ => xe rfl (apS mo_215 rfl rfl (.tail <| .tail <| .tail <| .tail <| .head) rfl (nw .head) (by simp [Value.oneCell']) (by simp only [maxLen]; omega) (by omega)) fun s1 _ => xs (st sz_215 rfl rfl rfl rfl (.tail <| .tail <| .tail <| .tail <| .tail .head) rfl rfl) <| xl_nil <| xq_then <| ?_
  refine xc_seq <| xc_draw (canon := [(0, .p), (1, .p), (2, .p), (3, .p), (4, .p), (5, .p), (6, .p), (7, .p), (8, .p), (9, .p), (10, .p), (11, .p), (12, .p), (13, .p), (14, .p), (15, .p), (16, .p), (17, .p), (18, .p), (19, .p), (20, .p), (21, .p), (22, .p), (23, .p), (24, .p), (25, .p), (26, .p), (27, .p), (28, .p), (29, .x)]) (Z := HP _ [cellR b2 _ _, cellR b1 _ _, _, _, _, _, _]) mixed_ rfl (akp <| akp <| akp <| akp <| akp <| akp <| akp <| akp <| akp <| akp <| akp <| akp <| akp <| akp <| akp <| akp <| akp <| akp <| akp <| akp <| akp <| akp <| akp <| akp <| akp <| akp <| akp <| akp <| akp <| akx <| ak0) (zsub (.cons_cons _ <| .cons_cons _ <| .cons_cons _ <| .cons_cons _ <| .cons_cons _ <| .cons_cons _ <| .cons_cons _ <| List.nil_sublist _)) ?_
  refine dp rfl rfl rfl rfl (fa fa_52_0 rfl) <| dp rfl rfl rfl rfl (ld kd_9 rfl (.tail .head) rfl) <| dq rfl rfl rfl rfl rfl Tryz.call111 rfl rfl (fun W hW => (mayid_ok (hG.below (Go.Eng.HP.below hW)) (by omega))) <| dp rfl rfl rfl rfl (un rfl uk_not) <| dp rfl rfl rfl rfl (mv rfl) <| dpT rfl rfl rfl rfl rfl rfl kg1 (fa fa_52_2 rfl) <| dpT rfl rfl rfl rfl rfl rfl kg1 (ld kd_9 rfl (.tail .head) rfl) <| dpT rfl rfl rfl rfl rfl rfl kg1 (fa fa_23_2 rfl) <| dpT rfl rfl rfl rfl rfl rfl kg1 (ld kd_9 rfl (.tail <| .tail <| .tail <| .tail <| .tail <| .tail .head) rfl) <| dpT rfl rfl rfl rfl rfl rfl kg1 (fa fa_52_0 rfl) <| dpT rfl rfl rfl rfl rfl rfl kg1 (ld kd_9 rfl (.tail .head) rfl) <| dqT rfl rfl rfl rfl rfl rfl kg1 rfl Tryz.call95 rfl rfl (fun W hW => (salt_ok (hG.below (Go.Eng.HP.below hW)) (show cs.size ≤ _ by omega) (by omega))) <| dpT rfl rfl rfl rfl rfl rfl kg1 (bin rfl rfl bk_sneq) <| dp rfl rfl rfl rfl (pickF rfl kg1 rfl) <| dp rfl rfl rfl rfl (mv rfl) <| dpT rfl rfl rfl rfl rfl rfl kg2 (fa fa_52_3 rfl) <| dpT rfl rfl rfl rfl rfl rfl kg2 (ld kd_33 rfl (.tail .head) rfl) <| dpT rfl rfl rfl rfl rfl rfl kg2 (fa fa_23_0 rfl) <| dpT rfl rfl rfl rfl rfl rfl kg2 (ld kd_3 rfl (.tail <| .tail <| .tail <| .tail <| .tail <| .tail .head) rfl) <| dpT rfl rfl rfl rfl rfl rfl kg2 (bin rfl rfl (bk_shr (by simp))) <| dpT rfl rfl rfl rfl rfl rfl kg2 (bin rfl rfl bk_neq) <| dp rfl rfl rfl rfl (pickF rfl kg2 rfl) <| dp rfl rfl rfl rfl (mv rfl) <| dpT rfl rfl rfl rfl rfl rfl kg3 (ld kd_182 rfl (.tail <| .tail <| .tail .head) rfl) <| dpT rfl rfl rfl rfl rfl rfl kg3 (fa fa_52_3 rfl) <| dpT rfl rfl rfl rfl rfl rfl kg3 (ld kd_33 rfl (.tail .head) rfl) <| dpT rfl rfl rfl rfl rfl rfl kg3 (mlk mt_182 rfl rfl (key_slot (by omega)) (.tail <| .tail .head)) <| dpT rfl rfl rfl rfl rfl rfl kg3 (bin rfl rfl bk_gtr) <| dp rfl rfl rfl rfl (pickF rfl kg3 rfl) <| das rfl rfl rfl rfl (asg rfl) (zsub (.cons_cons _ <| .cons_cons _ <| .cons_cons _ <| .cons_cons _ <| .cons_cons _ <| .cons_cons _ <| .cons_cons _ <| List.nil_sublist _)) <| dend <| xq_then <| xc_ret <| leave1 (.inl rfl) rfl (.tmp rfl) fun W hW => (⟨s1, by
    rw [hw2, e2]
    exact congrArg (fun b => Ending.returned (Value.bool b)) (decide_eq_false (by omega) : decide (1 < gSlot (l.take (k + 1)) (kSlot (getA l k).slot)) = false), trivial, by
    have h1 := hW.drop.drop
    rw [hw2, e2] at h1
    have e3 : ((l.take (k + 1)).map Ac.bal).flatMap uc = ((l.take k).map Ac.bal).flatMap uc ++ uc (getA l k).bal := by rw [take_step hk ac0]; simp [getA]
    simp only [odyR, e3]
    exact h1⟩)

theorem smay_ok {A : Option Addr} {w : World} {h c : Nat} {cfg : Cfg} {l : List Ac} (hG : Glob w) (hh : h ≤ 10) (hch : cfg.h = h) (hsd : cfg.seed.size ≤ 64) (hr : rowOf w 5 Ac.c A l) (hA : AccOK h cfg.seed l) (hl : l.length ≤ 100000) :
  RetV Tryz.prog 62 [cfg.V, .slice A l.length c] w (.int .i64 0) := by
  refine begin_ Tryz.func62 rfl rfl rfl ?_
  -- REG 1 res []
  refine xc_seq <| xc_region <| xe rfl (bx rfl rfl) fun b1 _ => xp rfl (asg rfl) <| xl_nil <| xq_then <| ?_
  -- REG 2 res ['b1']
  refine xc_seq <| xc_region <| xe rfl (mkm 33 3 .i64) fun b2 _ => xe rfl (al zo_182) fun b3 _ => xs (st sz_182 rfl rfl rfl rfl .head rfl rfl) <| xl_nil <| xq_then <| ?_
  -- REG 3 res ['b3', 'b2', 'b1']
  refine xc_seq <| xc_region <| xe rfl (al zo_215) fun b4 _ => xl_nil <| xq_then <| ?_
  -- REG 4 res ['b4', 'b3', 'b2', 'b1']
  refine xc_seq <| xc_region <| xp rfl (mf rfl rfl) <| xp rfl (asg rfl) <| xl_nil <| xq_then <| ?_
  refine xc_seq <| xc_seq <| xc_nil 35 2 ?_
  -- REG 5 res ['srow', 'b4', 'b3', 'b2', 'b1']
  refine xc_region <| xp rfl (mv rfl) <| xp rfl (mv rfl) <| xm rfl Tryz.call112 rfl rfl (.tc (.tail <| .tail <| .tail .head) <| .tc (.tail <| .tail .head) <| .tc .head <| .tc .head <| .tc .head <| .tn) (RetM.cast (ody0 _ _ _ _ _ _) <| hasm_ok Tryz.call110 hr (fun w1 hb k s hk => odd1_ok (hG.below hb) hh hch hsd hA hl hk s) (none, 0)) fun s' _ => xp rfl (mv rfl) <| xl_or 4 19 (fun hg1 => xgT rfl rfl rfl hg1 <| xp rfl (mv rfl) <| xgT rfl rfl rfl hg1 <| xv rfl Tryz.call113 rfl rfl (fun W hW => (rises_ok (hr.up hW) hA.asc)) <| xgT rfl rfl rfl hg1 <| xp rfl (un rfl uk_not) <| xp rfl (pickF rfl hg1 rfl) <| xl_nil <| xq_or_yes hg1 (.kc rfl <| .kc rfl <| .kc rfl .kn) (fun _ h => h)) (fun hg1 => xgF rfl rfl rfl hg1 <| xgF rfl rfl rfl hg1 <| xgF rfl rfl rfl hg1 <| xp rfl (pickT rfl hg1 rfl) <| xl_nil <| xq_or_no hg1 (.kc rfl <| .kc rfl <| .kc rfl .kn) (fun _ h => h)) <| xl_nil <| xq_then <| xc_cond rfl (fun hc2 => ?_) (fun hc2 => ?_)
  ·
    cases hc2
  ·
    -- REG 6 res ['b2', 'b3', 'srow', 'b4', 'b1']
    refine xc_skip <| xq_then <| xc_seq <| xc_seq <| xc_region <| xp rfl (ld kd_215 rfl (.tail <| .tail <| .tail .head) rfl) <| xv rfl Tryz.call115 rfl rfl (fun W hW => (sum_all (hW.mem_ok (.tail <| .tail .head)) hA.sum)) <| xp rfl (mv rfl) <| xp rfl (ext rfl rfl) <| xp rfl (ext rfl rfl) <| xe rfl (al zo_35) fun b5 _ => xs (st sz_35 rfl rfl rfl rfl .head rfl rfl) <| xp rfl (asg rfl) <| xl_nil <| xq_then <| ?_
    -- REG 7 res ['b5', 'b2', 'b3', 'srow', 'b4', 'b1']
    refine xc_seq <| xc_region <| xp rfl (mv rfl) <| xp rfl (bin rfl rfl bk_neq) <| xl_nil <| xq_then <| xc_cond rfl (fun hc3 => ?_) (fun hc3 => ?_)
    ·
      cases hc3
    ·
      -- REG 8 res ['b5', 'b2', 'b3', 'srow', 'b4', 'b1']
      refine xc_skip <| xq_then <| xc_seq <| xc_region <| xp rfl (asg rfl) <| xl_nil <| xq_then <| xc_ret <| leave1 (.inl rfl) rfl (.tmp rfl) fun W hW => (⟨rfl, hW.below⟩)

end Go.Eng
end
section
namespace Go.Eng
open Go Go.RowKit Go.Proofs
set_option linter.unusedVariables false
set_option linter.unusedSimpArgs false
set_option maxRecDepth 4000
def setAll (l : List Ac) (x : Nat → Leaf) (p : Nat) : Leaf := match l.find? (fun a => a.slot == p) with | some a => leafOf a | none => x p
theorem setAll_step {l : List Ac} {k : Nat} (hk : k < l.length) (hn : (l.map Ac.slot).Nodup) (x : Nat → Leaf) : Srt.upd (setAll (l.take k) x) (getA l k).slot (leafOf (getA l k)) = setAll (l.take (k + 1)) x := by
  have hn2 := hn.sublist ((List.take_sublist (k + 1) l).map Ac.slot)
  have e0 : l.take (k + 1) = l.take k ++ [getA l k] := take_step hk ac0
  rw [e0] at hn2 ⊢
  generalize l.take k = m at hn2
  generalize getA l k = a at hn2
  funext p
  simp only [Srt.upd, setAll, List.find?_append]
  by_cases hp : p = a.slot
  · subst hp
    have : m.find? (fun b => b.slot == a.slot) = none := by
      rw [List.find?_eq_none]
      intro b hb e
      rw [List.map_append, List.nodup_append] at hn2
      exact hn2.2.2 _ (List.mem_map.2 ⟨b, hb, rfl⟩) _ (List.mem_map.2 ⟨a, by simp, rfl⟩) (by simpa using e)
    simp [this]
  · have h2 : (a.slot == p) = false := by simpa using fun e => hp e.symm
    rw [if_neg hp]
    cases m.find? (fun b => b.slot == p) <;> simp [h2]
theorem leaves_row (seed : ByteArray) (h : Nat) (l : List Ac) : fl Leaf.c (2 ^ h) (setAll l (padF_ seed)) = (leavesF seed h l).flatMap Leaf.c := rfl
theorem leafF1 (x : Leaf) : x.c.all flat1 = true := rfl
noncomputable def padsTo (seed : ByteArray) (k : Nat) (p : Nat) : Leaf := if p < k then padF_ seed p else leaf0
theorem padsTo_step (seed : ByteArray) (k : Nat) : Srt.upd (padsTo seed k) k (padF_ seed k) = padsTo seed (k + 1) := by
  funext p
  simp only [Srt.upd, padsTo]
  by_cases hp : p = k
  · subst hp; rw [if_pos rfl, if_pos (by omega)]
  · rw [if_neg hp]
    by_cases h2 : p < k
    · rw [if_pos h2, if_pos (by omega)]
    · rw [if_neg h2, if_neg (by omega)]
theorem pads_zero (seed : ByteArray) (N : Nat) : fl Leaf.c N (padsTo seed 0) = fl Leaf.c N (fun _ => leaf0) := by
  have : padsTo seed 0 = fun _ => leaf0 := by funext p; simp [padsTo]
  rw [this]
theorem pads_done (seed : ByteArray) (N : Nat) : fl Leaf.c N (padsTo seed N) = fl Leaf.c N (setAll [] (padF_ seed)) := by
  rw [fl, fl, Srt.row, Srt.row, List.map_congr_left (g := setAll [] (padF_ seed))]
  intro p hp
  have := List.mem_range.1 hp
  simp [padsTo, setAll, this]
theorem leafZero (N : Nat) : zeros [.bool false, .string ByteArray.empty, .string ByteArray.empty, .int .u64 0, .int .u64 0] N = fl Leaf.c N (fun _ => leaf0) := by
  simp only [zeros, fl, Srt.row, List.flatMap_def, List.map_map]
  rw [show (Leaf.c ∘ fun _ => leaf0) = fun _ : Nat => [.bool false, .string ByteArray.empty, .string ByteArray.empty, .int .u64 0, .int .u64 0] from by funext _; simp [leaf0, noneText, hiV, loV], List.map_const', List.length_range]
theorem leaves_ok {h : Nat} {seed : ByteArray} {l : List Ac} (hA : AccOK h seed l) : LeavesOK h (leavesF seed h l) where
  len := leavesF_len seed h l
  may := fun x hx => by
    obtain ⟨p, hp, rfl⟩ := List.mem_map.1 hx
    simp only [leafAt]
    split
    · rename_i a ha
      have hm := List.mem_of_find?_eq_some ha
      have hs : a.salt.size = 16 := by rw [hA.salt a hm]; exact saltF_size _ _
      have h1 := (hA.ids a hm).1
      simp [mayLeafF, leafOf, h1]; omega
    · simp only [mayLeafF, padF_, padSaltF_size]
      simp
  size := fun x hx => by
    obtain ⟨p, hp, rfl⟩ := List.mem_map.1 hx
    simp only [leafAt]
    split
    · rename_i a ha
      have hm := List.mem_of_find?_eq_some ha
      have hs : a.salt.size = 16 := by rw [hA.salt a hm]; exact saltF_size _ _
      have := (hA.ids a hm).2
      exact ⟨by simp only [leafOf]; omega, by simp only [leafOf]; omega⟩
    · exact ⟨by simp [padF_, noneText], by simp only [padF_, padSaltF_size]; omega⟩
  sum := by rw [leavesF_sum hA]; exact hA.sum

structure SnapV where (sb : Nat) (A : Option Addr) (c : Nat) (t : TreeV)
noncomputable def snapR (cfg : Cfg) (h : Nat) (l : List Ac) (s : SnapV) : Res :=
  starR [cellR s.sb 121 [.int .i64 cfg.h, .int .i64 cfg.w, .string cfg.seed, .slice s.A l.length s.c, .pointer (some ⟨s.t.tb, 0, none⟩)], ownR 52 5 (.slice s.A l.length s.c) l.length (l.flatMap Ac.c), treeR cfg.w (leavesF cfg.seed h l) s.t]
def SnapPhi (cfg : Cfg) (h : Nat) (l : List Ac) (s : SnapV) : Prop := s.t.dn.map Lvl.l = levelsF cfg.w h (nodesF cfg.w (leavesF cfg.seed h l))
theorem snapR_at {W : World} {cfg : Cfg} {h : Nat} {l : List Ac} {s : SnapV} (hW : (snapR cfg h l s).ok W) (hs : SnapPhi cfg h l s) (hh : h ≤ 10) : SnapAt W s.sb cfg l (rootF cfg.w cfg.seed h l) h :=
  ⟨s.t.tb, s.A, s.c, cellR_at (starR_ok hW (.head _)), ownR_rowOf (starR_ok hW (.tail _ (.head _))), treeR_at (starR_ok hW (.tail _ (.tail _ (.head _)))) hs (leavesF_len _ _ _) hh⟩
structure CfgOK (h : Nat) (cfg : Cfg) : Prop where
  hh : h ≤ 10
  ch : cfg.h = h
  wd : mayWidthF cfg.w = true
  sd : cfg.seed.size ≤ 64
theorem CfgOK.e {h : Nat} {cfg : Cfg} (hc : CfgOK h cfg) : cfgE cfg = 0 := by
  obtain ⟨h1, h2, h3, h4⟩ := hc
  have h5 : 1 ≤ cfg.w ∧ cfg.w ≤ 32 := by simpa [mayWidthF] using h3
  have e1 : (decide (cfg.h < 0) || decide (10 < cfg.h)) = false := by simp; omega
  have e2 : (decide (cfg.w < 1) || decide (32 < cfg.w)) = false := by simp; omega
  have e3 : decide (64 < (cfg.seed.size : Int)) = false := decide_eq_false (by omega)
  simp only [cfgE, e1, e2, e3, cond_false]

theorem sof_ok {A : Option Addr} {w : World} {h c : Nat} {cfg : Cfg} {l : List Ac} (hG : Glob w) (hc : CfgOK h cfg) (hr : rowOf w 5 Ac.c A l) (hA : AccOK h cfg.seed l) (hl : l.length ≤ 100000) :
  Ret Tryz.prog 30 [cfg.V, .slice A l.length c] w (fun s : SnapV => .tuple #[.pointer (some ⟨s.sb, 0, none⟩), .int .i64 0]) (SnapPhi cfg h l) (fun s => [snapR cfg h l s]) := by
  have hce := hc.e
  obtain ⟨hh, hch, hwd, hsd⟩ := hc
  have hmay := fun W (hW : HP w [] W) => smay_ok (c := c) (hG.up hW) hh hch hsd (hr.up hW) hA hl
  have hcv : cfg.V = Value.agg #[.int .i64 h, .int .i64 cfg.w, .string cfg.seed] := by rw [Cfg.V, hch]
  obtain ⟨ch, cw, cs⟩ := cfg
  simp only at hch hwd hsd hA
  subst hch
  have hp2 := pow_small hh
  have em := manyI hh
  refine begin_ Tryz.func30 rfl rfl rfl ?_
  refine xc_seq <| xc_region <| xe rfl (bx rfl rfl) fun b1 _ => xp rfl (asg rfl) <| xp rfl (asg rfl) <| xl_nil <| xq_then <| ?_
  refine xc_seq <| xc_seq <| xc_region <| xp rfl (ld kd_23 rfl .head rfl) <| xv rfl Tryz.call54 rfl rfl (fun W hW => (cfgmay_ok ⟨_, _, _⟩ W)) <| xp rfl (asg rfl) <| xl_nil <| xq_then <| ?_
  refine xc_seq <| xc_region <| xp rfl (mv rfl) <| xp rfl (bin rfl rfl bk_neq) <| xl_nil <| xq_then <| xc_cond rfl (fun hc1 => ?_) (fun hc1 => ?_)
  ·
    rw [hce] at hc1; exact absurd hc1 (by decide)
  ·
    refine xc_skip <| xq_then <| xc_seq <| xc_seq <| xc_region <| xp rfl (ld kd_23 rfl .head rfl) <| xp rfl (mv rfl) <| xv rfl Tryz.call62 rfl rfl (fun W hW => (hmay W (hW.sub (List.nil_sublist _)))) <| xp rfl (asg rfl) <| xl_nil <| xq_then <| ?_
    refine xc_seq <| xc_region <| xp rfl (mv rfl) <| xp rfl (bin rfl rfl bk_neq) <| xl_nil <| xq_then <| xc_cond rfl (fun hc2 => ?_) (fun hc2 => ?_)
    ·
      exact absurd hc2 (by decide)
    ·
      refine xc_skip <| xq_then <| xc_seq <| xc_region <| xp rfl (fa fa_23_0 rfl) <| xp rfl (ld kd_3 rfl .head rfl) <| xp rfl (bin rfl rfl (bk_shl (by first | omega | (rw [em]; omega) | (show 0 ≤ (h : Int); omega)))) <| xe rfl (mk mk_132 rfl rfl (by first | omega | (rw [em]; omega) | (show 0 ≤ (h : Int); omega)) (by first | omega | (rw [em]; omega) | (show 0 ≤ (h : Int); omega)) (by first | omega | (rw [em]; omega) | (show 0 ≤ (h : Int); omega)) (by first | omega | (rw [em]; omega) | (show 0 ≤ (h : Int); omega))) fun b2 _ => xp rfl (asg rfl) <| xl_nil <| xq_then <| ?_
      refine xc_seq <| xc_seq <| xc_region <| xp rfl (mv rfl) <| xp rfl (lenv Tryz.underlying132 rfl) <| xp rfl (mv rfl) <| xl_nil <| xq_then <| xc_block <| xc_loopP (σ := Nat) (fun k => [(31, .int .i64 k), (8, .slice (some ⟨b2, 0, none⟩) (2 ^ h) (2 ^ h)), (30, .int .i64 ((2 ^ h : Nat) : Int)), (1, _), (2, _)]) (fun k => k ≤ 2 ^ h) (fun k => HP w [cellR b2 58 (fl Leaf.c (2 ^ h) (padsTo cs k)), cellR b1 23 [.int .i64 h, .int .i64 cw, .string cs]]) (fun k => 2 ^ h - k) 0 (Nat.zero_le _) (sc rfl <| sc ((by rw [em, Int.toNat_natCast]; rfl)) <| sc ((by rw [em, Int.toNat_natCast]; rfl)) <| sc rfl <| sc rfl <| sn) (fun W hW => by rw [em, Int.toNat_natCast, leafZero] at hW; rw [pads_zero]; exact hW) fun k hk => ?_
      refine xc_seq <| xc_region <| xp rfl (bin rfl rfl bk_lss) <| xl_nil <| xq_then <| xc_seq <| xc_cond rfl (fun hc3 => ?_) (fun hc3 => ?_)
      ·
        have hk1 : k < 2 ^ h := by have h := of_decide_eq_true hc3; omega
        refine xc_skip <| xq_then <| xc_seq <| xc_block <| xc_seq <| xc_region <| xp rfl (mv rfl) <| xp rfl (asg rfl) <| xl_nil <| xq_then <| ?_
        refine xc_region <| xp rfl (mv rfl) <| xp rfl (mv rfl) <| xp rfl (fa fa_23_2 rfl) <| xp rfl (ld kd_9 rfl (.tail .head) rfl) <| xp rfl (mv rfl) <| xp rfl (cv rfl (cvi Tryz.underlying3 Tryz.underlying33)) <| xv rfl Tryz.call63 rfl rfl (fun W hW => (by rw [show IntKind.u64.wrap (k : Int) = ((k : Nat) : Int) from wu64 rfl (by omega)]; exact pad_ok (k := cs) (n := k) (hG.up hW) (by omega) (by simp only [B64]; omega))) <| xp rfl (ix so_132 rfl rfl (by first | omega | (rw [em]; omega) | (show 0 ≤ (h : Int); omega)) (by first | omega | (rw [em]; omega) | (show 0 ≤ (h : Int); omega))) <| xs (stR (i := k) (u := (padF_ cs k)) leafK sz_58 rfl rfl (by simp) hk1 .head (leafF1 _)) <| xl_nil <| xq_in <| xq_then <| ?_
        refine xc_region <| xp rfl (bin rfl rfl bk_add) <| xp rfl (mv rfl) <| xl_nil <| xq_roundP (k + 1) hk1 (by omega) (sc (iw (by omega) (by omega) (by omega) rfl) <| sc rfl <| sc rfl <| sc rfl <| sc rfl <| sn) (fun W hW => by rw [← padsTo_step]; exact hW)
      ·
        obtain rfl : k = 2 ^ h := by have h := of_decide_eq_false hc3; omega
        refine xc_exit <| xq_then_exit <| xq_then_exit <| xq_in_hit <| xq_then <| xc_seq <| xc_seq <| xc_region <| xp rfl (mv rfl) <| xp rfl (lenv Tryz.underlying49 rfl) <| xp rfl (mv rfl) <| xl_nil <| xq_then <| xc_block <| xc_loopP (σ := Nat) (fun k => [(45, .int .i64 k), (1, _), (2, _), (8, _), (43, _), (44, _)]) (fun k => k ≤ l.length) (fun k => HP w [cellR b2 58 (fl Leaf.c (2 ^ h) (setAll (l.take k) (padF_ cs))), cellR b1 23 [.int .i64 h, .int .i64 cw, .string cs]]) (fun k => l.length - k) 0 (Nat.zero_le _) (sc rfl <| sc rfl <| sc rfl <| sc rfl <| sc rfl <| sc rfl <| sn) (fun W hW => by rw [List.take_zero, ← pads_done]; exact hW) fun k hk => ?_
        refine xc_seq <| xc_region <| xp rfl (bin rfl rfl bk_lss) <| xl_nil <| xq_then <| xc_seq <| xc_cond rfl (fun hc4 => ?_) (fun hc4 => ?_)
        ·
          have hk2 : k < l.length := by have h := of_decide_eq_true hc4; omega
          obtain ⟨b, off, rfl⟩ := hr.addr (by omega)
          have hmem : getA l k ∈ l := getD_mem hk2 ac0
          have hsl := hA.slot _ hmem
          refine xc_skip <| xq_then <| xc_seq <| xc_block <| xc_seq <| xc_region <| xp rfl (ix so_49 rfl rfl (by first | omega | (rw [em]; omega) | (show 0 ≤ (h : Int); omega)) (by first | omega | (rw [em]; omega) | (show 0 ≤ (h : Int); omega))) <| xp rfl (ldc kd_52 rfl (vs := _) (fun W hW => ac_at (hr.up hW) hk2 (by omega)) rfl) <| xe rfl (al zo_52) fun b3 _ => xs (st sz_52 rfl rfl rfl rfl .head rfl rfl) <| xl_nil <| xq_then <| ?_
          refine xc_region <| xp rfl (mv rfl) <| xp rfl (fa fa_52_3 rfl) <| xp rfl (ld kd_33 rfl .head rfl) <| xp rfl (fa fa_52_0 rfl) <| xp rfl (ld kd_9 rfl .head rfl) <| xp rfl (fa fa_52_2 rfl) <| xp rfl (ld kd_9 rfl .head rfl) <| xp rfl (fa fa_52_1 rfl) <| xp rfl (ld kd_35 rfl .head rfl) <| xp rfl (bd rfl bd_58_1_2_3) <| xp rfl (ix so_132 rfl rfl (by first | omega | (rw [em]; omega) | (show 0 ≤ (h : Int); omega)) (by first | omega | (rw [em]; omega) | (show 0 ≤ (h : Int); omega))) <| xs (stR (i := (getA l k).slot) (u := (leafOf (getA l k))) leafK sz_58 rfl rfl (by simp) hsl (.tail .head) (leafF1 _)) <| xl_nil <| xq_in <| xq_then <| ?_
          refine xc_region <| xp rfl (bin rfl rfl bk_add) <| xp rfl (mv rfl) <| xl_nil <| xq_roundP (k + 1) hk2 (by omega) (sc (iw (by omega) (by omega) (by omega) rfl) <| sc rfl <| sc rfl <| sc rfl <| sc rfl <| sc rfl <| sn) (fun W hW => by rw [← setAll_step hk2 hA.slots]; exact hW.drop)
        ·
          obtain rfl : k = l.length := by have h := of_decide_eq_false hc4; omega
          rw [List.take_length]
          refine xc_exit <| xq_then_exit <| xq_then_exit <| xq_in_hit <| xq_then <| xc_seq <| xc_region <| xp rfl (fa fa_23_1 rfl) <| xp rfl (ld kd_3 rfl (.tail .head) rfl) <| xp rfl (mv rfl) <| xr rfl Tryz.call64 rfl rfl (fun W hW => (by have hx := tnew_ok (c := 2 ^ h) (hG.up (hW.sub (List.nil_sublist _))) hwd hh (row_of_cell (l := leavesF cs h l) leafK hW .head (by rw [leavesF_len]; omega)) (leaves_ok hA); rw [leavesF_len] at hx; exact hx)) fun t ht => xp rfl (mv rfl) <| xp rfl (ext rfl rfl) <| xp rfl (ext rfl rfl) <| xp rfl (asg rfl) <| xp rfl (asg rfl) <| xl_nil <| xq_then <| ?_
          refine xc_seq <| xc_seq <| xc_region <| xp rfl (mv rfl) <| xp rfl (bin rfl rfl bk_neq) <| xl_nil <| xq_then <| xc_cond rfl (fun hc5 => ?_) (fun hc5 => ?_)
          ·
            exact absurd hc5 (by decide)
          ·
            refine xc_skip <| xq_then <| xc_seq <| xc_draw (canon := [(0, .p), (1, .p), (3, .p), (2, .x), (4, .p), (5, .x), (6, .x), (7, .x)]) (Z := HP _ [_, cellR b2 _ _, cellR b1 _ _]) mixed_ rfl (akp <| akp <| akp <| akx <| akp <| akx <| akx <| akx <| ak0) (zsub (.cons_cons _ <| .cons_cons _ <| .cons_cons _ <| List.nil_sublist _)) ?_
            refine dp rfl rfl rfl rfl (ld kd_23 rfl (.tail <| .tail .head) rfl) <| dp rfl rfl rfl rfl (mv rfl) <| dp rfl rfl rfl rfl (mv rfl) <| dr rfl rfl rfl (.inl rfl) rfl Tryz.call53 rfl rfl (fun W hW => (aclone_ok (hr.up hW) hl)) (zsub (.cons_cons _ <| .cons_cons _ <| .cons_cons _ <| List.nil_sublist _)) fun la _ => dp rfl rfl rfl rfl (bd rfl bd_121_0_1_2) <| dbx rfl rfl rfl rfl rfl rfl rfl (zsub (.cons _ <| .cons_cons _ <| .cons_cons _ <| .cons_cons _ <| List.nil_sublist _)) fun b4 => das rfl rfl rfl rfl (asg rfl) (zsub (.cons _ <| .cons _ <| .cons_cons _ <| .cons_cons _ <| .cons_cons _ <| List.nil_sublist _)) <| das rfl rfl rfl rfl (asg rfl) (zsub (.cons _ <| .cons _ <| .cons_cons _ <| .cons_cons _ <| .cons_cons _ <| List.nil_sublist _)) <| dend <| xq_then <| xc_ret <| leave2 (.inl rfl) rfl (.tmp rfl) (.tmp rfl) fun W hW => (⟨⟨b4, la.1, la.2, t⟩, rfl, ht, HP.star (Xs := [_, _, _]) (Ys := []) (hW.sub (.cons_cons _ <| .cons_cons _ <| .cons_cons _ <| List.nil_sublist _))⟩)

end Go.Eng
end
section
namespace Go.Eng
open Go Go.RowKit Go.Proofs
set_option linter.unusedVariables false
set_option linter.unusedSimpArgs false
set_option maxRecDepth 4000
theorem impGo_cases {most : Nat} : ∀ (ls : List Ln) (rows : List Rw) (tot : Nat), BookOK most rows tot → (∀ l ∈ ls, l.text.size ≤ 4096) →
    (∃ ln e, (impGo most ls rows tot).1 = some (ln, e) ∧ e ≠ 0) ∨ ((impGo most ls rows tot).1 = none ∧ ∃ tot', BookOK most (impGo most ls rows tot).2 tot')
  | [], rows, tot, hb, _ => .inr ⟨rfl, tot, hb⟩
  | l :: ls, rows, tot, hb, hs => by
    rw [impGo]
    cases h1 : (lnE l == 0 && lnIs l) with
    | true =>
      simp only [cond_true]
      by_cases hp : putE most rows tot (lnF l) = 0
      · rw [if_pos hp]
        obtain ⟨k1, k2, k3⟩ := lnF_ok h1 (hs l (by simp))
        exact impGo_cases ls _ _ (hb.put ⟨k1, k2⟩ hp) (fun x hx => hs x (by simp [hx]))
      · rw [if_neg hp]; exact .inl ⟨_, _, rfl, hp⟩
    | false =>
      simp only [cond_false]
      cases h2 : lnE l != 0 with
      | true => simp only [cond_true]; exact .inl ⟨_, _, rfl, by simpa using h2⟩
      | false => simp only [cond_false]; exact impGo_cases ls rows tot hb (fun x hx => hs x (by simp [hx]))
/-- What a text says: its rows in order, where there is no error. -/
noncomputable def rowsOf (text : ByteArray) (h : Nat) : List Rw := byKey Rw.id (impF text h).2
def ImpOK (text : ByteArray) (h : Nat) : Prop := (impF text h).1 = none
theorem imp_cases {text : ByteArray} {h : Nat} (ht : text.size ≤ 4096) : (∃ ln e, (impF text h).1 = some (ln, e) ∧ e ≠ 0) ∨ (ImpOK text h ∧ RowsOK h (rowsOf text h)) := by
  rcases impGo_cases (most := 2 ^ h) (linesF text) [] 0 (BookOK.nil _) (fun l hl => by
    have := (linesN_facts text.size 1 text).2 l hl; omega) with h1 | ⟨h1, tot, hb⟩
  · exact .inl h1
  · refine .inr ⟨h1, byKey_asc hb.nodup, fun a ha => hb.ids a ((byKey_perm _ _).mem_iff.1 ha), by rw [rowsOf, (byKey_perm _ _).length_eq]; exact hb.len, ?_⟩
    rw [rowsOf, ((byKey_perm Rw.id _).map Rw.amt).sum_nat]
    exact Nat.lt_of_le_of_lt (Nat.le_of_eq hb.sum) hb.lt
theorem import_bad {w : World} (hG : Glob w) {text : ByteArray} {h ln : Nat} {e : Int} (hh : h ≤ 10) (ht : text.size ≤ 4096) (he : (impF text h).1 = some (ln, e)) : RetV Tryz.prog 44 [.string text, .int .i64 h] w (.tuple #[.slice none 0 0, .int .i64 ln, .int .i64 e]) :=
  (import_ok hG hh ht).mono fun e' W ⟨s, h1, _, h3⟩ => by
    simp only [impV, impR, he] at h1 h3
    exact ⟨h1, h3.below⟩
theorem import_good {w : World} (hG : Glob w) {text : ByteArray} {h : Nat} (hh : h ≤ 10) (ht : text.size ≤ 4096) (he : ImpOK text h) : Ret Tryz.prog 44 [.string text, .int .i64 h] w (fun b : Nat => .tuple #[.slice (some ⟨b, 0, none⟩) (rowsOf text h).length (rowsOf text h).length, .int .i64 0, .int .i64 0]) (fun _ => True) (fun b => [cellR b 170 ((rowsOf text h).flatMap Rw.c)]) :=
  (import_ok hG hh ht).mono fun e' W ⟨s, h1, h2, h3⟩ => by
    simp only [ImpOK] at he
    simp only [impV, impR, he] at h1 h3
    exact ⟨s, by rw [h1, show (rowsOf text h).length = (impF text h).2.length from (byKey_perm _ _).length_eq], h2, h3⟩
theorem AccOK.len {h : Nat} {seed : ByteArray} {l : List Ac} (hA : AccOK h seed l) : l.length ≤ 2 ^ h := by
  have h1 : ∀ x ∈ l.map Ac.slot, x ∈ List.range (2 ^ h) := fun x hx => by
    obtain ⟨a, ha, rfl⟩ := List.mem_map.1 hx
    exact List.mem_range.2 (hA.slot a ha)
  have h2 := nodup_sub_len hA.slots h1
  simpa using h2

theorem new_cfg {w : World} {cfg : Cfg} {text : ByteArray} (hE : cfgE cfg ≠ 0) : RetV Tryz.prog 23 [cfg.V, .string text] w (.tuple #[.pointer none, .int .i64 0, .int .i64 (cfgE cfg)]) := by
  refine begin_ Tryz.func23 rfl rfl rfl ?_
  refine xc_seq <| xc_region <| xe rfl (bx rfl rfl) fun b1 _ => xp rfl (asg rfl) <| xp rfl (asg rfl) <| xp rfl (asg rfl) <| xl_nil <| xq_then <| ?_
  refine xc_seq <| xc_seq <| xc_region <| xp rfl (ld kd_23 rfl .head rfl) <| xv rfl Tryz.call54 rfl rfl (fun W hW => (cfgmay_ok ⟨_, _, _⟩ W)) <| xp rfl (asg rfl) <| xl_nil <| xq_then <| ?_
  refine xc_seq <| xc_region <| xp rfl (mv rfl) <| xp rfl (bin rfl rfl bk_neq) <| xl_nil <| xq_then <| xc_cond rfl (fun hc1 => ?_) (fun hc1 => ?_)
  ·
    refine xc_seq <| xc_region <| xp rfl (mv rfl) <| xp rfl (asg rfl) <| xp rfl (asg rfl) <| xp rfl (asg rfl) <| xl_nil <| xq_then <| xc_ret <| xq_then_ret <| leave3 (.inl rfl) rfl (.tmp rfl) (.tmp rfl) (.tmp rfl) fun W hW => (⟨rfl, hW.below⟩)
  ·
    exfalso; exact hE (by simpa using hc1)

theorem new_imp {w : World} {cfg : Cfg} {h ln : Nat} {e : Int} {text : ByteArray} (hG : Glob w) (hc : CfgOK h cfg) (ht : text.size ≤ 4096) (he : (impF text h).1 = some (ln, e)) (he0 : e ≠ 0) : RetV Tryz.prog 23 [cfg.V, .string text] w (.tuple #[.pointer none, .int .i64 ln, .int .i64 e]) := by
  have hce := hc.e
  obtain ⟨hh, hch, hwd, hsd⟩ := hc
  obtain ⟨ch, cw, cs⟩ := cfg
  simp only at hch hwd hsd
  subst hch
  refine begin_ Tryz.func23 rfl rfl rfl ?_
  refine xc_seq <| xc_region <| xe rfl (bx rfl rfl) fun b1 _ => xp rfl (asg rfl) <| xp rfl (asg rfl) <| xp rfl (asg rfl) <| xl_nil <| xq_then <| ?_
  refine xc_seq <| xc_seq <| xc_region <| xp rfl (ld kd_23 rfl .head rfl) <| xv rfl Tryz.call54 rfl rfl (fun W hW => (cfgmay_ok ⟨_, _, _⟩ W)) <| xp rfl (asg rfl) <| xl_nil <| xq_then <| ?_
  refine xc_seq <| xc_region <| xp rfl (mv rfl) <| xp rfl (bin rfl rfl bk_neq) <| xl_nil <| xq_then <| xc_cond rfl (fun hc1 => ?_) (fun hc1 => ?_)
  ·
    rw [hce] at hc1; exact absurd hc1 (by decide)
  ·
    refine xc_skip <| xq_then <| xc_seq <| xc_region <| xp rfl (mv rfl) <| xp rfl (fa fa_23_0 rfl) <| xp rfl (ld kd_3 rfl .head rfl) <| xv rfl Tryz.call44 rfl rfl (fun W hW => (import_bad (hG.up hW) hh ht he)) <| xp rfl (mv rfl) <| xp rfl (ext rfl rfl) <| xp rfl (ext rfl rfl) <| xp rfl (ext rfl rfl) <| xp rfl (asg rfl) <| xp rfl (asg rfl) <| xp rfl (asg rfl) <| xl_nil <| xq_then <| ?_
    refine xc_seq <| xc_seq <| xc_region <| xp rfl (mv rfl) <| xp rfl (bin rfl rfl bk_neq) <| xl_nil <| xq_then <| xc_cond rfl (fun hc2 => ?_) (fun hc2 => ?_)
    ·
      refine xc_seq <| xc_region <| xp rfl (mv rfl) <| xp rfl (mv rfl) <| xp rfl (asg rfl) <| xp rfl (asg rfl) <| xp rfl (asg rfl) <| xl_nil <| xq_then <| xc_ret <| xq_then_ret <| leave3 (.inl rfl) rfl (.tmp rfl) (.tmp rfl) (.tmp rfl) fun W hW => (⟨rfl, hW.below⟩)
    ·
      exfalso; exact he0 (by simpa using hc2)

theorem snew_ok {w : World} {cfg : Cfg} {h : Nat} {text : ByteArray} (hG : Glob w) (hc : CfgOK h cfg) (ht : text.size ≤ 4096) (he : ImpOK text h) (hr : RowsOK h (rowsOf text h)) :
  Ret Tryz.prog 23 [cfg.V, .string text] w (fun s : SnapV => .tuple #[.pointer (some ⟨s.sb, 0, none⟩), .int .i64 0, .int .i64 0]) (SnapPhi cfg h (placeF cfg.seed h [] (rowsOf text h))) (fun s => [snapR cfg h (placeF cfg.seed h [] (rowsOf text h)) s]) := by
  have hce := hc.e
  have hpl := placeF_ok (acc_nil h cfg.seed) hr
  have hll := hpl.1.len
  have hcc := hc
  obtain ⟨hh, hch, hwd, hsd⟩ := hc
  obtain ⟨ch, cw, cs⟩ := cfg
  simp only at hch hwd hsd hpl hll
  subst hch
  have hp2 := pow_small hh
  have hrl := hr.len
  refine begin_ Tryz.func23 rfl rfl rfl ?_
  refine xc_seq <| xc_region <| xe rfl (bx rfl rfl) fun b1 _ => xp rfl (asg rfl) <| xp rfl (asg rfl) <| xp rfl (asg rfl) <| xl_nil <| xq_then <| ?_
  refine xc_seq <| xc_seq <| xc_region <| xp rfl (ld kd_23 rfl .head rfl) <| xv rfl Tryz.call54 rfl rfl (fun W hW => (cfgmay_ok ⟨_, _, _⟩ W)) <| xp rfl (asg rfl) <| xl_nil <| xq_then <| ?_
  refine xc_seq <| xc_region <| xp rfl (mv rfl) <| xp rfl (bin rfl rfl bk_neq) <| xl_nil <| xq_then <| xc_cond rfl (fun hc1 => ?_) (fun hc1 => ?_)
  ·
    rw [hce] at hc1; exact absurd hc1 (by decide)
  ·
    refine xc_skip <| xq_then <| xc_seq <| xc_region <| xp rfl (mv rfl) <| xp rfl (fa fa_23_0 rfl) <| xp rfl (ld kd_3 rfl .head rfl) <| xr rfl Tryz.call44 rfl rfl (fun W hW => (import_good (hG.up hW) hh ht he)) fun rb _ => xp rfl (mv rfl) <| xp rfl (ext rfl rfl) <| xp rfl (ext rfl rfl) <| xp rfl (ext rfl rfl) <| xp rfl (asg rfl) <| xp rfl (asg rfl) <| xp rfl (asg rfl) <| xl_nil <| xq_then <| ?_
    refine xc_seq <| xc_seq <| xc_region <| xp rfl (mv rfl) <| xp rfl (bin rfl rfl bk_neq) <| xl_nil <| xq_then <| xc_cond rfl (fun hc2 => ?_) (fun hc2 => ?_)
    ·
      exact absurd hc2 (by decide)
    ·
      refine xc_skip <| xq_then <| xc_seq <| xc_region <| xp rfl (fa fa_23_2 rfl) <| xp rfl (ld kd_9 rfl (.tail .head) rfl) <| xp rfl (fa fa_23_0 rfl) <| xp rfl (ld kd_3 rfl (.tail .head) rfl) <| xp rfl (mv rfl) <| xr rfl Tryz.call45 rfl rfl (fun W hW => (place_ok (was := []) (hG.up hW) hh hsd ⟨rfl, by simp, fun h0 => absurd h0 (by simp)⟩ (row_of_cell rwK hW .head (by omega)) (acc_nil h cs) hr (Nat.zero_le _))) fun pl _ => xp rfl (mv rfl) <| xp rfl (ext rfl rfl) <| xp rfl (ext rfl rfl) <| xp rfl (asg rfl) <| xp rfl (asg rfl) <| xl_nil <| xq_then <| ?_
      refine xc_seq <| xc_seq <| xc_region <| xp rfl (mv rfl) <| xp rfl (bin rfl rfl bk_neq) <| xl_nil <| xq_then <| xc_cond rfl (fun hc3 => ?_) (fun hc3 => ?_)
      ·
        exact absurd hc3 (by decide)
      ·
        refine xc_skip <| xq_then <| xc_seq <| xc_region <| xp rfl (ld kd_23 rfl (.tail <| .tail .head) rfl) <| xp rfl (mv rfl) <| xr rfl Tryz.call30 rfl rfl (fun W hW => (sof_ok (cfg := ⟨_, _, _⟩) (hG.up hW) hcc (ownR_rowOf (hW.mem_ok .head)) hpl.1 (by simp only; omega))) fun s hs => xp rfl (mv rfl) <| xp rfl (ext rfl rfl) <| xp rfl (ext rfl rfl) <| xp rfl (asg rfl) <| xp rfl (asg rfl) <| xl_nil <| xq_then <| ?_
        refine xc_seq <| xc_region <| xp rfl (mv rfl) <| xp rfl (mv rfl) <| xp rfl (asg rfl) <| xp rfl (asg rfl) <| xp rfl (asg rfl) <| xl_nil <| xq_then <| xc_ret <| leave3 (.inl rfl) rfl (.tmp rfl) (.tmp rfl) (.tmp rfl) fun W hW => (⟨s, rfl, hs, hW.sub (.cons_cons _ <| List.nil_sublist _)⟩)

theorem accs_ok {w : World} {sb m : Nat} {cfg : Cfg} {l : List Ac} {root : Nd} (h : SnapAt w sb cfg l root m) (hl : l.length ≤ 100000) : Ret Tryz.prog 20 [.pointer (some ⟨sb, 0, none⟩)] w (fun s : Option Addr × Nat => .slice s.1 l.length s.2) (fun _ => True) (fun s => [ownR 52 5 (.slice s.1 l.length s.2) l.length (l.flatMap Ac.c)]) := by
  have h0 := h
  obtain ⟨tb, A, c, h1, h2, h3⟩ := h
  refine begin_ Tryz.func20 rfl rfl rfl ?_
  refine xc_seq <| xc_region <| xp rfl (asg rfl) <| xl_nil <| xq_then <| ?_
  refine xc_seq <| xc_seq <| xc_region <| xp rfl (mv rfl) <| xv rfl Tryz.call52 rfl rfl (fun W hW => (snone_ok (h0.below hW.below))) <| xl_nil <| xq_then <| xc_cond rfl (fun hc1 => ?_) (fun hc1 => ?_)
  ·
    cases hc1
  ·
    refine xc_skip <| xq_then <| xc_seq <| xc_region <| xp rfl (mv rfl) <| xp rfl (nc rfl) <| xp rfl (fa fa_121_1 rfl) <| xp rfl (ldc kd_49 rfl (vs := _) (fun W hW => hold_cells (o := 3) h1 hW.below) rfl) <| xr rfl Tryz.call53 rfl rfl (fun W hW => (aclone_ok (h2.up hW) hl)) fun la _ => xp rfl (asg rfl) <| xl_nil <| xq_then <| xc_ret <| leave1 (.inl rfl) rfl (.tmp rfl) fun W hW => (⟨la, rfl, trivial, hW⟩)

theorem next_imp {w : World} {sb h ln : Nat} {cfg : Cfg} {l : List Ac} {root : Nd} {e : Int} {text : ByteArray} (hG : Glob w) (hS : SnapAt w sb cfg l root h) (hc : CfgOK h cfg) (ht : text.size ≤ 4096) (he : (impF text h).1 = some (ln, e)) (he0 : e ≠ 0) :
  RetV Tryz.prog 13 [.pointer (some ⟨sb, 0, none⟩), .string text] w (.tuple #[.pointer none, .int .i64 ln, .int .i64 e]) := by
  have hcc := hc
  obtain ⟨hh, hch, hwd, hsd⟩ := hc
  obtain ⟨ch, cw, cs⟩ := cfg
  simp only at hch hwd hsd
  subst hch
  have hz2 : 1 ≤ cw ∧ cw ≤ 32 := by simpa [mayWidthF] using hwd
  refine begin_ Tryz.func13 rfl rfl rfl ?_
  refine xc_seq <| xc_region <| xp rfl (asg rfl) <| xp rfl (asg rfl) <| xp rfl (asg rfl) <| xl_nil <| xq_then <| ?_
  refine xc_seq <| xc_region <| xp rfl (mv rfl) <| xv rfl Tryz.call43 rfl rfl (fun W hW => (sconfig_ok (hS.below hW.below))) <| xe rfl (al zo_23) fun b1 _ => xs (st sz_23 rfl rfl rfl rfl .head rfl rfl) <| xl_nil <| xq_then <| ?_
  refine xc_seq <| xc_seq <| xc_region <| xp rfl (fa fa_23_1 rfl) <| xp rfl (ld kd_3 rfl .head rfl) <| xp rfl (bin rfl rfl bk_eql) <| xl_nil <| xq_then <| xc_cond rfl (fun hc1 => ?_) (fun hc1 => ?_)
  ·
    exfalso; have h1 : cw = 0 := eq_of_beq hc1; omega
  ·
    refine xc_skip <| xq_then <| xc_seq <| xc_region <| xp rfl (mv rfl) <| xp rfl (fa fa_23_0 rfl) <| xp rfl (ld kd_3 rfl .head rfl) <| xv rfl Tryz.call44 rfl rfl (fun W hW => (import_bad (hG.up hW) hh ht he)) <| xp rfl (mv rfl) <| xp rfl (ext rfl rfl) <| xp rfl (ext rfl rfl) <| xp rfl (ext rfl rfl) <| xp rfl (asg rfl) <| xp rfl (asg rfl) <| xp rfl (asg rfl) <| xl_nil <| xq_then <| ?_
    refine xc_seq <| xc_seq <| xc_region <| xp rfl (mv rfl) <| xp rfl (bin rfl rfl bk_neq) <| xl_nil <| xq_then <| xc_cond rfl (fun hc2 => ?_) (fun hc2 => ?_)
    ·
      refine xc_seq <| xc_region <| xp rfl (mv rfl) <| xp rfl (mv rfl) <| xp rfl (asg rfl) <| xp rfl (asg rfl) <| xp rfl (asg rfl) <| xl_nil <| xq_then <| xc_ret <| xq_then_ret <| leave3 (.inl rfl) rfl (.tmp rfl) (.tmp rfl) (.tmp rfl) fun W hW => (⟨rfl, hW.below⟩)
    ·
      exfalso; exact he0 (by simpa using hc2)

theorem snext_ok {w : World} {sb h : Nat} {cfg : Cfg} {l : List Ac} {root : Nd} {text : ByteArray} (hG : Glob w) (hS : SnapAt w sb cfg l root h) (hA : AccOK h cfg.seed l) (hc : CfgOK h cfg) (ht : text.size ≤ 4096) (he : ImpOK text h) (hr : RowsOK h (rowsOf text h)) :
  Ret Tryz.prog 13 [.pointer (some ⟨sb, 0, none⟩), .string text] w (fun s : SnapV => .tuple #[.pointer (some ⟨s.sb, 0, none⟩), .int .i64 0, .int .i64 0]) (SnapPhi cfg h (placeF cfg.seed h l (rowsOf text h))) (fun s => [snapR cfg h (placeF cfg.seed h l (rowsOf text h)) s]) := by
  have hpl := placeF_ok hA hr
  have hll := hpl.1.len
  have hal := hA.len
  have hcc := hc
  obtain ⟨hh, hch, hwd, hsd⟩ := hc
  obtain ⟨ch, cw, cs⟩ := cfg
  simp only at hch hwd hsd hpl hll hA
  subst hch
  have hz2 : 1 ≤ cw ∧ cw ≤ 32 := by simpa [mayWidthF] using hwd
  have hp2 := pow_small hh
  have hrl := hr.len
  refine begin_ Tryz.func13 rfl rfl rfl ?_
  refine xc_seq <| xc_region <| xp rfl (asg rfl) <| xp rfl (asg rfl) <| xp rfl (asg rfl) <| xl_nil <| xq_then <| ?_
  refine xc_seq <| xc_region <| xp rfl (mv rfl) <| xv rfl Tryz.call43 rfl rfl (fun W hW => (sconfig_ok (hS.below hW.below))) <| xe rfl (al zo_23) fun b1 _ => xs (st sz_23 rfl rfl rfl rfl .head rfl rfl) <| xl_nil <| xq_then <| ?_
  refine xc_seq <| xc_seq <| xc_region <| xp rfl (fa fa_23_1 rfl) <| xp rfl (ld kd_3 rfl .head rfl) <| xp rfl (bin rfl rfl bk_eql) <| xl_nil <| xq_then <| xc_cond rfl (fun hc1 => ?_) (fun hc1 => ?_)
  ·
    exfalso; have h1 : cw = 0 := eq_of_beq hc1; omega
  ·
    refine xc_skip <| xq_then <| xc_seq <| xc_region <| xp rfl (mv rfl) <| xp rfl (fa fa_23_0 rfl) <| xp rfl (ld kd_3 rfl .head rfl) <| xr rfl Tryz.call44 rfl rfl (fun W hW => (import_good (hG.up hW) hh ht he)) fun rb _ => xp rfl (mv rfl) <| xp rfl (ext rfl rfl) <| xp rfl (ext rfl rfl) <| xp rfl (ext rfl rfl) <| xp rfl (asg rfl) <| xp rfl (asg rfl) <| xp rfl (asg rfl) <| xl_nil <| xq_then <| ?_
    refine xc_seq <| xc_seq <| xc_region <| xp rfl (mv rfl) <| xp rfl (bin rfl rfl bk_neq) <| xl_nil <| xq_then <| xc_cond rfl (fun hc2 => ?_) (fun hc2 => ?_)
    ·
      exact absurd hc2 (by decide)
    ·
      refine xc_skip <| xq_then <| xc_seq <| xc_draw (canon := [(0, .p), (1, .p), (2, .p), (3, .p), (4, .p), (6, .p), (5, .x), (7, .x), (8, .p), (9, .p), (10, .p), (11, .x), (12, .x)]) (Z := HP _ [_, cellR b1 _ _]) mixed_ rfl (akp <| akp <| akp <| akp <| akp <| akp <| akx <| akx <| akp <| akp <| akp <| akx <| akx <| ak0) (zsub (.cons_cons _ <| .cons_cons _ <| List.nil_sublist _)) ?_
      refine dp rfl rfl rfl rfl (fa fa_23_2 rfl) <| dp rfl rfl rfl rfl (ld kd_9 rfl (.tail .head) rfl) <| dp rfl rfl rfl rfl (fa fa_23_0 rfl) <| dp rfl rfl rfl rfl (ld kd_3 rfl (.tail .head) rfl) <| dp rfl rfl rfl rfl (mv rfl) <| dp rfl rfl rfl rfl (mv rfl) <| dr rfl rfl rfl (.inl rfl) rfl Tryz.call20 rfl rfl (fun W hW => (accs_ok (hS.below (Go.Eng.HP.below hW)) (by omega))) (zsub (.cons_cons _ <| .cons_cons _ <| List.nil_sublist _)) fun la _ => dr rfl rfl rfl (.inl rfl) rfl Tryz.call45 rfl rfl (fun W hW => (place_ok (hG.up (hW.sub (List.nil_sublist _))) hh hsd (ownR_rowOf (hW.mem_ok .head)) (row_of_cell rwK hW (.tail .head) (by omega)) hA hr hal)) (zsub (.cons _ <| .cons_cons _ <| .cons_cons _ <| List.nil_sublist _)) fun pl _ => dp rfl rfl rfl rfl (mv rfl) <| dp rfl rfl rfl rfl (ext rfl rfl) <| dp rfl rfl rfl rfl (ext rfl rfl) <| das rfl rfl rfl rfl (asg rfl) (zsub (.cons _ <| .cons _ <| .cons_cons _ <| .cons_cons _ <| List.nil_sublist _)) <| das rfl rfl rfl rfl (asg rfl) (zsub (.cons _ <| .cons _ <| .cons_cons _ <| .cons_cons _ <| List.nil_sublist _)) <| dend <| xq_then <| ?_
      refine xc_seq <| xc_seq <| xc_region <| xp rfl (mv rfl) <| xp rfl (bin rfl rfl bk_neq) <| xl_nil <| xq_then <| xc_cond rfl (fun hc3 => ?_) (fun hc3 => ?_)
      ·
        exact absurd hc3 (by decide)
      ·
        refine xc_skip <| xq_then <| xc_seq <| xc_region <| xp rfl (ld kd_23 rfl (.tail <| .tail <| .tail .head) rfl) <| xp rfl (mv rfl) <| xr rfl Tryz.call30 rfl rfl (fun W hW => (sof_ok (cfg := ⟨_, _, _⟩) (hG.up hW) hcc (ownR_rowOf (hW.mem_ok .head)) hpl.1 (by simp only; omega))) fun s hs => xp rfl (mv rfl) <| xp rfl (ext rfl rfl) <| xp rfl (ext rfl rfl) <| xp rfl (asg rfl) <| xp rfl (asg rfl) <| xl_nil <| xq_then <| ?_
        refine xc_seq <| xc_region <| xp rfl (mv rfl) <| xp rfl (mv rfl) <| xp rfl (asg rfl) <| xp rfl (asg rfl) <| xp rfl (asg rfl) <| xl_nil <| xq_then <| xc_ret <| leave3 (.inl rfl) rfl (.tmp rfl) (.tmp rfl) (.tmp rfl) fun W hW => (⟨s, rfl, hs, hW.sub (.cons_cons _ <| List.nil_sublist _)⟩)

end Go.Eng
end
section
namespace Go.Eng
open Go Go.RowKit Go.Proofs
set_option linter.unusedVariables false
set_option linter.unusedSimpArgs false
set_option maxRecDepth 4000
theorem cmpB : ∀ (a b : List UInt8), Lib.compareBytes a b = if a < b then -1 else if b < a then 1 else 0
  | [], [] => by simp [Lib.compareBytes]
  | [], b :: ys => by simp [Lib.compareBytes]
  | a :: xs, [] => by simp [Lib.compareBytes]
  | a :: xs, b :: ys => by
    rw [Lib.compareBytes, cmpB xs ys]
    by_cases h1 : a < b
    · rw [if_pos h1, if_pos (List.cons_lt_cons_iff.2 (.inl h1))]
    · rw [if_neg h1]
      by_cases h2 : b < a
      · have h3 : ¬ (a :: xs < b :: ys) := fun h => by
          rcases List.cons_lt_cons_iff.1 h with h | ⟨rfl, _⟩
          · exact h1 h
          · exact h1 h2
        rw [if_pos h2, if_neg h3, if_pos (List.cons_lt_cons_iff.2 (.inl h2))]
      · have e : a = b := UInt8.le_antisymm (UInt8.not_lt.1 h2) (UInt8.not_lt.1 h1)
        subst e
        simp [h1, List.cons_lt_cons_iff]
theorem compare_ok (a b : ByteArray) (w : World) : RetV Tryz.prog 67 [.string a, .string b] w (.int .i64 (cmpI a b)) := by
  have h := Tryz.strings_Compare a b w
  rw [cmpB] at h
  have e : cmpI a b = (if a.data.toList < b.data.toList then -1 else if b.data.toList < a.data.toList then 1 else 0) := by
    simp only [cmpI, idLt, decide_eq_true_eq, ByteArray.toList_eq]
  rw [e]
  exact RetV.of h

theorem fcmp_ok (a : Ac) (id : ByteArray) (w : World) : RetV Tryz.prog 66 [a.V, .string id] w (.int .i64 (cmpI a.id id)) := by
  refine begin_ Tryz.func66 rfl rfl rfl ?_
  refine xc_seq <| xc_region <| xe rfl (bx rfl rfl) fun b1 _ => xp rfl (asg rfl) <| xl_nil <| xq_then <| ?_
  refine xc_seq <| xc_region <| xp rfl (fa fa_52_0 rfl) <| xp rfl (ld kd_9 rfl .head rfl) <| xp rfl (mv rfl) <| xv rfl Tryz.call67 rfl rfl (fun W hW => (compare_ok _ _ W)) <| xp rfl (asg rfl) <| xl_nil <| xq_then <| xc_ret <| leave1 (.inl rfl) rfl (.tmp rfl) fun W hW => (⟨rfl, hW.below⟩)

theorem find_nodup {l : List Ac} (ha : Asc Ac.id l) {k : Nat} (hk : k < l.length) {id : ByteArray} (e : (getA l k).id = id) : l.find? (isId id) = some (getA l k) := by
  rw [List.find?_eq_some_iff_getElem]
  refine ⟨by simp [isId, e], k, hk, (getA_eq hk).symm, fun j hj => ?_⟩
  have h1 : idLt (getA l j).id (getA l k).id = true := by
    rw [getA_eq hk, getA_eq (by omega : j < l.length)]; exact List.pairwise_iff_getElem.1 ha _ _ _ _ hj
  rw [e, getA_eq (by omega : j < l.length)] at h1
  simp only [isId, Bool.not_eq_true', beq_eq_false_iff_ne]
  intro h2
  rw [toList_inj h2, idLt_irrefl] at h1; cases h1
def BsF (l : List Ac) (id : ByteArray) (s : Nat × Bool) : Prop := (s.2 = true ∧ s.1 < l.length ∧ (getA l s.1).id = id) ∨ (s.2 = false ∧ ∀ x ∈ l, x.id ≠ id)
theorem bs_some {l : List Ac} (ha : Asc Ac.id l) {id : ByteArray} {q : Nat × Bool} (h : BsF l id q) (hq : q.2 = true) : q.1 < l.length ∧ hasF l id = true ∧ findF l id = getA l q.1 := by
  rcases h with ⟨_, h1, h2⟩ | ⟨h1, _⟩
  · have := find_nodup ha h1 h2
    exact ⟨h1, by simp [hasF, this], by simp [findF, this]⟩
  · rw [hq] at h1; cases h1
theorem bs_none {l : List Ac} {id : ByteArray} {q : Nat × Bool} (h : BsF l id q) (hq : q.2 = false) : hasF l id = false ∧ findF l id = ac0 := by
  rcases h with ⟨h1, _, _⟩ | ⟨_, h1⟩
  · rw [hq] at h1; cases h1
  · have : l.find? (isId id) = none := by
      rw [List.find?_eq_none]
      intro x hx e
      exact h1 x hx (toList_inj (by simpa [isId] using e))
    exact ⟨by simp [hasF, this], by simp [findF, this]⟩
theorem asc_at {l : List Ac} (h : Asc Ac.id l) {i j : Nat} (hi : i < j) (hj : j < l.length) : idLt (getA l i).id (getA l j).id = true := by
  rw [getA_eq hj, getA_eq (by omega : i < l.length)]; exact List.pairwise_iff_getElem.1 h _ _ _ _ hi
theorem idLt_trans2 {a b c : ByteArray} (h1 : idLt a b = true) (h2 : idLt b c = true) : idLt a c = true := by
  simp only [idLt, decide_eq_true_eq] at *
  exact List.lt_trans h1 h2
theorem bs_end {l : List Ac} {id : ByteArray} (ha : Asc Ac.id l) {i : Nat} (hi : i ≤ l.length) (h1 : ∀ k, k < i → idLt (getA l k).id id = true) (h2 : ∀ k, i ≤ k → k < l.length → idLt (getA l k).id id = false) (hne : i < l.length → (cmpI (getA l i).id id == 0) = false) : ∀ x ∈ l, x.id ≠ id := by
  intro x hx e
  obtain ⟨k, hk, rfl⟩ := List.getElem_of_mem hx
  rw [← getA_eq hk] at e
  rcases Nat.lt_trichotomy k i with h | h | h
  · have := h1 k h; rw [e, idLt_irrefl] at this; cases this
  · subst h
    have := hne hk
    rw [e] at this
    simp [cmpI, idLt_irrefl] at this
  · have h3 := asc_at ha h hk
    have h4 := h2 i (Nat.le_refl _) (by omega)
    rw [e] at h3
    rw [h3] at h4; cases h4
theorem bs_lo {l : List Ac} {id : ByteArray} (ha : Asc Ac.id l) {m k : Nat} (hm : m < l.length) (hk : k ≤ m) (h : idLt (getA l m).id id = true) : idLt (getA l k).id id = true := by
  rcases Nat.lt_or_eq_of_le hk with h1 | rfl
  · exact idLt_trans2 (asc_at ha h1 hm) h
  · exact h
theorem bs_hi {l : List Ac} {id : ByteArray} (ha : Asc Ac.id l) {m k : Nat} (hk : k < l.length) (hm : m ≤ k) (h : idLt (getA l m).id id = false) : idLt (getA l k).id id = false := by
  cases h2 : idLt (getA l k).id id with
  | false => rfl
  | true => rw [bs_lo ha hk hm h2] at h; cases h
theorem cmpI_zero {a b : ByteArray} (h : (cmpI a b == 0) = true) : a = b := by
  cases h1 : idLt a b with
  | true => simp [cmpI, h1] at h
  | false => cases h2 : idLt b a with
    | true => simp [cmpI, h1, h2] at h
    | false => exact idLt_tri h1 h2

theorem bsearch_ok {A : Option Addr} {l : List Ac} {c : Nat} {id : ByteArray} {w : World} (hr : rowOf w 5 Ac.c A l) (ha : Asc Ac.id l) (hl : l.length ≤ 100000) :
  Ret Tryz.prog 65 [.slice A l.length c, .string id, .func (.func 66) #[] #[]] w (fun s : Nat × Bool => .tuple #[.int .i64 s.1, .bool s.2]) (BsF l id) (fun _ => []) := by
  refine begin_ Tryz.func65 rfl rfl rfl ?_
  refine xc_seq <| xc_region <| xp rfl (asg rfl) <| xp rfl (asg rfl) <| xl_nil <| xq_then <| ?_
  refine xc_seq <| xc_region <| xp rfl (mv rfl) <| xp rfl (lenv Tryz.underlying49 rfl) <| xp rfl (asg rfl) <| xl_nil <| xq_then <| ?_
  refine xc_seq <| xc_region <| xp rfl (mv rfl) <| xp rfl (asg rfl) <| xp rfl (asg rfl) <| xl_nil <| xq_then <| xc_seq <| xc_block <| xc_loopP (σ := Nat × Nat) (fun q => [(9, .int .i64 q.1), (10, .int .i64 q.2), (0, _), (1, _), (2, _), (8, _)]) (fun q => q.1 ≤ q.2 ∧ q.2 ≤ l.length ∧ (∀ k, k < q.1 → idLt (getA l k).id id = true) ∧ (∀ k, q.2 ≤ k → k < l.length → idLt (getA l k).id id = false)) (fun q => HP w []) (fun q => q.2 - q.1) (0, l.length) ⟨Nat.zero_le _, Nat.le_refl _, fun k h => absurd h (by simp), fun k h1 h2 => absurd h2 (by simp only at h1; omega)⟩ (sc rfl <| sc rfl <| sc rfl <| sc rfl <| sc rfl <| sc rfl <| sn) (fun W hW => hW) fun q ⟨hij, hjn, hlo, hhi⟩ => ?_
  obtain ⟨i, j⟩ := q
  simp only at hij hjn hlo hhi
  dsimp only
  refine xc_seq <| xc_seq <| xc_region <| xp rfl (mv rfl) <| xp rfl (mv rfl) <| xp rfl (bin rfl rfl bk_lss) <| xl_nil <| xq_then <| xc_cond rfl (fun hc1 => ?_) (fun hc1 => ?_)
  ·
    have hij1 : i < j := by have h := of_decide_eq_true hc1; omega
    obtain ⟨b, off, rfl⟩ := hr.addr (by omega)
    have em : IntKind.i64.wrap ((IntKind.u64.wrap (IntKind.i64.wrap ((i : Int) + j))).fdiv (2 ^ (min (1 : Int).toNat IntKind.u64.bits))) = (((i + j) / 2 : Nat) : Int) := by rw [show IntKind.i64.wrap ((i : Int) + j) = ((i + j : Nat) : Int) from w64 (by omega) (by omega), show IntKind.u64.wrap ((i + j : Nat) : Int) = ((i + j : Nat) : Int) from wu64 rfl (by omega), fdivNat]; exact w64 rfl (by show (i + j) / 2 ≤ _; omega)
    have hm : (i + j) / 2 < l.length := by omega
    refine xc_skip <| xq_then <| xc_block <| xc_seq <| xc_region <| xp rfl (mv rfl) <| xp rfl (mv rfl) <| xp rfl (bin rfl rfl bk_add) <| xp rfl (cv rfl (cvi Tryz.underlying3 Tryz.underlying56)) <| xp rfl (bin rfl rfl (bk_shr (by omega))) <| xp rfl (cv rfl (cvi Tryz.underlying56 Tryz.underlying3)) <| xp rfl (asg rfl) <| xl_nil <| xq_then <| ?_
    refine xc_seq <| xc_region <| xp rfl (mv rfl) <| xp rfl (mv rfl) <| xp rfl (mv rfl) <| xp rfl (ix so_49 rfl rfl (by rw [em]; omega) (by rw [em]; omega)) <| xp rfl (ldc kd_52 rfl (vs := _) (fun W hW => ac_at (hr.up hW) hm (by rw [em]; omega)) rfl) <| xp rfl (mv rfl) <| xv rfl Tryz.call66 rfl rfl (fun W hW => (fcmp_ok (getA l ((i + j) / 2)) id W)) <| xp rfl (bin rfl rfl bk_lss) <| xl_nil <| xq_then <| xc_cond rfl (fun hc2 => ?_) (fun hc2 => ?_)
    ·
      rw [cmpI_lt] at hc2
      refine xc_region <| xp rfl (mv rfl) <| xp rfl (bin rfl rfl bk_add) <| xp rfl (asg rfl) <| xl_nil <| xq_in <| xq_roundP ((i + j) / 2 + 1, j) (⟨by simp only; omega, hjn, fun k hk => bs_lo ha hm (by simp only at hk; omega) hc2, hhi⟩) (by simp only; omega) (sc ((by first | rfl | (rw [em]; rfl) | (rw [em]; exact iw (by omega) (by omega) (by omega) rfl))) <| sc ((by first | rfl | (rw [em]; rfl) | (rw [em]; exact iw (by omega) (by omega) (by omega) rfl))) <| sc rfl <| sc rfl <| sc rfl <| sc rfl <| sn) (fun W hW => hW.sub (.refl _))
    ·
      rw [cmpI_lt] at hc2
      refine xc_region <| xp rfl (mv rfl) <| xp rfl (asg rfl) <| xl_nil <| xq_in <| xq_roundP (i, (i + j) / 2) (⟨by simp only; omega, by simp only; omega, hlo, fun k h1 h2 => bs_hi ha h2 h1 hc2⟩) (by simp only; omega) (sc ((by first | rfl | (rw [em]; rfl) | (rw [em]; exact iw (by omega) (by omega) (by omega) rfl))) <| sc ((by first | rfl | (rw [em]; rfl) | (rw [em]; exact iw (by omega) (by omega) (by omega) rfl))) <| sc rfl <| sc rfl <| sc rfl <| sc rfl <| sn) (fun W hW => hW.sub (.refl _))
  ·
    obtain rfl : i = j := by have h := of_decide_eq_false hc1; omega
    refine xc_exit <| xq_then_exit <| xq_then_exit <| xq_in_hit <| xq_then <| xc_seq <| xc_em (i < l.length) (fun hin => ?_) (fun hin => ?_)
    ·
      obtain ⟨b, off, rfl⟩ := hr.addr (by omega)
      refine xc_region <| xp rfl (mv rfl) <| xp rfl (mv rfl) <| xp rfl (mv rfl) <| xp rfl (bin rfl rfl bk_lss) <| xp rfl (mv rfl) <| xgT rfl rfl rfl (decide_eq_true (Int.ofNat_lt.2 hin)) <| xp rfl (mv rfl) <| xgT rfl rfl rfl (decide_eq_true (Int.ofNat_lt.2 hin)) <| xp rfl (mv rfl) <| xgT rfl rfl rfl (decide_eq_true (Int.ofNat_lt.2 hin)) <| xp rfl (mv rfl) <| xgT rfl rfl rfl (decide_eq_true (Int.ofNat_lt.2 hin)) <| xp rfl (ix so_49 rfl rfl (by omega) (by omega)) <| xgT rfl rfl rfl (decide_eq_true (Int.ofNat_lt.2 hin)) <| xp rfl (ldc kd_52 rfl (vs := _) (fun W hW => ac_at (hr.up hW) hin (by omega)) rfl) <| xgT rfl rfl rfl (decide_eq_true (Int.ofNat_lt.2 hin)) <| xp rfl (mv rfl) <| xgT rfl rfl rfl (decide_eq_true (Int.ofNat_lt.2 hin)) <| xv rfl Tryz.call66 rfl rfl (fun W hW => (fcmp_ok (getA l i) id W)) <| xgT rfl rfl rfl (decide_eq_true (Int.ofNat_lt.2 hin)) <| xp rfl (bin rfl rfl bk_eql) <| xp rfl (pickT rfl (decide_eq_true (Int.ofNat_lt.2 hin)) rfl) <| xp rfl (asg rfl) <| xp rfl (asg rfl) <| xl_nil <| xq_then <| xc_ret <| leave2 (.inl rfl) rfl (.tmp rfl) (.tmp rfl) fun W hW => (⟨(i, (cmpI (getA l i).id id == 0)), rfl, (by cases hz : (cmpI (getA l i).id id == 0) with | true => exact .inl ⟨rfl, hin, cmpI_zero hz⟩ | false => exact .inr ⟨rfl, bs_end ha hjn hlo hhi (fun _ => hz)⟩), hW⟩)
    ·
      refine xc_region <| xp rfl (mv rfl) <| xp rfl (mv rfl) <| xp rfl (mv rfl) <| xp rfl (bin rfl rfl bk_lss) <| xp rfl (mv rfl) <| xgF rfl rfl rfl (decide_eq_false (fun h => hin (Int.ofNat_lt.1 h))) <| xgF rfl rfl rfl (decide_eq_false (fun h => hin (Int.ofNat_lt.1 h))) <| xgF rfl rfl rfl (decide_eq_false (fun h => hin (Int.ofNat_lt.1 h))) <| xgF rfl rfl rfl (decide_eq_false (fun h => hin (Int.ofNat_lt.1 h))) <| xgF rfl rfl rfl (decide_eq_false (fun h => hin (Int.ofNat_lt.1 h))) <| xgF rfl rfl rfl (decide_eq_false (fun h => hin (Int.ofNat_lt.1 h))) <| xgF rfl rfl rfl (decide_eq_false (fun h => hin (Int.ofNat_lt.1 h))) <| xgF rfl rfl rfl (decide_eq_false (fun h => hin (Int.ofNat_lt.1 h))) <| xp rfl (pickF rfl (decide_eq_false (fun h => hin (Int.ofNat_lt.1 h))) rfl) <| xp rfl (asg rfl) <| xp rfl (asg rfl) <| xl_nil <| xq_then <| xc_ret <| leave2 (.inl rfl) rfl (.tmp rfl) (.tmp rfl) fun W hW => (⟨(i, false), rfl, .inr ⟨rfl, bs_end ha hjn hlo hhi (fun h => absurd h hin)⟩, hW⟩)

theorem sfind_ok {w : World} {sb h : Nat} {cfg : Cfg} {l : List Ac} {root : Nd} {id : ByteArray} (hS : SnapAt w sb cfg l root h) (ha : Asc Ac.id l) (hl : l.length ≤ 100000) : RetV Tryz.prog 31 [.pointer (some ⟨sb, 0, none⟩), .string id] w (.tuple #[(findF l id).V, .bool (hasF l id)]) := by
  have h0 := hS
  obtain ⟨tb, A, c, h1, h2, h3⟩ := hS
  refine begin_ Tryz.func31 rfl rfl rfl ?_
  refine xc_seq <| xc_region <| xe rfl (al zo_52) fun b1 _ => xp rfl (asg rfl) <| xl_nil <| xq_then <| ?_
  refine xc_seq <| xc_seq <| xc_region <| xp rfl (mv rfl) <| xv rfl Tryz.call52 rfl rfl (fun W hW => (snone_ok (h0.below hW.below))) <| xl_nil <| xq_then <| xc_cond rfl (fun hc1 => ?_) (fun hc1 => ?_)
  ·
    cases hc1
  ·
    refine xc_skip <| xq_then <| xc_seq <| xc_region <| xp rfl (mv rfl) <| xp rfl (nc rfl) <| xp rfl (fa fa_121_1 rfl) <| xp rfl (ldc kd_49 rfl (vs := _) (fun W hW => hold_cells (o := 3) h1 hW.below) rfl) <| xp rfl (mv rfl) <| xr rfl Tryz.call65 rfl rfl (fun W hW => (bsearch_ok (h2.up hW) ha hl)) fun q hq => xp rfl (mv rfl) <| xp rfl (ext rfl rfl) <| xp rfl (ext rfl rfl) <| xp rfl (asg rfl) <| xp rfl (asg rfl) <| xl_nil <| xq_then <| ?_
    refine xc_seq <| xc_seq <| xc_region <| xp rfl (mv rfl) <| xp rfl (un rfl uk_not) <| xl_nil <| xq_then <| xc_cond rfl (fun hc2 => ?_) (fun hc2 => ?_)
    ·
      obtain ⟨e1, e2⟩ : hasF l id = false ∧ findF l id = ac0 := bs_none hq (by simpa using hc2)
      refine xc_seq <| xc_region <| xp rfl (bd rfl bd_52_) <| xs (st sz_52 rfl rfl rfl rfl .head rfl rfl) <| xp rfl (asg rfl) <| xl_nil <| xq_then <| xc_ret <| xq_then_ret <| leave2 (.inl rfl) rfl (.cell rfl (ld_own kd_52 .head rfl)) (.tmp rfl) fun W hW => (⟨by rw [e1, e2]; rfl, hW.below⟩)
    ·
      obtain ⟨e1, e2, e3⟩ : q.1 < l.length ∧ hasF l id = true ∧ findF l id = getA l q.1 := bs_some ha hq (by simpa using hc2)
      obtain ⟨b, off, rfl⟩ := h2.addr (by omega)
      refine xc_skip <| xq_then <| xc_seq <| xc_region <| xp rfl (mv rfl) <| xp rfl (nc rfl) <| xp rfl (fa fa_121_1 rfl) <| xp rfl (ldc kd_49 rfl (vs := _) (fun W hW => hold_cells (o := 3) h1 hW.below) rfl) <| xp rfl (mv rfl) <| xp rfl (ix so_49 rfl rfl (by omega) (by omega)) <| xp rfl (ldc kd_52 rfl (vs := _) (fun W hW => ac_at (h2.up hW) e1 (by omega)) rfl) <| xs (st sz_52 rfl rfl rfl rfl .head rfl rfl) <| xp rfl (asg rfl) <| xl_nil <| xq_then <| xc_ret <| leave2 (.inl rfl) rfl (.cell rfl (ld_own kd_52 .head rfl)) (.tmp rfl) fun W hW => (⟨by rw [e2, e3]; rfl, hW.below⟩)

end Go.Eng
end
section
namespace Go.Eng
open Go Go.RowKit Go.Proofs
set_option linter.unusedVariables false
set_option linter.unusedSimpArgs false
set_option maxRecDepth 4000
structure MgS where (xs ys : List Ac) (A : Option Addr) (ca : Nat) (B : Option Addr) (cb : Nat) (out : List Pr) (O : Option Addr) (oc : Nat)
theorem rowOf_tail {W : World} {b off c : Nat} {x : Ac} {xs : List Ac} (h : rowOf W 5 Ac.c (some ⟨b, off, none⟩) (x :: xs)) (hc : (x :: xs).length ≤ c) : rowOf W 5 Ac.c (offA (some ⟨b, off, none⟩) 1 5 c) xs := by
  obtain ⟨h1, h2, h3⟩ := h
  refine ⟨length_flatMap_enc acK xs, by simp at h2; omega, fun hn => ?_⟩
  obtain ⟨b', o', e, hcs⟩ := h3 (by simp)
  cases e
  refine ⟨b, off + 5, by simp only [offA]; rw [if_neg (by simp at hc; omega)]; simp [Addr.add_lit], fun i u hu => ?_⟩
  have := hcs (5 + i) u (by
    rw [List.flatMap_cons, List.getElem?_append_right (by simp)]
    simpa using hu)
  rw [← this, Nat.add_assoc]
theorem hd_at {W : World} {b off o : Nat} {x : Ac} {xs : List Ac} (h : rowOf W 5 Ac.c (some ⟨b, off, none⟩) (x :: xs)) (ho : o = off) : Cells W b o (Ac.c x) := by
  have := ac_at h (k := 0) (by simp) (o := o) (by omega)
  simpa [getA] using this
theorem prK : ∀ p : Pr, p.c.length = 11 := fun _ => rfl
theorem mg_one (x : Ac) (xs : List Ac) : mergeF (x :: xs) [] = ⟨x, ac0, 1⟩ :: mergeF xs [] := by rw [mergeF]
theorem mg_two (y : Ac) (ys : List Ac) : mergeF [] (y :: ys) = ⟨ac0, y, 2⟩ :: mergeF [] ys := by rw [mergeF]
theorem mg_lt {x y : Ac} {xs ys : List Ac} (h : idLt x.id y.id = true) : mergeF (x :: xs) (y :: ys) = ⟨x, ac0, 1⟩ :: mergeF xs (y :: ys) := by rw [mergeF, if_pos h]
theorem mg_gt {x y : Ac} {xs ys : List Ac} (h1 : idLt x.id y.id = false) (h2 : idLt y.id x.id = true) : mergeF (x :: xs) (y :: ys) = ⟨ac0, y, 2⟩ :: mergeF (x :: xs) ys := by rw [mergeF, if_neg (by simp [h1]), if_pos h2]
theorem mg_eq {x y : Ac} {xs ys : List Ac} (h : x.id = y.id) : mergeF (x :: xs) (y :: ys) = ⟨x, y, 3⟩ :: mergeF xs ys := by rw [mergeF, h, if_neg (by simp [idLt_irrefl]), if_neg (by simp [idLt_irrefl])]
theorem cmpI_gt {a b : ByteArray} (h1 : (cmpI a b == 0) = false) (h2 : ¬ cmpI a b < 0) : idLt a b = false ∧ idLt b a = true := by
  cases h3 : idLt a b with
  | true => simp [cmpI, h3] at h2
  | false => cases h4 : idLt b a with
    | true => exact ⟨rfl, rfl⟩
    | false => simp [cmpI, h3, h4] at h1
theorem pr_one (x : Ac) : Pr.c ⟨x, ac0, 1⟩ = [.string x.id, hiV x.bal, loV x.bal, .string x.salt, .int .u64 x.slot, .string ByteArray.empty, .int .u64 0, .int .u64 0, .string ByteArray.empty, .int .u64 0, .int .i64 (bitop BinOp.or IntKind.i64 0 1)] := by
  rw [show bitop BinOp.or IntKind.i64 0 1 = 1 from by decide]
  simp [ac0, noneText]
theorem pr_two (y : Ac) : Pr.c ⟨ac0, y, 2⟩ = [.string ByteArray.empty, .int .u64 0, .int .u64 0, .string ByteArray.empty, .int .u64 0, .string y.id, hiV y.bal, loV y.bal, .string y.salt, .int .u64 y.slot, .int .i64 2] := by
  simp [ac0, noneText]
theorem pr_both (x y : Ac) : Pr.c ⟨x, y, 3⟩ = [.string x.id, hiV x.bal, loV x.bal, .string x.salt, .int .u64 x.slot, .string y.id, hiV y.bal, loV y.bal, .string y.salt, .int .u64 y.slot, .int .i64 (bitop BinOp.or IntKind.i64 2 1)] := by
  rw [show bitop BinOp.or IntKind.i64 2 1 = 3 from by decide]
theorem cons_of {α : Type} {l : List α} (h : 0 < l.length) : ∃ x xs, l = x :: xs := by
  cases l with
  | nil => simp at h
  | cons x xs => exact ⟨x, xs, rfl⟩

theorem merge_ok {A0 B0 : Option Addr} {l m : List Ac} {c1 c2 : Nat} {w : World} (hA0 : rowOf w 5 Ac.c A0 l) (hB0 : rowOf w 5 Ac.c B0 m) (h1 : l.length ≤ c1) (h2 : m.length ≤ c2) (hl : l.length + m.length ≤ 100000) :
  Ret Tryz.prog 48 [.slice A0 l.length c1, .slice B0 m.length c2] w (fun s : Option Addr × Nat => .slice s.1 (mergeF l m).length s.2) (fun _ => True) (fun s => [ownR 114 11 (.slice s.1 (mergeF l m).length s.2) (mergeF l m).length ((mergeF l m).flatMap Pr.c)]) := by
  refine begin_ Tryz.func48 rfl rfl rfl ?_
  refine xc_seq <| xc_region <| xp rfl (asg rfl) <| xl_nil <| xq_then <| ?_
  refine xc_seq <| xc_region <| xp rfl (asg rfl) <| xl_nil <| xq_then <| xc_seq <| xc_block <| xc_loopP (σ := MgS) (fun q => [(0, .slice q.A q.xs.length q.ca), (1, .slice q.B q.ys.length q.cb), (5, .slice q.O q.out.length q.oc)]) (fun q => rowOf w 5 Ac.c q.A q.xs ∧ rowOf w 5 Ac.c q.B q.ys ∧ q.xs.length ≤ q.ca ∧ q.ys.length ≤ q.cb ∧ q.out ++ mergeF q.xs q.ys = mergeF l m ∧ q.out.length + q.xs.length + q.ys.length ≤ 100000) (fun q => HP w [ownR 114 11 (.slice q.O q.out.length q.oc) q.out.length (q.out.flatMap Pr.c)]) (fun q => q.xs.length + q.ys.length) ⟨l, m, A0, c1, B0, c2, [], none, 0⟩ ⟨hA0, hB0, h1, h2, rfl, by simpa using hl⟩ (sc rfl <| sc rfl <| sc rfl <| sn) (fun W hW => ownR_nil _ _ _ _ hW) fun q ⟨hA, hB, hca, hcb, hinv, hlen⟩ => ?_
  obtain ⟨us, ts, A, ca, B, cb, out, O, oc⟩ := q
  simp only at hA hB hca hcb hinv hlen
  dsimp only
  refine xc_seq <| xc_seq <| xc_region <| xp rfl (mv rfl) <| xp rfl (lenv Tryz.underlying49 rfl) <| xp rfl (bin rfl rfl bk_gtr) <| xp rfl (mv rfl) <| xl_or 4 15 (fun hg1 => xgT rfl rfl rfl hg1 <| xp rfl (mv rfl) <| xgT rfl rfl rfl hg1 <| xp rfl (lenv Tryz.underlying49 rfl) <| xgT rfl rfl rfl hg1 <| xp rfl (bin rfl rfl bk_gtr) <| xp rfl (pickF rfl hg1 rfl) <| xl_nil <| xq_or_yes hg1 (.kc rfl <| .kc rfl <| .kc rfl .kn) (fun _ h => h)) (fun hg1 => xgF rfl rfl rfl hg1 <| xgF rfl rfl rfl hg1 <| xgF rfl rfl rfl hg1 <| xp rfl (pickT rfl hg1 rfl) <| xl_nil <| xq_or_no hg1 (.kc rfl <| .kc rfl <| .kc rfl .kn) (fun _ h => h)) <| xl_nil <| xq_then <| xc_cond rfl (fun hc2 => ?_) (fun hc2 => ?_)
  ·
    have hor : 0 < us.length ∨ 0 < ts.length := by simpa using hc2
    refine xc_skip <| xq_then <| xc_block <| xc_seq <| xc_region <| xe rfl (al zo_114) fun b1 _ => xl_nil <| xq_then <| ?_
    refine xc_seq <| xc_region <| xp rfl (asg rfl) <| xl_nil <| xq_then <| ?_
    refine xc_seq <| xc_seq <| xc_region <| xp rfl (mv rfl) <| xp rfl (lenv Tryz.underlying49 rfl) <| xp rfl (bin rfl rfl bk_gtr) <| xp rfl (mv rfl) <| xl_and 4 23 (fun hg3 => xgT rfl rfl rfl hg3 <| xp rfl (mv rfl) <| xgT rfl rfl rfl hg3 <| xp rfl (lenv Tryz.underlying49 rfl) <| xgT rfl rfl rfl hg3 <| xp rfl (bin rfl rfl bk_gtr) <| xp rfl (pickT rfl hg3 rfl) <| xl_nil <| xq_and_yes hg3 (.kc rfl <| .kc rfl <| .kc rfl .kn) (fun _ h => h)) (fun hg3 => xgF rfl rfl rfl hg3 <| xgF rfl rfl rfl hg3 <| xgF rfl rfl rfl hg3 <| xp rfl (pickF rfl hg3 rfl) <| xl_nil <| xq_and_no hg3 (.kc rfl <| .kc rfl <| .kc rfl .kn) (fun _ h => h)) <| xl_nil <| xq_then <| xc_cond rfl (fun hc4 => ?_) (fun hc4 => ?_)
    ·
      have hand : 0 < us.length ∧ 0 < ts.length := by simpa using hc4
      obtain ⟨x, us, rfl⟩ := cons_of hand.1
      obtain ⟨y, ts, rfl⟩ := cons_of hand.2
      obtain ⟨ba, oa, rfl⟩ := hA.addr (by simp)
      obtain ⟨bb, ob, rfl⟩ := hB.addr (by simp)
      refine xc_draw (canon := [(0, .p), (1, .p), (2, .p), (3, .p), (4, .p), (5, .p), (6, .p), (7, .p), (8, .x), (9, .x)]) (Z := HP _ [cellR b1 _ _, _]) mixed_ rfl (akp <| akp <| akp <| akp <| akp <| akp <| akp <| akp <| akx <| akx <| ak0) (zsub (.cons_cons _ <| .cons_cons _ <| List.nil_sublist _)) ?_
      refine dp rfl rfl rfl rfl (mv rfl) <| dp rfl rfl rfl rfl (ix so_49 rfl rfl (by first | omega | (simp; done) | (simp; omega)) (by first | omega | (simp; done) | (simp; omega))) <| dp rfl rfl rfl rfl (fa fa_52_0 rfl) <| dp rfl rfl rfl rfl (ldc kd_9 rfl (vs := _) (fun W hW => hd_at (hA.up hW) (by simp)) rfl) <| dp rfl rfl rfl rfl (mv rfl) <| dp rfl rfl rfl rfl (ix so_49 rfl rfl (by first | omega | (simp; done) | (simp; omega)) (by first | omega | (simp; done) | (simp; omega))) <| dp rfl rfl rfl rfl (fa fa_52_0 rfl) <| dp rfl rfl rfl rfl (ldc kd_9 rfl (vs := _) (fun W hW => hd_at (hB.up hW) (by simp)) rfl) <| dv rfl rfl rfl (.inl rfl) rfl Tryz.call98 rfl rfl (fun W hW => (cmpstr_ok _ _ W)) (zsub (.cons_cons _ <| .cons_cons _ <| List.nil_sublist _)) <| das rfl rfl rfl rfl (asg rfl) (zsub (.cons_cons _ <| .cons_cons _ <| List.nil_sublist _)) <| dend <| xq_then <| ?_
      refine xc_seq <| xc_block <| xc_seq <| xc_block <| xc_seq <| xc_block <| xc_seq <| xc_block <| xc_seq <| xc_seq <| xc_seq <| xc_region <| xp rfl (mv rfl) <| xp rfl (bin rfl rfl bk_eql) <| xp rfl (asg rfl) <| xl_nil <| xq_then <| xc_cond rfl (fun hc5 => ?_) (fun hc5 => ?_)
      ·
        have heq := cmpI_zero hc5
        refine xc_exit <| xq_then_exit <| xq_then_exit <| xq_in_hit <| xq_then <| xc_seq <| xc_draw (canon := [(0, .p), (1, .p), (2, .p), (3, .p), (4, .p), (5, .p), (6, .x), (7, .x)]) (Z := HP _ [_]) mixed_ rfl (akp <| akp <| akp <| akp <| akp <| akp <| akx <| akx <| ak0) (zsub (.cons _ <| .cons_cons _ <| List.nil_sublist _)) ?_
        refine dp rfl rfl rfl rfl (mv rfl) <| dp rfl rfl rfl rfl (ix so_49 rfl rfl (by first | omega | (simp; done) | (simp; omega)) (by first | omega | (simp; done) | (simp; omega))) <| dp rfl rfl rfl rfl (ldc kd_52 rfl (vs := _) (fun W hW => hd_at (hB.up hW) (by simp)) rfl) <| dp rfl rfl rfl rfl (mv rfl) <| dp rfl rfl rfl rfl (vsl so_49 rfl rfl (by first | omega | (simp; done) | (simp; omega)) (by first | omega | (simp; done) | (simp; omega))) <| dp rfl rfl rfl rfl (fa fa_114_1 rfl) <| dst_ rfl rfl rfl rfl sz_52 rfl rfl rfl rfl .head rfl rfl (zsub (.cons _ <| .cons_cons _ <| List.nil_sublist _)) <| das rfl rfl rfl rfl (asg rfl) (zsub (.cons _ <| .cons_cons _ <| List.nil_sublist _)) <| dend <| xq_then <| ?_
        refine xc_region <| xp rfl (fa fa_114_2 rfl) <| xs (st sz_3 rfl rfl rfl rfl .head rfl rfl) <| xl_nil <| xq_in <| xq_then <| ?_
        refine xc_seq <| xc_seq <| xc_draw (canon := [(0, .p), (1, .p), (2, .p), (3, .p), (4, .p), (5, .p), (6, .x), (7, .x)]) (Z := HP _ [_]) mixed_ rfl (akp <| akp <| akp <| akp <| akp <| akp <| akx <| akx <| ak0) (zsub (.cons _ <| .cons_cons _ <| List.nil_sublist _)) ?_
        refine dp rfl rfl rfl rfl (mv rfl) <| dp rfl rfl rfl rfl (ix so_49 rfl rfl (by first | omega | (simp; done) | (simp; omega)) (by first | omega | (simp; done) | (simp; omega))) <| dp rfl rfl rfl rfl (ldc kd_52 rfl (vs := _) (fun W hW => hd_at (hA.up hW) (by simp)) rfl) <| dp rfl rfl rfl rfl (mv rfl) <| dp rfl rfl rfl rfl (vsl so_49 rfl rfl (by first | omega | (simp; done) | (simp; omega)) (by first | omega | (simp; done) | (simp; omega))) <| dp rfl rfl rfl rfl (fa fa_114_0 rfl) <| dst_ rfl rfl rfl rfl sz_52 rfl rfl rfl rfl .head rfl rfl (zsub (.cons _ <| .cons_cons _ <| List.nil_sublist _)) <| das rfl rfl rfl rfl (asg rfl) (zsub (.cons _ <| .cons_cons _ <| List.nil_sublist _)) <| dend <| xq_then <| ?_
        refine xc_region <| xp rfl (fa fa_114_2 rfl) <| xp rfl (ld kd_3 rfl .head rfl) <| xp rfl (bin rfl rfl bk_or) <| xp rfl (fa fa_114_2 rfl) <| xs (st sz_3 rfl rfl rfl rfl .head rfl rfl) <| xl_nil <| xq_then <| xc_exit <| xq_in_miss rfl <| xq_then_exit <| xq_in_hit <| xq_then <| ?_
        refine xc_region <| xp rfl (mv rfl) <| xp rfl (ld kd_114 rfl .head rfl) <| xe rfl (bs rfl bs_111_1) fun b2 _ => xe rfl (apS mo_111 rfl rfl (.tail <| .tail .head) rfl (nw .head) (by simp [Value.oneCell']) (by simp only [maxLen]; omega) (by simp at hlen; omega)) fun s1 _ => xp rfl (asg rfl) <| xl_nil <| xq_in <| xq_roundP (⟨us, ts, offA (some ⟨ba, oa, none⟩) 1 5 ca, ca - 1, offA (some ⟨bb, ob, none⟩) 1 5 cb, cb - 1, out ++ [⟨x, y, 3⟩], s1.1, s1.2⟩) (⟨rowOf_tail hA (by simpa using hca), rowOf_tail hB (by simpa using hcb), by simp at hca ⊢; omega, by simp at hcb ⊢; omega, by rw [← hinv, mg_eq heq]; simp, by simp at hlen ⊢; omega⟩) (by simp only [List.length_cons]; omega) (sc rfl <| sc rfl <| sc ((by first | rfl | (simp only [List.length_append, List.length_cons, List.length_nil]; rfl))) <| sn) (fun W hW => by
          have h1 := hW.sub (.cons _ <| .cons _ <| .refl _)
          simp only [List.length_append, List.length_cons, List.length_nil, List.flatMap_append, List.flatMap_cons, List.flatMap_nil, List.append_nil]
          first | (rw [pr_one]; exact h1) | (rw [pr_two]; exact h1) | (rw [pr_both]; exact h1))
      ·
        refine xc_skip <| xq_then <| xc_seq <| xc_region <| xp rfl (mv rfl) <| xp rfl (bin rfl rfl bk_lss) <| xp rfl (mv rfl) <| xl_and 4 48 (fun hg6 => xgT rfl rfl rfl hg6 <| xp rfl (mv rfl) <| xgT rfl rfl rfl hg6 <| xp rfl (lenv Tryz.underlying49 rfl) <| xgT rfl rfl rfl hg6 <| xp rfl (bin rfl rfl bk_gtr) <| xp rfl (pickT rfl hg6 rfl) <| xl_nil <| xq_and_yes hg6 (.kc rfl <| .kc rfl <| .kc rfl .kn) (fun _ h => h)) (fun hg6 => xgF rfl rfl rfl hg6 <| xgF rfl rfl rfl hg6 <| xgF rfl rfl rfl hg6 <| xp rfl (pickF rfl hg6 rfl) <| xl_nil <| xq_and_no hg6 (.kc rfl <| .kc rfl <| .kc rfl .kn) (fun _ h => h)) <| xp rfl (asg rfl) <| xl_nil <| xq_then <| xc_cond rfl (fun hc7 => ?_) (fun hc7 => ?_)
        ·
          have hlt : idLt x.id y.id = true := by rw [← cmpI_lt]; simp at hc7; simpa using hc7
          refine xc_exit <| xq_then_exit <| xq_in_miss rfl <| xq_then_exit <| xq_in_hit <| xq_then <| xc_seq <| xc_seq <| xc_draw (canon := [(0, .p), (1, .p), (2, .p), (3, .p), (4, .p), (5, .p), (6, .x), (7, .x)]) (Z := HP _ [_]) mixed_ rfl (akp <| akp <| akp <| akp <| akp <| akp <| akx <| akx <| ak0) (zsub (.cons _ <| .cons_cons _ <| List.nil_sublist _)) ?_
          refine dp rfl rfl rfl rfl (mv rfl) <| dp rfl rfl rfl rfl (ix so_49 rfl rfl (by first | omega | (simp; done) | (simp; omega)) (by first | omega | (simp; done) | (simp; omega))) <| dp rfl rfl rfl rfl (ldc kd_52 rfl (vs := _) (fun W hW => hd_at (hA.up hW) (by simp)) rfl) <| dp rfl rfl rfl rfl (mv rfl) <| dp rfl rfl rfl rfl (vsl so_49 rfl rfl (by first | omega | (simp; done) | (simp; omega)) (by first | omega | (simp; done) | (simp; omega))) <| dp rfl rfl rfl rfl (fa fa_114_0 rfl) <| dst_ rfl rfl rfl rfl sz_52 rfl rfl rfl rfl .head rfl rfl (zsub (.cons _ <| .cons_cons _ <| List.nil_sublist _)) <| das rfl rfl rfl rfl (asg rfl) (zsub (.cons _ <| .cons_cons _ <| List.nil_sublist _)) <| dend <| xq_then <| ?_
          refine xc_region <| xp rfl (fa fa_114_2 rfl) <| xp rfl (ld kd_3 rfl .head rfl) <| xp rfl (bin rfl rfl bk_or) <| xp rfl (fa fa_114_2 rfl) <| xs (st sz_3 rfl rfl rfl rfl .head rfl rfl) <| xl_nil <| xq_then <| xc_exit <| xq_in_miss rfl <| xq_then_exit <| xq_in_hit <| xq_then <| ?_
          refine xc_region <| xp rfl (mv rfl) <| xp rfl (ld kd_114 rfl .head rfl) <| xe rfl (bs rfl bs_111_1) fun b3 _ => xe rfl (apS mo_111 rfl rfl (.tail <| .tail .head) rfl (nw .head) (by simp [Value.oneCell']) (by simp only [maxLen]; omega) (by simp at hlen; omega)) fun s2 _ => xp rfl (asg rfl) <| xl_nil <| xq_in <| xq_roundP (⟨us, (y :: ts), offA (some ⟨ba, oa, none⟩) 1 5 ca, ca - 1, (some ⟨bb, ob, none⟩), cb, out ++ [⟨x, ac0, 1⟩], s2.1, s2.2⟩) (⟨rowOf_tail hA (by simpa using hca), hB, by simp at hca ⊢; omega, hcb, by rw [← hinv, mg_lt hlt]; simp, by simp at hlen ⊢; omega⟩) (by simp only [List.length_cons]; omega) (sc rfl <| sc rfl <| sc ((by first | rfl | (simp only [List.length_append, List.length_cons, List.length_nil]; rfl))) <| sn) (fun W hW => by
          have h1 := hW.sub (.cons _ <| .cons _ <| .refl _)
          simp only [List.length_append, List.length_cons, List.length_nil, List.flatMap_append, List.flatMap_cons, List.flatMap_nil, List.append_nil]
          first | (rw [pr_one]; exact h1) | (rw [pr_two]; exact h1) | (rw [pr_both]; exact h1))
        ·
          obtain ⟨hn1, hn2⟩ : idLt x.id y.id = false ∧ idLt y.id x.id = true := cmpI_gt hc5 (by simp at hc7; simpa using hc7)
          refine xc_skip <| xq_then <| xc_exit <| xq_in_miss rfl <| xq_then_exit <| xq_in_miss rfl <| xq_then_exit <| xq_in_hit <| xq_then <| xc_seq <| xc_seq <| xc_draw (canon := [(0, .p), (1, .p), (2, .p), (3, .p), (4, .p), (5, .p), (6, .x), (7, .x)]) (Z := HP _ [_]) mixed_ rfl (akp <| akp <| akp <| akp <| akp <| akp <| akx <| akx <| ak0) (zsub (.cons _ <| .cons_cons _ <| List.nil_sublist _)) ?_
          refine dp rfl rfl rfl rfl (mv rfl) <| dp rfl rfl rfl rfl (ix so_49 rfl rfl (by first | omega | (simp; done) | (simp; omega)) (by first | omega | (simp; done) | (simp; omega))) <| dp rfl rfl rfl rfl (ldc kd_52 rfl (vs := _) (fun W hW => hd_at (hB.up hW) (by simp)) rfl) <| dp rfl rfl rfl rfl (mv rfl) <| dp rfl rfl rfl rfl (vsl so_49 rfl rfl (by first | omega | (simp; done) | (simp; omega)) (by first | omega | (simp; done) | (simp; omega))) <| dp rfl rfl rfl rfl (fa fa_114_1 rfl) <| dst_ rfl rfl rfl rfl sz_52 rfl rfl rfl rfl .head rfl rfl (zsub (.cons _ <| .cons_cons _ <| List.nil_sublist _)) <| das rfl rfl rfl rfl (asg rfl) (zsub (.cons _ <| .cons_cons _ <| List.nil_sublist _)) <| dend <| xq_then <| ?_
          refine xc_region <| xp rfl (fa fa_114_2 rfl) <| xs (st sz_3 rfl rfl rfl rfl .head rfl rfl) <| xl_nil <| xq_then <| xc_exit <| xq_in_hit <| xq_then <| ?_
          refine xc_region <| xp rfl (mv rfl) <| xp rfl (ld kd_114 rfl .head rfl) <| xe rfl (bs rfl bs_111_1) fun b4 _ => xe rfl (apS mo_111 rfl rfl (.tail <| .tail .head) rfl (nw .head) (by simp [Value.oneCell']) (by simp only [maxLen]; omega) (by simp at hlen; omega)) fun s3 _ => xp rfl (asg rfl) <| xl_nil <| xq_in <| xq_roundP (⟨(x :: us), ts, (some ⟨ba, oa, none⟩), ca, offA (some ⟨bb, ob, none⟩) 1 5 cb, cb - 1, out ++ [⟨ac0, y, 2⟩], s3.1, s3.2⟩) (⟨hA, rowOf_tail hB (by simpa using hcb), hca, by simp at hcb ⊢; omega, by rw [← hinv, mg_gt hn1 hn2]; simp, by simp at hlen ⊢; omega⟩) (by simp only [List.length_cons]; omega) (sc rfl <| sc rfl <| sc ((by first | rfl | (simp only [List.length_append, List.length_cons, List.length_nil]; rfl))) <| sn) (fun W hW => by
          have h1 := hW.sub (.cons _ <| .cons _ <| .refl _)
          simp only [List.length_append, List.length_cons, List.length_nil, List.flatMap_append, List.flatMap_cons, List.flatMap_nil, List.append_nil]
          first | (rw [pr_one]; exact h1) | (rw [pr_two]; exact h1) | (rw [pr_both]; exact h1))
    ·
      have hturn : IntKind.i64.wrap ((ts.length : Int) - us.length) = (ts.length : Int) - us.length := wrap64 (by omega) (by omega)
      have hnand : us.length = 0 ∨ ts.length = 0 := by cases us with | nil => exact .inl rfl | cons x us => cases ts with | nil => exact .inr rfl | cons y ts => exfalso; simp at hc4
      refine xc_region <| xp rfl (mv rfl) <| xp rfl (lenv Tryz.underlying49 rfl) <| xp rfl (mv rfl) <| xp rfl (lenv Tryz.underlying49 rfl) <| xp rfl (bin rfl rfl bk_sub) <| xp rfl (asg rfl) <| xl_nil <| xq_then <| ?_
      refine xc_seq <| xc_block <| xc_seq <| xc_block <| xc_seq <| xc_block <| xc_seq <| xc_block <| xc_seq <| xc_seq <| xc_seq <| xc_region <| xp rfl (mv rfl) <| xp rfl (bin rfl rfl bk_eql) <| xp rfl (asg rfl) <| xl_nil <| xq_then <| xc_cond rfl (fun hc8 => ?_) (fun hc8 => ?_)
      ·
        exfalso; rw [hturn] at hc8; have h3 := eq_of_beq hc8; omega
      ·
        rw [hturn] at hc8
        refine xc_skip <| xq_then <| xc_seq <| xc_region <| xp rfl (mv rfl) <| xp rfl (bin rfl rfl bk_lss) <| xp rfl (mv rfl) <| xl_and 4 48 (fun hg9 => xgT rfl rfl rfl hg9 <| xp rfl (mv rfl) <| xgT rfl rfl rfl hg9 <| xp rfl (lenv Tryz.underlying49 rfl) <| xgT rfl rfl rfl hg9 <| xp rfl (bin rfl rfl bk_gtr) <| xp rfl (pickT rfl hg9 rfl) <| xl_nil <| xq_and_yes hg9 (.kc rfl <| .kc rfl <| .kc rfl .kn) (fun _ h => h)) (fun hg9 => xgF rfl rfl rfl hg9 <| xgF rfl rfl rfl hg9 <| xgF rfl rfl rfl hg9 <| xp rfl (pickF rfl hg9 rfl) <| xl_nil <| xq_and_no hg9 (.kc rfl <| .kc rfl <| .kc rfl .kn) (fun _ h => h)) <| xp rfl (asg rfl) <| xl_nil <| xq_then <| xc_cond rfl (fun hc10 => ?_) (fun hc10 => ?_)
        ·
          rw [hturn] at hc10
          obtain ⟨x, us, rfl⟩ := cons_of (l := us) (by simp at hc10; omega)
          obtain rfl : ts = [] := by cases ts with | nil => rfl | cons y ts => exfalso; simp at hnand
          obtain ⟨ba, oa, rfl⟩ := hA.addr (by simp)
          refine xc_exit <| xq_then_exit <| xq_in_miss rfl <| xq_then_exit <| xq_in_hit <| xq_then <| xc_seq <| xc_seq <| xc_draw (canon := [(0, .p), (1, .p), (2, .p), (3, .p), (4, .p), (5, .p), (6, .x), (7, .x)]) (Z := HP _ [_]) mixed_ rfl (akp <| akp <| akp <| akp <| akp <| akp <| akx <| akx <| ak0) (zsub (.cons _ <| .cons_cons _ <| List.nil_sublist _)) ?_
          refine dp rfl rfl rfl rfl (mv rfl) <| dp rfl rfl rfl rfl (ix so_49 rfl rfl (by first | omega | (simp; done) | (simp; omega)) (by first | omega | (simp; done) | (simp; omega))) <| dp rfl rfl rfl rfl (ldc kd_52 rfl (vs := _) (fun W hW => hd_at (hA.up hW) (by simp)) rfl) <| dp rfl rfl rfl rfl (mv rfl) <| dp rfl rfl rfl rfl (vsl so_49 rfl rfl (by first | omega | (simp; done) | (simp; omega)) (by first | omega | (simp; done) | (simp; omega))) <| dp rfl rfl rfl rfl (fa fa_114_0 rfl) <| dst_ rfl rfl rfl rfl sz_52 rfl rfl rfl rfl .head rfl rfl (zsub (.cons _ <| .cons_cons _ <| List.nil_sublist _)) <| das rfl rfl rfl rfl (asg rfl) (zsub (.cons _ <| .cons_cons _ <| List.nil_sublist _)) <| dend <| xq_then <| ?_
          refine xc_region <| xp rfl (fa fa_114_2 rfl) <| xp rfl (ld kd_3 rfl .head rfl) <| xp rfl (bin rfl rfl bk_or) <| xp rfl (fa fa_114_2 rfl) <| xs (st sz_3 rfl rfl rfl rfl .head rfl rfl) <| xl_nil <| xq_then <| xc_exit <| xq_in_miss rfl <| xq_then_exit <| xq_in_hit <| xq_then <| ?_
          refine xc_region <| xp rfl (mv rfl) <| xp rfl (ld kd_114 rfl .head rfl) <| xe rfl (bs rfl bs_111_1) fun b5 _ => xe rfl (apS mo_111 rfl rfl (.tail <| .tail .head) rfl (nw .head) (by simp [Value.oneCell']) (by simp only [maxLen]; omega) (by simp at hlen; omega)) fun s4 _ => xp rfl (asg rfl) <| xl_nil <| xq_in <| xq_roundP (⟨us, [], offA (some ⟨ba, oa, none⟩) 1 5 ca, ca - 1, B, cb, out ++ [⟨x, ac0, 1⟩], s4.1, s4.2⟩) (⟨rowOf_tail hA (by simpa using hca), hB, by simp at hca ⊢; omega, hcb, by rw [← hinv, mg_one]; simp, by simp at hlen ⊢; omega⟩) (by simp only [List.length_cons]; omega) (sc rfl <| sc rfl <| sc ((by first | rfl | (simp only [List.length_append, List.length_cons, List.length_nil]; rfl))) <| sn) (fun W hW => by
          have h1 := hW.sub (.cons _ <| .cons _ <| .refl _)
          simp only [List.length_append, List.length_cons, List.length_nil, List.flatMap_append, List.flatMap_cons, List.flatMap_nil, List.append_nil]
          first | (rw [pr_one]; exact h1) | (rw [pr_two]; exact h1) | (rw [pr_both]; exact h1))
        ·
          rw [hturn] at hc10
          have hpos : ¬ ((ts.length : Int) - us.length = 0) → (¬ ((ts.length : Int) - us.length < 0 ∧ 0 < us.length)) → 0 < ts.length := fun h1 h2 => by omega
          obtain ⟨y, ts, rfl⟩ := cons_of (l := ts) (hpos (fun e => by rw [e] at hc8; cases hc8) (fun ⟨e1, e2⟩ => by rw [decide_eq_true e1, decide_eq_true (by omega)] at hc10; cases hc10))
          obtain rfl : us = [] := by cases us with | nil => rfl | cons x us => exfalso; simp at hnand
          obtain ⟨bb, ob, rfl⟩ := hB.addr (by simp)
          refine xc_skip <| xq_then <| xc_exit <| xq_in_miss rfl <| xq_then_exit <| xq_in_miss rfl <| xq_then_exit <| xq_in_hit <| xq_then <| xc_seq <| xc_seq <| xc_draw (canon := [(0, .p), (1, .p), (2, .p), (3, .p), (4, .p), (5, .p), (6, .x), (7, .x)]) (Z := HP _ [_]) mixed_ rfl (akp <| akp <| akp <| akp <| akp <| akp <| akx <| akx <| ak0) (zsub (.cons _ <| .cons_cons _ <| List.nil_sublist _)) ?_
          refine dp rfl rfl rfl rfl (mv rfl) <| dp rfl rfl rfl rfl (ix so_49 rfl rfl (by first | omega | (simp; done) | (simp; omega)) (by first | omega | (simp; done) | (simp; omega))) <| dp rfl rfl rfl rfl (ldc kd_52 rfl (vs := _) (fun W hW => hd_at (hB.up hW) (by simp)) rfl) <| dp rfl rfl rfl rfl (mv rfl) <| dp rfl rfl rfl rfl (vsl so_49 rfl rfl (by first | omega | (simp; done) | (simp; omega)) (by first | omega | (simp; done) | (simp; omega))) <| dp rfl rfl rfl rfl (fa fa_114_1 rfl) <| dst_ rfl rfl rfl rfl sz_52 rfl rfl rfl rfl .head rfl rfl (zsub (.cons _ <| .cons_cons _ <| List.nil_sublist _)) <| das rfl rfl rfl rfl (asg rfl) (zsub (.cons _ <| .cons_cons _ <| List.nil_sublist _)) <| dend <| xq_then <| ?_
          refine xc_region <| xp rfl (fa fa_114_2 rfl) <| xs (st sz_3 rfl rfl rfl rfl .head rfl rfl) <| xl_nil <| xq_then <| xc_exit <| xq_in_hit <| xq_then <| ?_
          refine xc_region <| xp rfl (mv rfl) <| xp rfl (ld kd_114 rfl .head rfl) <| xe rfl (bs rfl bs_111_1) fun b6 _ => xe rfl (apS mo_111 rfl rfl (.tail <| .tail .head) rfl (nw .head) (by simp [Value.oneCell']) (by simp only [maxLen]; omega) (by simp at hlen; omega)) fun s5 _ => xp rfl (asg rfl) <| xl_nil <| xq_in <| xq_roundP (⟨[], ts, A, ca, offA (some ⟨bb, ob, none⟩) 1 5 cb, cb - 1, out ++ [⟨ac0, y, 2⟩], s5.1, s5.2⟩) (⟨hA, rowOf_tail hB (by simpa using hcb), hca, by simp at hcb ⊢; omega, by rw [← hinv, mg_two]; simp, by simp at hlen ⊢; omega⟩) (by simp only [List.length_cons]; omega) (sc rfl <| sc rfl <| sc ((by first | rfl | (simp only [List.length_append, List.length_cons, List.length_nil]; rfl))) <| sn) (fun W hW => by
          have h1 := hW.sub (.cons _ <| .cons _ <| .refl _)
          simp only [List.length_append, List.length_cons, List.length_nil, List.flatMap_append, List.flatMap_cons, List.flatMap_nil, List.append_nil]
          first | (rw [pr_one]; exact h1) | (rw [pr_two]; exact h1) | (rw [pr_both]; exact h1))
  ·
    obtain ⟨rfl, rfl⟩ : us = [] ∧ ts = [] := by constructor <;> (apply List.eq_nil_of_length_eq_zero; simp at hc2; simp [hc2])
    have hfin : mergeF l m = out := by rw [← hinv, mergeF]; simp
    rw [hfin]
    refine xc_exit <| xq_then_exit <| xq_then_exit <| xq_in_hit <| xq_then <| xc_seq <| xc_region <| xp rfl (mv rfl) <| xp rfl (asg rfl) <| xl_nil <| xq_then <| xc_ret <| leave1 (.inl rfl) rfl (.tmp rfl) fun W hW => (⟨(O, oc), rfl, trivial, hW⟩)

end Go.Eng
end
section
namespace Go.Eng
open Go Go.RowKit Go.Proofs
set_option linter.unusedVariables false
set_option linter.unusedSimpArgs false
set_option maxRecDepth 4000
theorem ownR_cap {e k n c : Nat} {A : Option Addr} {xs : List Value} {W : World} (h : (ownR e k (.slice A n c) n xs).ok W) : n ≤ c := by
  rcases h.2 with ⟨e, h0⟩ | ⟨g, cap, cur, e, _, _, h1, _⟩
  · omega
  · cases e; exact h1
abbrev chC (p : Pr) : List Value := [.string (prId p), .int .u8 (prWhat p), hiV p.a.bal, loV p.a.bal, hiV p.b.bal, loV p.b.bal]
abbrev idC (p : Pr) : List Value := [.string (prId p)]
def pr0 : Pr := ⟨ac0, ac0, 0⟩
theorem pr_at {W : World} {b off : Nat} {l : List Pr} (h : rowOf W 11 Pr.c (some ⟨b, off, none⟩) l) {k : Nat} (hk : k < l.length) {o : Nat} (ho : o = off + k * 11) : Cells W b o (Pr.c (l.getD k pr0)) := by
  have e : l.getD k pr0 = l[k] := by simp [List.getD_eq_getElem?_getD, hk]
  rw [e, ho]; exact h.cells_at prK k hk
theorem mergeF_len : ∀ (A B : List Ac), (mergeF A B).length ≤ A.length + B.length
  | [], [] => by rw [mergeF]; simp
  | a :: xs, [] => by rw [mergeF]; have := mergeF_len xs []; simp at this ⊢; omega
  | [], b :: ys => by rw [mergeF]; have := mergeF_len [] ys; simp at this ⊢; omega
  | a :: xs, b :: ys => by
    rw [mergeF]
    split
    · have := mergeF_len xs (b :: ys); simp at this ⊢; omega
    · split
      · have := mergeF_len (a :: xs) ys; simp at this ⊢; omega
      · have := mergeF_len xs ys; simp at this ⊢; omega
  termination_by A B => A.length + B.length
theorem filt_step {α : Type} {l : List α} {k : Nat} (hk : k < l.length) (d : α) (p : α → Bool) : (l.take (k + 1)).filter p = (l.take k).filter p ++ (if p (l.getD k d) = true then [l.getD k d] else []) := by
  rw [take_step hk d, List.filter_append, List.filter_cons]
  cases p (l.getD k d) <;> simp
theorem filt_len {α : Type} (l : List α) (k : Nat) (p : α → Bool) : ((l.take k).filter p).length ≤ l.length := Nat.le_trans (List.length_filter_le _ _) (by rw [List.length_take]; omega)
def newsB (p : Pr) : Bool := prWhat p != 4
theorem newsF_eq (A B : List Ac) : newsF A B = (mergeF A B).filter newsB := rfl

theorem news_ok {w : World} {sa sb h h2 : Nat} {cfg cfg2 : Cfg} {l m : List Ac} {ra rb : Nd} (hS : SnapAt w sa cfg l ra h) (hT : SnapAt w sb cfg2 m rb h2) (hl : l.length + m.length ≤ 100000) :
  Ret Tryz.prog 15 [.pointer (some ⟨sa, 0, none⟩), .pointer (some ⟨sb, 0, none⟩)] w (fun s : Option Addr × Nat => .slice s.1 (newsF l m).length s.2) (fun _ => True) (fun s => [ownR 42 6 (.slice s.1 (newsF l m).length s.2) (newsF l m).length ((newsF l m).flatMap chC)]) := by
  have hml := mergeF_len l m
  refine begin_ Tryz.func15 rfl rfl rfl ?_
  -- REG 1 res []
  refine xc_seq <| xc_region <| xp rfl (asg rfl) <| xl_nil <| xq_then <| ?_
  -- REG 2 res []
  refine xc_seq <| xc_region <| xp rfl (asg rfl) <| xl_nil <| xq_then <| ?_
  -- REG 3 res []
  refine xc_seq <| xc_seq <| xc_region <| xp rfl (mv rfl) <| xr rfl Tryz.call20 rfl rfl (fun W hW => (accs_ok (hS.below (Go.Eng.HP.below hW)) (by omega))) fun la _ => xp rfl (mv rfl) <| xr rfl Tryz.call20 rfl rfl (fun W hW => (accs_ok (hT.below (Go.Eng.HP.below hW)) (by omega))) fun lb _ => xr rfl Tryz.call48 rfl rfl (fun W hW => (merge_ok (ownR_rowOf (hW.mem_ok (.tail .head))) (ownR_rowOf (hW.mem_ok .head)) (ownR_cap (hW.mem_ok (.tail .head))) (ownR_cap (hW.mem_ok .head)) hl)) fun mr _ => xp rfl (lenv Tryz.underlying111 rfl) <| xp rfl (mv rfl) <| xl_nil <| xq_then <| xc_block <| xc_loopP (σ := Nat × Option Addr × Nat) (fun q => [(5, .slice q.2.1 (((mergeF l m).take q.1).filter newsB).length q.2.2), (15, .int .i64 q.1), (13, _), (14, _)]) (fun q => q.1 ≤ (mergeF l m).length) (fun q => HP w (ownR 42 6 (.slice q.2.1 (((mergeF l m).take q.1).filter newsB).length q.2.2) (((mergeF l m).take q.1).filter newsB).length ((((mergeF l m).take q.1).filter newsB).flatMap chC) :: [ownR 114 11 (.slice mr.1 (mergeF l m).length mr.2) (mergeF l m).length ((mergeF l m).flatMap Pr.c)])) (fun q => (mergeF l m).length - q.1) (0, none, 0) (Nat.zero_le _) (sc rfl <| sc rfl <| sc rfl <| sc rfl <| sn) (fun W hW => ownR_nil _ _ _ _ (hW.sub (.cons_cons _ <| List.nil_sublist _))) fun q hk => ?_
  obtain ⟨k, O, oc⟩ := q
  simp only at hk
  dsimp only
  have hfl := filt_len (mergeF l m) k newsB
  -- REG 4 res ['out', 'mrg']
  refine xc_seq <| xc_region <| xp rfl (bin rfl rfl bk_lss) <| xl_nil <| xq_then <| xc_seq <| xc_cond rfl (fun hc1 => ?_) (fun hc1 => ?_)
  ·
    have hk1 : k < (mergeF l m).length := by have h := of_decide_eq_true hc1; omega
    have hstep := filt_step hk1 pr0 newsB
    refine xc_skip <| xq_then <| xc_seq <| xc_block <| xc_seq <| xc_row (.tail .head) (by omega) fun mb hmb hmc => ?_
    obtain ⟨m1, m2⟩ := mr
    simp only at hmb
    subst hmb
    dsimp only
    -- REG 5 res ['out', 'mrg']
    refine xc_region <| xp rfl (ix so_111 rfl rfl (by omega) (by omega)) <| xp rfl (ldc kd_114 rfl (vs := _) (fun W hW => pr_at (ownR_rowOf (hW.mem_ok (.tail .head))) hk1 (by simp)) rfl) <| xe rfl (al zo_114) fun b1 _ => xs (st sz_114 rfl rfl rfl rfl .head rfl rfl) <| xl_nil <| xq_then <| ?_
    -- REG 6 res ['b1', 'out', 'mrg']
    refine xc_seq <| xc_region <| xp rfl (ld kd_114 rfl .head rfl) <| xv rfl Tryz.call49 rfl rfl (fun W hW => (prwhat_ok ((mergeF l m).getD k pr0) W)) <| xp rfl (asg rfl) <| xl_nil <| xq_then <| ?_
    -- REG 7 res ['b1', 'out', 'mrg']
    refine xc_seq <| xc_region <| xp rfl (mv rfl) <| xp rfl (bin rfl rfl bk_neq) <| xl_nil <| xq_then <| xc_cond rfl (fun hc2 => ?_) (fun hc2 => ?_)
    ·
      have hstep2 := hstep
      rw [if_pos (show newsB _ = true from hc2)] at hstep2
      -- REG 8 res ['b1', 'out', 'mrg']
      refine xc_draw (canon := [(0, .p), (1, .p), (3, .p), (4, .p), (5, .p), (6, .p), (7, .p), (8, .p), (9, .p), (2, .x), (10, .p), (11, .x), (12, .x), (13, .x)]) (Z := HP _ [cellR b1 _ _, _]) mixed_ rfl (akp <| akp <| akp <| akp <| akp <| akp <| akp <| akp <| akp <| akx <| akp <| akx <| akx <| akx <| ak0) (zsub (.cons_cons _ <| .cons _ <| .cons_cons _ <| List.nil_sublist _)) ?_
      refine dp rfl rfl rfl rfl (mv rfl) <| dp rfl rfl rfl rfl (ld kd_114 rfl .head rfl) <| dp rfl rfl rfl rfl (mv rfl) <| dp rfl rfl rfl rfl (fa fa_114_0 rfl) <| dp rfl rfl rfl rfl (fa fa_52_1 rfl) <| dp rfl rfl rfl rfl (ld kd_35 rfl .head rfl) <| dp rfl rfl rfl rfl (fa fa_114_1 rfl) <| dp rfl rfl rfl rfl (fa fa_52_1 rfl) <| dp rfl rfl rfl rfl (ld kd_35 rfl .head rfl) <| dv rfl rfl rfl (.inl rfl) rfl Tryz.call50 rfl rfl (fun W hW => (prid_ok ((mergeF l m).getD k pr0) W)) (zsub (.cons_cons _ <| .cons _ <| .cons_cons _ <| List.nil_sublist _)) <| dp rfl rfl rfl rfl (bd rfl bd_42_0_1_2_3) <| de rfl rfl rfl (.inl rfl) (L' := fun b2 => _ :: _) (fun Fr => bs rfl bs_39_1) (fun _ => (zsub (.cons _ <| .cons_cons _ <| .cons _ <| .cons_cons _ <| List.nil_sublist _))) fun b2 _ => dap rfl rfl rfl rfl rfl mo_39 rfl rfl (.tail <| .tail .head) rfl (nwF .head) (by simp [Value.oneCell']) (by simp only [maxLen]; omega) (by omega) (fun _ => (zsub (.cons _ <| .cons_cons _ <| .cons _ <| .cons_cons _ <| List.nil_sublist _))) fun s1 _ => das rfl rfl rfl rfl (asg rfl) (zsub (.cons _ <| .cons_cons _ <| .cons _ <| .cons_cons _ <| List.nil_sublist _)) <| dend <| xq_in <| xq_then <| ?_
      -- REG 9 res ['b2', 'b1', 'out', 'mrg']
      refine xc_region <| xp rfl (bin rfl rfl bk_add) <| xp rfl (mv rfl) <| xl_nil <| xq_roundP (k + 1, s1.1, s1.2) hk1 (by simp only; omega) (sc ((by first | rfl | (simp only [hstep2, List.length_append, List.length_cons, List.length_nil]; rfl))) <| sc (iw (by omega) (by omega) (by omega) rfl) <| sc rfl <| sc rfl <| sn) (fun W hW => by
          have h1 := hW.sub (.cons _ <| .cons _ <| .refl _)
          dsimp only
          rw [hstep2]
          simp only [List.length_append, List.length_cons, List.length_nil, List.flatMap_append, List.flatMap_cons, List.flatMap_nil, List.append_nil]
          exact h1)
    ·
      have hstep2 := hstep
      rw [if_neg (show ¬ newsB _ = true by rw [show newsB ((mergeF l m).getD k pr0) = false from hc2]; decide), List.append_nil] at hstep2
      -- REG 10 res ['b1', 'out', 'mrg']
      refine xc_skip <| xq_in <| xq_then <| xc_region <| xp rfl (bin rfl rfl bk_add) <| xp rfl (mv rfl) <| xl_nil <| xq_roundP (k + 1, O, oc) hk1 (by simp only; omega) (sc ((by first | rfl | (simp only [hstep2, List.length_append, List.length_cons, List.length_nil]; rfl))) <| sc (iw (by omega) (by omega) (by omega) rfl) <| sc rfl <| sc rfl <| sn) (fun W hW => by
          have h1 := hW.sub (.cons _ <| .refl _)
          dsimp only
          rw [hstep2]
          exact h1)
  ·
    obtain rfl : k = (mergeF l m).length := by have h := of_decide_eq_false hc1; omega
    rw [List.take_length]
    -- REG 11 res ['out', 'mrg']
    refine xc_exit <| xq_then_exit <| xq_then_exit <| xq_in_hit <| xq_then <| xc_seq <| xc_region <| xp rfl (mv rfl) <| xp rfl (asg rfl) <| xl_nil <| xq_then <| xc_ret <| leave1 (.inl rfl) rfl (.tmp rfl) fun W hW => (⟨(O, oc), rfl, trivial, hW.sub (.cons_cons _ <| List.nil_sublist _)⟩)

theorem movedB_eq (p : Pr) : movedB p = (p.there == 3 && ((p.a.slot : Int) != (p.b.slot : Int))) := by
  simp only [movedB]
  congr 1
  rw [Bool.eq_iff_iff]; simp; omega

theorem moved_ok {w : World} {sa sb h h2 : Nat} {cfg cfg2 : Cfg} {l m : List Ac} {ra rb : Nd} (hS : SnapAt w sa cfg l ra h) (hT : SnapAt w sb cfg2 m rb h2) (hl : l.length + m.length ≤ 100000) :
  Ret Tryz.prog 16 [.pointer (some ⟨sa, 0, none⟩), .pointer (some ⟨sb, 0, none⟩)] w (fun s : Option Addr × Nat => .slice s.1 (movedF l m).length s.2) (fun _ => True) (fun s => [ownR 9 1 (.slice s.1 (movedF l m).length s.2) (movedF l m).length ((movedF l m).flatMap idC)]) := by
  have hml := mergeF_len l m
  refine begin_ Tryz.func16 rfl rfl rfl ?_
  -- REG 1 res []
  refine xc_seq <| xc_region <| xp rfl (asg rfl) <| xl_nil <| xq_then <| ?_
  -- REG 2 res []
  refine xc_seq <| xc_region <| xp rfl (asg rfl) <| xl_nil <| xq_then <| ?_
  -- REG 3 res []
  refine xc_seq <| xc_seq <| xc_region <| xp rfl (mv rfl) <| xr rfl Tryz.call20 rfl rfl (fun W hW => (accs_ok (hS.below (Go.Eng.HP.below hW)) (by omega))) fun la _ => xp rfl (mv rfl) <| xr rfl Tryz.call20 rfl rfl (fun W hW => (accs_ok (hT.below (Go.Eng.HP.below hW)) (by omega))) fun lb _ => xr rfl Tryz.call48 rfl rfl (fun W hW => (merge_ok (ownR_rowOf (hW.mem_ok (.tail .head))) (ownR_rowOf (hW.mem_ok .head)) (ownR_cap (hW.mem_ok (.tail .head))) (ownR_cap (hW.mem_ok .head)) hl)) fun mr _ => xp rfl (lenv Tryz.underlying111 rfl) <| xp rfl (mv rfl) <| xl_nil <| xq_then <| xc_block <| xc_loopP (σ := Nat × Option Addr × Nat) (fun q => [(5, .slice q.2.1 (((mergeF l m).take q.1).filter movedB).length q.2.2), (14, .int .i64 q.1), (12, _), (13, _)]) (fun q => q.1 ≤ (mergeF l m).length) (fun q => HP w (ownR 9 1 (.slice q.2.1 (((mergeF l m).take q.1).filter movedB).length q.2.2) (((mergeF l m).take q.1).filter movedB).length ((((mergeF l m).take q.1).filter movedB).flatMap idC) :: [ownR 114 11 (.slice mr.1 (mergeF l m).length mr.2) (mergeF l m).length ((mergeF l m).flatMap Pr.c)])) (fun q => (mergeF l m).length - q.1) (0, none, 0) (Nat.zero_le _) (sc rfl <| sc rfl <| sc rfl <| sc rfl <| sn) (fun W hW => ownR_nil _ _ _ _ (hW.sub (.cons_cons _ <| List.nil_sublist _))) fun q hk => ?_
  obtain ⟨k, O, oc⟩ := q
  simp only at hk
  dsimp only
  have hfl := filt_len (mergeF l m) k movedB
  -- REG 4 res ['out', 'mrg']
  refine xc_seq <| xc_region <| xp rfl (bin rfl rfl bk_lss) <| xl_nil <| xq_then <| xc_seq <| xc_cond rfl (fun hc1 => ?_) (fun hc1 => ?_)
  ·
    have hk1 : k < (mergeF l m).length := by have h := of_decide_eq_true hc1; omega
    have hstep := filt_step hk1 pr0 movedB
    refine xc_skip <| xq_then <| xc_seq <| xc_block <| xc_seq <| xc_row (.tail .head) (by omega) fun mb hmb hmc => ?_
    obtain ⟨m1, m2⟩ := mr
    simp only at hmb
    subst hmb
    dsimp only
    -- REG 5 res ['out', 'mrg']
    refine xc_region <| xp rfl (ix so_111 rfl rfl (by omega) (by omega)) <| xp rfl (ldc kd_114 rfl (vs := _) (fun W hW => pr_at (ownR_rowOf (hW.mem_ok (.tail .head))) hk1 (by simp)) rfl) <| xe rfl (al zo_114) fun b1 _ => xs (st sz_114 rfl rfl rfl rfl .head rfl rfl) <| xl_nil <| xq_then <| ?_
    -- REG 6 res ['b1', 'out', 'mrg']
    refine xc_seq <| xc_region <| xp rfl (fa fa_114_2 rfl) <| xp rfl (ld kd_3 rfl .head rfl) <| xp rfl (bin rfl rfl bk_eql) <| xp rfl (mv rfl) <| xl_and 8 29 (fun hg2 => xgT rfl rfl rfl hg2 <| xp rfl (fa fa_114_0 rfl) <| xgT rfl rfl rfl hg2 <| xp rfl (fa fa_52_3 rfl) <| xgT rfl rfl rfl hg2 <| xp rfl (ld kd_33 rfl .head rfl) <| xgT rfl rfl rfl hg2 <| xp rfl (fa fa_114_1 rfl) <| xgT rfl rfl rfl hg2 <| xp rfl (fa fa_52_3 rfl) <| xgT rfl rfl rfl hg2 <| xp rfl (ld kd_33 rfl .head rfl) <| xgT rfl rfl rfl hg2 <| xp rfl (bin rfl rfl bk_neq) <| xp rfl (pickT rfl hg2 rfl) <| xl_nil <| xq_and_yes hg2 (.kc rfl <| .kc rfl <| .kc rfl <| .kc rfl <| .kc rfl <| .kc rfl <| .kc rfl .kn) (fun _ h => h)) (fun hg2 => xgF rfl rfl rfl hg2 <| xgF rfl rfl rfl hg2 <| xgF rfl rfl rfl hg2 <| xgF rfl rfl rfl hg2 <| xgF rfl rfl rfl hg2 <| xgF rfl rfl rfl hg2 <| xgF rfl rfl rfl hg2 <| xp rfl (pickF rfl hg2 rfl) <| xl_nil <| xq_and_no hg2 (.kc rfl <| .kc rfl <| .kc rfl <| .kc rfl <| .kc rfl <| .kc rfl <| .kc rfl .kn) (fun _ h => h)) <| xl_nil <| xq_then <| xc_cond rfl (fun hc3 => ?_) (fun hc3 => ?_)
    ·
      have hstep2 := hstep
      rw [if_pos ((movedB_eq ((mergeF l m).getD k pr0)).trans hc3)] at hstep2
      -- REG 7 res ['b1', 'out', 'mrg']
      refine xc_region <| xp rfl (mv rfl) <| xp rfl (ld kd_114 rfl .head rfl) <| xv rfl Tryz.call50 rfl rfl (fun W hW => (prid_ok ((mergeF l m).getD k pr0) W)) <| xe rfl (bs rfl bs_26_1) fun b2 _ => xe rfl (apS mo_26 rfl rfl (.tail <| .tail .head) rfl (nw .head) (by simp [Value.oneCell']) (by simp only [maxLen]; omega) (by omega)) fun s1 _ => xp rfl (asg rfl) <| xl_nil <| xq_in <| xq_then <| ?_
      -- REG 8 res ['b2', 'b1', 'out', 'mrg']
      refine xc_region <| xp rfl (bin rfl rfl bk_add) <| xp rfl (mv rfl) <| xl_nil <| xq_roundP (k + 1, s1.1, s1.2) hk1 (by simp only; omega) (sc ((by first | rfl | (simp only [hstep2, List.length_append, List.length_cons, List.length_nil]; rfl))) <| sc (iw (by omega) (by omega) (by omega) rfl) <| sc rfl <| sc rfl <| sn) (fun W hW => by
          have h1 := hW.sub (.cons _ <| .cons _ <| .refl _)
          dsimp only
          rw [hstep2]
          simp only [List.length_append, List.length_cons, List.length_nil, List.flatMap_append, List.flatMap_cons, List.flatMap_nil, List.append_nil]
          exact h1)
    ·
      have hstep2 := hstep
      rw [if_neg (by rw [(movedB_eq ((mergeF l m).getD k pr0)).trans hc3]; decide), List.append_nil] at hstep2
      -- REG 9 res ['b1', 'out', 'mrg']
      refine xc_skip <| xq_in <| xq_then <| xc_region <| xp rfl (bin rfl rfl bk_add) <| xp rfl (mv rfl) <| xl_nil <| xq_roundP (k + 1, O, oc) hk1 (by simp only; omega) (sc ((by first | rfl | (simp only [hstep2, List.length_append, List.length_cons, List.length_nil]; rfl))) <| sc (iw (by omega) (by omega) (by omega) rfl) <| sc rfl <| sc rfl <| sn) (fun W hW => by
          have h1 := hW.sub (.cons _ <| .refl _)
          dsimp only
          rw [hstep2]
          exact h1)
  ·
    obtain rfl : k = (mergeF l m).length := by have h := of_decide_eq_false hc1; omega
    rw [List.take_length]
    -- REG 10 res ['out', 'mrg']
    refine xc_exit <| xq_then_exit <| xq_then_exit <| xq_in_hit <| xq_then <| xc_seq <| xc_region <| xp rfl (mv rfl) <| xp rfl (asg rfl) <| xl_nil <| xq_then <| xc_ret <| leave1 (.inl rfl) rfl (.tmp rfl) fun W hW => (⟨(O, oc), rfl, trivial, hW.sub (.cons_cons _ <| List.nil_sublist _)⟩)

def ofP (l m : List Ac) (id : ByteArray) : Nat → Pr
  | 0 => pr0
  | 1 => ⟨findF l id, ac0, bif hasF l id then 1 else 0⟩
  | _ => ⟨findF l id, findF m id, (bif hasF l id then 1 else 0) + (bif hasF m id then 2 else 0)⟩
theorem find_no {l : List Ac} {id : ByteArray} (h : hasF l id = false) : findF l id = ac0 := by
  simp only [hasF, findF] at *
  cases h2 : l.find? (isId id) with
  | none => rfl
  | some a => rw [h2] at h; cases h

theorem pr0_c (l m : List Ac) (id : ByteArray) : Pr.c (ofP l m id 0) = [.string ByteArray.empty, .int .u64 0, .int .u64 0, .string ByteArray.empty, .int .u64 0, .string ByteArray.empty, .int .u64 0, .int .u64 0, .string ByteArray.empty, .int .u64 0, .int .i64 0] := by
  simp [ofP, pr0, ac0, noneText]
theorem of_no0 {l m : List Ac} {id : ByteArray} (e : hasF l id = false) : ofP l m id 1 = ofP l m id 0 := by simp [ofP, e, find_no e, pr0]
theorem of_no1 {l m : List Ac} {id : ByteArray} (e : hasF m id = false) : ofP l m id 2 = ofP l m id 1 := by simp [ofP, e, find_no e]
theorem of_yes0 {l m : List Ac} {id : ByteArray} (e : hasF l id = true) : Pr.c (ofP l m id 1) = splice (splice (Pr.c (ofP l m id 0)) 10 [.int .i64 (bitop BinOp.or IntKind.i64 (ofP l m id 0).there (IntKind.i64.wrap (1 * 2 ^ (min ((0 : Nat) : Int).toNat IntKind.i64.bits))))]) 0 (Ac.c (findF l id)) := by
  rw [show bitop BinOp.or IntKind.i64 (ofP l m id 0).there (IntKind.i64.wrap (1 * 2 ^ (min ((0 : Nat) : Int).toNat IntKind.i64.bits))) = 1 from (by decide : bitop BinOp.or IntKind.i64 0 (IntKind.i64.wrap (1 * 2 ^ (min ((0 : Nat) : Int).toNat IntKind.i64.bits))) = 1)]
  simp [ofP, e, pr0, splice]
theorem of_yes1 {l m : List Ac} {id : ByteArray} (e : hasF m id = true) : Pr.c (ofP l m id 2) = splice (splice (Pr.c (ofP l m id 1)) 10 [.int .i64 (bitop BinOp.or IntKind.i64 (ofP l m id 1).there (IntKind.i64.wrap (1 * 2 ^ (min ((1 : Nat) : Int).toNat IntKind.i64.bits))))]) 5 (Ac.c (findF m id)) := by
  cases h : hasF l id with
  | false =>
    rw [show bitop BinOp.or IntKind.i64 (ofP l m id 1).there (IntKind.i64.wrap (1 * 2 ^ (min ((1 : Nat) : Int).toNat IntKind.i64.bits))) = 2 from (by simp only [ofP, h, cond_false]; decide)]
    simp [ofP, e, h, splice]
  | true =>
    rw [show bitop BinOp.or IntKind.i64 (ofP l m id 1).there (IntKind.i64.wrap (1 * 2 ^ (min ((1 : Nat) : Int).toNat IntKind.i64.bits))) = 3 from (by simp only [ofP, h, cond_true]; decide)]
    simp [ofP, e, h, splice]

theorem uof_ok {w : World} {sa sb h h2 : Nat} {cfg cfg2 : Cfg} {l m : List Ac} {ra rb : Nd} {id : ByteArray} (hS : SnapAt w sa cfg l ra h) (hT : SnapAt w sb cfg2 m rb h2) (ha : Asc Ac.id l) (hb : Asc Ac.id m) (hl : l.length ≤ 100000) (hm : m.length ≤ 100000) :
  RetV Tryz.prog 18 [.pointer (some ⟨sa, 0, none⟩), .pointer (some ⟨sb, 0, none⟩), .string id] w (.int .u8 (prWhat (ofP l m id 2))) := by
  refine begin_ Tryz.func18 rfl rfl rfl ?_
  refine xc_seq <| xc_region <| xp rfl (asg rfl) <| xl_nil <| xq_then <| ?_
  refine xc_seq <| xc_region <| xe rfl (al zo_114) fun b1 _ => xl_nil <| xq_then <| ?_
  refine xc_seq <| xc_seq <| xc_region <| xp rfl (mv rfl) <| xp rfl (mv rfl) <| xp rfl (bd rfl bd_117_0_1) <| xp rfl (mv rfl) <| xl_nil <| xq_then <| xc_block <| xc_loopP (σ := Nat) (fun k => [(15, .int .i64 k), (2, _), (7, _), (14, _)]) (fun k => k ≤ 2) (fun k => HP w [cellR b1 114 (Pr.c (ofP l m id k))]) (fun k => 2 - k) 0 (by omega) (sc rfl <| sc rfl <| sc rfl <| sc rfl <| sn) (fun W hW => by rw [pr0_c]; exact hW) fun k hk => ?_
  refine xc_seq <| xc_region <| xp rfl (bin rfl rfl bk_lss) <| xl_nil <| xq_then <| xc_seq <| xc_cond rfl (fun hc1 => ?_) (fun hc1 => ?_)
  ·
    obtain rfl | rfl : k = 0 ∨ k = 1 := by have h := of_decide_eq_true hc1; omega
    ·
      refine xc_skip <| xq_then <| xc_seq <| xc_block <| xc_seq <| xc_region <| xp rfl (mv rfl) <| xp rfl (ixv Tryz.underlying117 Tryz.isAgg27 Tryz.sizeOf27 rfl rfl (by decide) (by decide) rfl) <| xp rfl (asg rfl) <| xp rfl (asg rfl) <| xl_nil <| xq_then <| ?_
      refine xc_seq <| xc_region <| xp rfl (mv rfl) <| xp rfl (mv rfl) <| xv rfl Tryz.call31 rfl rfl (fun W hW => (sfind_ok (hS.below (Go.Eng.HP.below hW)) ha hl)) <| xp rfl (mv rfl) <| xp rfl (ext rfl rfl) <| xp rfl (ext rfl rfl) <| xe rfl (al zo_52) fun b2 _ => xs (st sz_52 rfl rfl rfl rfl .head rfl rfl) <| xp rfl (asg rfl) <| xl_nil <| xq_then <| ?_
      refine xc_seq <| xc_seq <| xc_region <| xp rfl (mv rfl) <| xp rfl (un rfl uk_not) <| xl_nil <| xq_then <| xc_cond rfl (fun hc2 => ?_) (fun hc2 => ?_)
      ·
        have e1 : hasF l id = false := by simpa using hc2
        have e2 := find_no e1
        refine xc_exit <| xq_then_exit <| xq_in_hit <| xq_then <| xc_region <| xp rfl (bin rfl rfl bk_add) <| xp rfl (mv rfl) <| xl_nil <| xq_roundP 1 (by omega) (by omega) (sc (by first | exact rfl | exact iw (by omega) (by omega) (by omega) rfl) <| sc rfl <| sc rfl <| sc rfl <| sn) (fun W hW => by rw [of_no0 e1]; exact hW.drop)
      ·
        have e1 : hasF l id = true := by simpa using hc2
        refine xc_skip <| xq_then <| xc_seq <| xc_draw (canon := [(0, .p), (2, .p), (3, .p), (1, .x), (4, .p), (5, .p), (6, .x)]) (Z := HP _ [cellR b2 _ _]) mixed_ rfl (akp <| akp <| akp <| akx <| akp <| akp <| akx <| ak0) (zsub (.cons_cons _ <| .cons _ <| List.nil_sublist _)) ?_
        refine dp rfl rfl rfl rfl (fa fa_114_2 rfl) <| dp rfl rfl rfl rfl (mv rfl) <| dp rfl rfl rfl rfl (bin rfl rfl (bk_shl (by decide))) <| das rfl rfl rfl rfl (ld kd_3 rfl (.tail .head) rfl) (zsub (.cons_cons _ <| .cons _ <| List.nil_sublist _)) <| dp rfl rfl rfl rfl (bin rfl rfl bk_or) <| dp rfl rfl rfl rfl (fa fa_114_2 rfl) <| dst_ rfl rfl rfl rfl sz_3 rfl rfl rfl rfl (.tail .head) rfl rfl (zsub (.cons_cons _ <| .cons _ <| List.nil_sublist _)) <| dend <| xq_then <| ?_
        refine xc_seq <| xc_region <| xp rfl (mv rfl) <| xp rfl (bin rfl rfl bk_eql) <| xl_nil <| xq_then <| xc_cond rfl (fun hc3 => ?_) (fun hc3 => ?_)
        ·
          refine xc_region <| xp rfl (ld kd_52 rfl .head rfl) <| xp rfl (fa fa_114_0 rfl) <| xs (st sz_52 rfl rfl rfl rfl (.tail .head) rfl rfl) <| xl_nil <| xq_in <| xq_then <| ?_
          refine xc_region <| xp rfl (bin rfl rfl bk_add) <| xp rfl (mv rfl) <| xl_nil <| xq_roundP 1 (by omega) (by omega) (sc (by first | exact rfl | exact iw (by omega) (by omega) (by omega) rfl) <| sc rfl <| sc rfl <| sc rfl <| sn) (fun W hW => by rw [of_yes0 e1]; exact hW.drop)
        ·
          exact absurd hc3 (by decide)
    ·
      refine xc_skip <| xq_then <| xc_seq <| xc_block <| xc_seq <| xc_region <| xp rfl (mv rfl) <| xp rfl (ixv Tryz.underlying117 Tryz.isAgg27 Tryz.sizeOf27 rfl rfl (by decide) (by decide) rfl) <| xp rfl (asg rfl) <| xp rfl (asg rfl) <| xl_nil <| xq_then <| ?_
      refine xc_seq <| xc_region <| xp rfl (mv rfl) <| xp rfl (mv rfl) <| xv rfl Tryz.call31 rfl rfl (fun W hW => (sfind_ok (hT.below (Go.Eng.HP.below hW)) hb hm)) <| xp rfl (mv rfl) <| xp rfl (ext rfl rfl) <| xp rfl (ext rfl rfl) <| xe rfl (al zo_52) fun b3 _ => xs (st sz_52 rfl rfl rfl rfl .head rfl rfl) <| xp rfl (asg rfl) <| xl_nil <| xq_then <| ?_
      refine xc_seq <| xc_seq <| xc_region <| xp rfl (mv rfl) <| xp rfl (un rfl uk_not) <| xl_nil <| xq_then <| xc_cond rfl (fun hc4 => ?_) (fun hc4 => ?_)
      ·
        have e1 : hasF m id = false := by simpa using hc4
        have e2 := find_no e1
        refine xc_exit <| xq_then_exit <| xq_in_hit <| xq_then <| xc_region <| xp rfl (bin rfl rfl bk_add) <| xp rfl (mv rfl) <| xl_nil <| xq_roundP 2 (by omega) (by omega) (sc (by first | exact rfl | exact iw (by omega) (by omega) (by omega) rfl) <| sc rfl <| sc rfl <| sc rfl <| sn) (fun W hW => by rw [of_no1 e1]; exact hW.drop)
      ·
        have e1 : hasF m id = true := by simpa using hc4
        refine xc_skip <| xq_then <| xc_seq <| xc_draw (canon := [(0, .p), (2, .p), (3, .p), (1, .x), (4, .p), (5, .p), (6, .x)]) (Z := HP _ [cellR b3 _ _]) mixed_ rfl (akp <| akp <| akp <| akx <| akp <| akp <| akx <| ak0) (zsub (.cons_cons _ <| .cons _ <| List.nil_sublist _)) ?_
        refine dp rfl rfl rfl rfl (fa fa_114_2 rfl) <| dp rfl rfl rfl rfl (mv rfl) <| dp rfl rfl rfl rfl (bin rfl rfl (bk_shl (by decide))) <| das rfl rfl rfl rfl (ld kd_3 rfl (.tail .head) rfl) (zsub (.cons_cons _ <| .cons _ <| List.nil_sublist _)) <| dp rfl rfl rfl rfl (bin rfl rfl bk_or) <| dp rfl rfl rfl rfl (fa fa_114_2 rfl) <| dst_ rfl rfl rfl rfl sz_3 rfl rfl rfl rfl (.tail .head) rfl rfl (zsub (.cons_cons _ <| .cons _ <| List.nil_sublist _)) <| dend <| xq_then <| ?_
        refine xc_seq <| xc_region <| xp rfl (mv rfl) <| xp rfl (bin rfl rfl bk_eql) <| xl_nil <| xq_then <| xc_cond rfl (fun hc5 => ?_) (fun hc5 => ?_)
        ·
          exact absurd hc5 (by decide)
        ·
          refine xc_region <| xp rfl (ld kd_52 rfl .head rfl) <| xp rfl (fa fa_114_1 rfl) <| xs (st sz_52 rfl rfl rfl rfl (.tail .head) rfl rfl) <| xl_nil <| xq_in <| xq_then <| ?_
          refine xc_region <| xp rfl (bin rfl rfl bk_add) <| xp rfl (mv rfl) <| xl_nil <| xq_roundP 2 (by omega) (by omega) (sc (by first | exact rfl | exact iw (by omega) (by omega) (by omega) rfl) <| sc rfl <| sc rfl <| sc rfl <| sn) (fun W hW => by rw [of_yes1 e1]; exact hW.drop)
  ·
    obtain rfl : k = 2 := by have h := of_decide_eq_false hc1; omega
    refine xc_exit <| xq_then_exit <| xq_then_exit <| xq_in_hit <| xq_then <| xc_seq <| xc_region <| xp rfl (ld kd_114 rfl .head rfl) <| xv rfl Tryz.call49 rfl rfl (fun W hW => (prwhat_ok (ofP l m id 2) W)) <| xp rfl (asg rfl) <| xl_nil <| xq_then <| xc_ret <| leave1 (.inl rfl) rfl (.tmp rfl) fun W hW => (⟨rfl, hW.below⟩)

end Go.Eng
end
