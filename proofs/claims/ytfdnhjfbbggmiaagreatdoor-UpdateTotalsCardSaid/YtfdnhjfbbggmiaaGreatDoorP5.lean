/- Part 5 of the walks and plain lemmas that the claim rests on. -/
import Derived.Test.YtfdnhjfbbggmiaaGreatDoorP4
section
namespace Go.Eng
open Go Go.RowKit Go.Proofs
set_option linter.unusedVariables false
set_option linter.unusedSimpArgs false
def wB (s : ByteArray) (k : Nat) : Int :=
  let e := s.extract (4 * (k : Int)).toNat (4 * (k : Int) + 4).toNat
  bitop .or .u32 (bitop .or .u32 (bitop .or .u32 (IntKind.u32.wrap (IntKind.u32.wrap ((byteD e 0 : Nat) : Int) * 2 ^ min (Int.toNat 24) IntKind.u32.bits)) (IntKind.u32.wrap (IntKind.u32.wrap ((byteD e 1 : Nat) : Int) * 2 ^ min (Int.toNat 16) IntKind.u32.bits)))
    (IntKind.u32.wrap (IntKind.u32.wrap ((byteD e 2 : Nat) : Int) * 2 ^ min (Int.toNat 8) IntKind.u32.bits))) (IntKind.u32.wrap ((byteD e 3 : Nat) : Int))
noncomputable def wS0 (x : Int) : Int := bitop .xor .u32 (bitop .xor .u32 (rotF x (IntKind.i64.wrap (0 - 7))) (rotF x (IntKind.i64.wrap (0 - 18)))) (x.fdiv (2 ^ min (Int.toNat 3) IntKind.u32.bits))
noncomputable def wS1 (x : Int) : Int := bitop .xor .u32 (bitop .xor .u32 (rotF x (IntKind.i64.wrap (0 - 17))) (rotF x (IntKind.i64.wrap (0 - 19)))) (x.fdiv (2 ^ min (Int.toNat 10) IntKind.u32.bits))
noncomputable def wV (s : ByteArray) (k : Nat) (l : List Int) : Int := if k < 16 then wB s k else
  IntKind.u32.wrap (IntKind.u32.wrap (IntKind.u32.wrap (l.getD (k - 16) 0 + wS0 (l.getD (k - 15) 0)) + l.getD (k - 7) 0) + wS1 (l.getD (k - 2) 0))
noncomputable def wAt (s : ByteArray) : Nat → List Int
  | 0 => List.replicate 64 0
  | k + 1 => (wAt s k).set k (wV s k (wAt s k))
theorem wAt_len (s : ByteArray) : ∀ k, (wAt s k).length = 64
  | 0 => by simp [wAt]
  | k + 1 => by simp [wAt, wAt_len s k]
noncomputable abbrev wC (s : ByteArray) (k : Nat) : List Value := (wAt s k).map (.int .u32)
theorem wC_len (s : ByteArray) (k : Nat) : (wC s k).length = 64 := by simp [wAt_len]
theorem wC_get {s : ByteArray} {k i : Nat} (hi : i < 64) : (wC s k)[i]? = some (.int .u32 ((wAt s k).getD i 0)) := by
  have h : i < (wAt s k).length := by rw [wAt_len]; exact hi
  rw [List.getElem?_map, List.getElem?_eq_getElem h, List.getD_eq_getElem?_getD, List.getElem?_eq_getElem h]; rfl
theorem wC_lv {s : ByteArray} {k i : Nat} {z : Int} (hz : z = i) (hi : i < 64) : Kind.one.val ((wC s k).drop (0 + z.toNat * 1)) = some (.int .u32 ((wAt s k).getD i 0)) := by
  have h := wC_get (s := s) (k := k) hi
  have e : 0 + z.toNat * 1 = i := by omega
  rw [e]
  have hl : i < (wC s k).length := by rw [wC_len]; exact hi
  rw [List.drop_eq_getElem_cons hl]
  rw [List.getElem?_eq_getElem hl] at h
  exact h
theorem wC_step {s : ByteArray} {k : Nat} {v : Int} (hv : v = wV s k (wAt s k)) : splice (wC s k) (0 + (k : Int).toNat * 1) [.int .u32 v] = wC s (k + 1) := by
  subst hv
  have e : 0 + (k : Int).toNat * 1 = k := by omega
  rw [e]; simp [splice, wC, wAt, List.map_set]
theorem zW {w0 : World} {b1 : Nat} {s : ByteArray} {k : Nat} {vs : List Value} (h : vs.take k = (wC s k).take k) : ∀ Fr W, HP w0 ([cellR b1 335 vs] ++ Fr) W → Cells W b1 0 ((wC s k).take k) := fun Fr W hw i v hv => by
  rw [← h] at hv
  exact hw.cellAt .head _ _ (by rw [Nat.zero_add]; rw [List.getElem?_take] at hv; split at hv; exact hv; cases hv)
theorem zW_ld {W : World} {b1 : Nat} {s : ByteArray} {k i : Nat} {z : Int} (h : Cells W b1 0 ((wC s k).take k)) (hz : z = i) (hi : i < k) (hk : k < 64) : Cells W b1 (0 + z.toNat * 1) [.int .u32 ((wAt s k).getD i 0)] := fun j v hv => by
  cases j with
  | succ j => simp at hv
  | zero =>
    simp at hv; subst hv
    have := h i _ (by rw [List.getElem?_take, if_pos hi]; exact wC_get (by omega))
    have e : 0 + z.toNat * 1 + 0 = 0 + i := by omega
    rw [e]; exact this
theorem splice_take {vs : List Value} {z : Int} {k : Nat} {v : Value} (hz : z = k) : (splice vs (0 + z.toNat * 1) [v]).take k = vs.take k := by
  have e : 0 + z.toNat * 1 = k := by omega
  rw [e]; simp only [splice]; exact List.take_set_of_le (Nat.le_refl _)

theorem words_ok {s : ByteArray} (hs : s.size = 64) (w : World) : Ret Tryz.prog 319 [.string s] w (fun b : Nat => .tuple #[.slice (some ⟨b, 0, none⟩) 64 64, .int .i64 0]) (fun _ => True) (fun b => [cellR b 335 (wC s 64)]) := by
  refine begin_ Tryz.func319 rfl rfl rfl ?_
  refine xc_seq <| xc_region <| xp rfl (asg rfl) <| xp rfl (asg rfl) <| xl_nil <| xq_then <| ?_
  refine xc_seq <| xc_seq <| xc_region <| xp rfl (mv rfl) <| xp rfl (lens Tryz.underlying9 rfl) <| xp rfl (bin rfl rfl bk_neq) <| xl_nil <| xq_then <| xc_cond rfl (fun hc1 => ?_) (fun hc1 => ?_)
  ·
    exfalso; simp [hs] at hc1
  ·
    refine xc_skip <| xq_then <| xc_seq <| xc_region <| xe rfl (mk mk_379 rfl rfl (by decide) (by decide) (by decide) (by decide)) fun b1 _ => xp rfl (asg rfl) <| xl_nil <| xq_then <| ?_
    refine xc_seq <| xc_seq <| xc_region <| xp rfl (mv rfl) <| xp rfl (lenv Tryz.underlying379 rfl) <| xp rfl (mv rfl) <| xl_nil <| xq_then <| xc_block <| xc_loopP (σ := Nat) (fun k => [(17, .int .i64 k), (0, _), (4, _), (16, _)]) (fun k => k ≤ 64) (fun k => HP w [cellR b1 335 (wC s k)]) (fun k => 64 - k) 0 (by omega) (sc rfl <| sc rfl <| sc rfl <| sc rfl <| sn) (fun W hW => hW.sub (.refl _)) fun k hk => ?_
    refine xc_seq <| xc_region <| xp rfl (bin rfl rfl bk_lss) <| xl_nil <| xq_then <| xc_seq <| xc_cond rfl (fun hc2 => ?_) (fun hc2 => ?_)
    ·
      have hk1 : k < 64 := by have h := of_decide_eq_true hc2; omega
      have hw4 : IntKind.i64.wrap (4 * (k : Int)) = 4 * k := wrap64 (by omega) (by omega)
      have hw5 : IntKind.i64.wrap (4 * (k : Int) + 4) = 4 * k + 4 := wrap64 (by omega) (by omega)
      have hl := wC_len s k
      refine xc_skip <| xq_then <| xc_seq <| xc_block <| xc_seq <| xc_region <| xp rfl (mv rfl) <| xp rfl (asg rfl) <| xl_nil <| xq_then <| ?_
      refine xc_seq <| xc_seq <| xc_region <| xp rfl (mv rfl) <| xp rfl (bin rfl rfl bk_lss) <| xl_nil <| xq_then <| xc_cond rfl (fun hc3 => ?_) (fun hc3 => ?_)
      ·
        have hk3 : k < 16 := by have h := of_decide_eq_true hc3; omega
        have hsz : (s.extract (4 * (k : Int)).toNat (4 * (k : Int) + 4).toNat).size = 4 := by simp only [ByteArray.size_extract]; omega
        refine xc_seq <| xc_region <| xp rfl (mv rfl) <| xp rfl (mv rfl) <| xp rfl (bin rfl rfl bk_mul) <| xp rfl (mv rfl) <| xp rfl (bin rfl rfl bk_mul) <| xp rfl (bin rfl rfl bk_add) <| xp rfl (ss Tryz.underlying9 rfl rfl rfl (by rw [hw4]; omega) (by rw [hw4, hw5]; omega) (by rw [hw4, hw5, hs]; omega)) <| xp rfl (asg rfl) <| xl_nil <| xq_then <| ?_
        refine xc_seq <| xc_draw (canon := [(0, .p), (1, .p), (2, .p), (3, .p), (4, .p), (5, .p), (6, .p), (7, .p), (8, .p), (9, .p), (10, .p), (11, .p), (12, .p), (13, .p), (14, .p), (15, .p), (16, .p), (17, .p), (18, .p), (19, .p), (20, .p), (21, .x)]) (Z := HP _ []) mixed_ rfl (akp <| akp <| akp <| akp <| akp <| akp <| akp <| akp <| akp <| akp <| akp <| akp <| akp <| akp <| akp <| akp <| akp <| akp <| akp <| akp <| akp <| akx <| ak0) (zsub (.cons _ <| .slnil)) ?_
        refine dp rfl rfl rfl rfl (mv rfl) <| dp rfl rfl rfl rfl (mv rfl) <| dp rfl rfl rfl rfl (mv rfl) <| dp rfl rfl rfl rfl (sx Tryz.underlying9 rfl rfl (by decide) (by rw [hw4, hw5, hsz]; decide)) <| dp rfl rfl rfl rfl (cv rfl (cvi Tryz.underlying5 Tryz.underlying335)) <| dp rfl rfl rfl rfl (bin rfl rfl (bk_shl (by decide))) <| dp rfl rfl rfl rfl (mv rfl) <| dp rfl rfl rfl rfl (sx Tryz.underlying9 rfl rfl (by decide) (by rw [hw4, hw5, hsz]; decide)) <| dp rfl rfl rfl rfl (cv rfl (cvi Tryz.underlying5 Tryz.underlying335)) <| dp rfl rfl rfl rfl (bin rfl rfl (bk_shl (by decide))) <| dp rfl rfl rfl rfl (bin rfl rfl bk_or) <| dp rfl rfl rfl rfl (mv rfl) <| dp rfl rfl rfl rfl (sx Tryz.underlying9 rfl rfl (by decide) (by rw [hw4, hw5, hsz]; decide)) <| dp rfl rfl rfl rfl (cv rfl (cvi Tryz.underlying5 Tryz.underlying335)) <| dp rfl rfl rfl rfl (bin rfl rfl (bk_shl (by decide))) <| dp rfl rfl rfl rfl (bin rfl rfl bk_or) <| dp rfl rfl rfl rfl (mv rfl) <| dp rfl rfl rfl rfl (sx Tryz.underlying9 rfl rfl (by decide) (by rw [hw4, hw5, hsz]; decide)) <| dp rfl rfl rfl rfl (cv rfl (cvi Tryz.underlying5 Tryz.underlying335)) <| dp rfl rfl rfl rfl (bin rfl rfl bk_or) <| dp rfl rfl rfl rfl (ix so_379 rfl rfl (by omega) (by omega)) <| dst_ rfl rfl rfl rfl sz_335 rfl rfl rfl rfl .head (Nat.ble_eq_true_of_le (by rw [hl]; simp; omega)) rfl (zsub (.cons _ <| .slnil)) <| dend <| xq_then <| xc_exit <| xq_then_exit <| xq_in_hit <| xq_then <| ?_
        refine xc_region <| xp rfl (bin rfl rfl bk_add) <| xp rfl (mv rfl) <| xl_nil <| xq_roundP (k + 1) hk1 (by omega) (sc (iw (by omega) (by omega) (by omega) rfl) <| sc rfl <| sc rfl <| sc rfl <| sn) (fun W hW => by rw [← wC_step (v := wB s k) (by simp [wV, hk3])]; simp only [hw4, hw5] at hW; exact hW)
      ·
        have hk3 : ¬ k < 16 := by have h := of_decide_eq_false hc3; omega
        have hm15 : IntKind.i64.wrap ((k : Int) - 15) = k - 15 := wrap64 (by omega) (by omega)
        have hm2 : IntKind.i64.wrap ((k : Int) - 2) = k - 2 := wrap64 (by omega) (by omega)
        have hm16 : IntKind.i64.wrap ((k : Int) - 16) = k - 16 := wrap64 (by omega) (by omega)
        have hm7 : IntKind.i64.wrap ((k : Int) - 7) = k - 7 := wrap64 (by omega) (by omega)
        refine xc_skip <| xq_then <| xc_seq <| xc_draw (canon := [(0, .p), (1, .p), (2, .p), (3, .p), (4, .p), (5, .p), (6, .p), (7, .p), (8, .p), (9, .p), (10, .x), (11, .x)]) (Z := HP _ [cellR b1 _ _]) mixed_ rfl (akp <| akp <| akp <| akp <| akp <| akp <| akp <| akp <| akp <| akp <| akx <| akx <| ak0) (zsub (.cons_cons _ <| .slnil)) ?_
        refine dp rfl rfl rfl rfl (mv rfl) <| dp rfl rfl rfl rfl (mv rfl) <| dp rfl rfl rfl rfl (bin rfl rfl bk_sub) <| dp rfl rfl rfl rfl (ix so_379 rfl rfl (by rw [hm15]; omega) (by rw [hm15]; omega)) <| dp rfl rfl rfl rfl (ld kd_335 rfl .head (wC_lv (i := k - 15) (by rw [hm15]; omega) (by omega))) <| dp rfl rfl rfl rfl (mv rfl) <| dp rfl rfl rfl rfl (mv rfl) <| dp rfl rfl rfl rfl (bin rfl rfl bk_sub) <| dp rfl rfl rfl rfl (ix so_379 rfl rfl (by rw [hm2]; omega) (by rw [hm2]; omega)) <| dp rfl rfl rfl rfl (ld kd_335 rfl .head (wC_lv (i := k - 2) (by rw [hm2]; omega) (by omega))) <| das rfl rfl rfl rfl (asg rfl) (zsub (.cons_cons _ <| .slnil)) <| das rfl rfl rfl rfl (asg rfl) (zsub (.cons_cons _ <| .slnil)) <| dend <| xq_then <| ?_
        refine xc_seq <| xc_region <| xp rfl (mv rfl) <| xv rfl Tryz.call328 rfl rfl (fun W hW => (right_ok _ _ W)) <| xp rfl (mv rfl) <| xv rfl Tryz.call328 rfl rfl (fun W hW => (right_ok _ _ W)) <| xp rfl (bin rfl rfl bk_xor) <| xp rfl (mv rfl) <| xp rfl (bin rfl rfl (bk_shr (by decide))) <| xp rfl (bin rfl rfl bk_xor) <| xp rfl (asg rfl) <| xl_nil <| xq_then <| ?_
        refine xc_seq <| xc_region <| xp rfl (mv rfl) <| xv rfl Tryz.call328 rfl rfl (fun W hW => (right_ok _ _ W)) <| xp rfl (mv rfl) <| xv rfl Tryz.call328 rfl rfl (fun W hW => (right_ok _ _ W)) <| xp rfl (bin rfl rfl bk_xor) <| xp rfl (mv rfl) <| xp rfl (bin rfl rfl (bk_shr (by decide))) <| xp rfl (bin rfl rfl bk_xor) <| xp rfl (asg rfl) <| xl_nil <| xq_then <| ?_
        refine xc_draw (canon := [(0, .p), (1, .p), (2, .p), (3, .p), (4, .p), (5, .p), (6, .p), (7, .p), (8, .p), (9, .p), (10, .p), (11, .p), (12, .p), (13, .p), (14, .p), (15, .p), (16, .p), (17, .p), (18, .x)]) (Z := fun W => Cells W b1 0 ((wC s k).take k)) mixed_ rfl (akp <| akp <| akp <| akp <| akp <| akp <| akp <| akp <| akp <| akp <| akp <| akp <| akp <| akp <| akp <| akp <| akp <| akp <| akx <| ak0) (zW rfl) ?_
        refine dp rfl rfl rfl rfl (mv rfl) <| dp rfl rfl rfl rfl (mv rfl) <| dp rfl rfl rfl rfl (mv rfl) <| dp rfl rfl rfl rfl (mv rfl) <| dp rfl rfl rfl rfl (bin rfl rfl bk_sub) <| dp rfl rfl rfl rfl (ix so_379 rfl rfl (by rw [hm16]; omega) (by rw [hm16]; omega)) <| dp rfl rfl rfl rfl (ldc kd_335 rfl (vs := _) (fun W hW => zW_ld (i := k - 16) hW (by rw [hm16]; omega) (by omega) hk1) rfl) <| dp rfl rfl rfl rfl (mv rfl) <| dp rfl rfl rfl rfl (bin rfl rfl bk_add) <| dp rfl rfl rfl rfl (mv rfl) <| dp rfl rfl rfl rfl (mv rfl) <| dp rfl rfl rfl rfl (bin rfl rfl bk_sub) <| dp rfl rfl rfl rfl (ix so_379 rfl rfl (by rw [hm7]; omega) (by rw [hm7]; omega)) <| dp rfl rfl rfl rfl (ldc kd_335 rfl (vs := _) (fun W hW => zW_ld (i := k - 7) hW (by rw [hm7]; omega) (by omega) hk1) rfl) <| dp rfl rfl rfl rfl (bin rfl rfl bk_add) <| dp rfl rfl rfl rfl (mv rfl) <| dp rfl rfl rfl rfl (bin rfl rfl bk_add) <| dp rfl rfl rfl rfl (ix so_379 rfl rfl (by omega) (by omega)) <| dst_ rfl rfl rfl rfl sz_335 rfl rfl rfl rfl .head (Nat.ble_eq_true_of_le (by rw [hl]; simp; omega)) rfl (zW (splice_take rfl)) <| dend <| xq_in <| xq_then <| ?_
        refine xc_region <| xp rfl (bin rfl rfl bk_add) <| xp rfl (mv rfl) <| xl_nil <| xq_roundP (k + 1) hk1 (by omega) (sc (iw (by omega) (by omega) (by omega) rfl) <| sc rfl <| sc rfl <| sc rfl <| sn) (fun W hW => by rw [← wC_step (by simp only [wV, if_neg hk3]; rfl)]; exact hW)
    ·
      have hk2 : ¬ k < 64 := by have h := of_decide_eq_false hc2; omega
      obtain rfl : k = 64 := by omega
      refine xc_exit <| xq_then_exit <| xq_then_exit <| xq_in_hit <| xq_then <| xc_seq <| xc_region <| xp rfl (mv rfl) <| xp rfl (asg rfl) <| xp rfl (asg rfl) <| xl_nil <| xq_then <| xc_ret <| leave2 (.inl rfl) rfl (.tmp rfl) (.tmp rfl) fun W hW => (⟨b1, rfl, trivial, hW⟩)

end Go.Eng
end
section
namespace Go.Eng
open Go Go.RowKit Go.Proofs
set_option linter.unusedVariables false
set_option linter.unusedSimpArgs false
noncomputable def rnd (s : S8) (b : ByteArray) : Nat → S8
  | 0 => s
  | k + 1 => (rnd s b k).round (kTab.getD k 0) ((wAt b 64).getD k 0)
abbrev S8.l (s : S8) : List Int := [s.a, s.b, s.c, s.d, s.e, s.f, s.g, s.h]
def mixC (o s : S8) (k : Nat) : List Value := (List.range 8).map fun i => .int .u32 (if i < k then IntKind.u32.wrap (o.l.getD i 0 + s.l.getD i 0) else o.l.getD i 0)
def mix (o s : S8) : S8 := ⟨IntKind.u32.wrap (o.a + s.a), IntKind.u32.wrap (o.b + s.b), IntKind.u32.wrap (o.c + s.c), IntKind.u32.wrap (o.d + s.d), IntKind.u32.wrap (o.e + s.e), IntKind.u32.wrap (o.f + s.f), IntKind.u32.wrap (o.g + s.g), IntKind.u32.wrap (o.h + s.h)⟩
noncomputable def nextF (s : S8) (b : ByteArray) : S8 := mix (rnd s b 64) s
theorem mixC_step {o s : S8} {k : Nat} (hk : k < 8) : splice (mixC o s k) (0 + (k : Int).toNat * 1) [.int .u32 (IntKind.u32.wrap (o.l.getD k 0 + s.l.getD k 0))] = mixC o s (k + 1) := by
  rcases lt8 hk with rfl | rfl | rfl | rfl | rfl | rfl | rfl | rfl <;> rfl
theorem mixC_lv {o s : S8} {k : Nat} (hk : k < 8) : Kind.one.val ((mixC o s k).drop (0 + (k : Int).toNat * 1)) = some (.int .u32 (o.l.getD k 0)) := by
  rcases lt8 hk with rfl | rfl | rfl | rfl | rfl | rfl | rfl | rfl <;> rfl
theorem S8_lv {s : S8} {k : Nat} (hk : k < 8) : Kind.one.val (s.cells.drop (0 + (k : Int).toNat * 1)) = some (.int .u32 (s.l.getD k 0)) := by
  rcases lt8 hk with rfl | rfl | rfl | rfl | rfl | rfl | rfl | rfl <;> rfl
theorem wC_cells {w W : World} {wb : Nat} {b : ByteArray} {Rs : List Res} {f : Res → List Res} (hW : HP w Rs W) (hp : Pos Rs (cellR wb 335 (wC b 64)) f) {k : Nat} (hk : k < 64) : Cells W wb (0 + (k : Int).toNat * 1) [.int .u32 ((wAt b 64).getD k 0)] := fun j v hv => by
  cases j with
  | succ j => simp at hv
  | zero =>
    simp at hv; subst hv
    have e : 0 + (k : Int).toNat * 1 + 0 = k := by omega
    rw [e]; exact hW.cellAt hp _ _ (wC_get hk)
theorem kTab_getD {k : Nat} (hk : k < 64) : kTab[k]'hk = kTab.getD k 0 := by rw [List.getD_eq_getElem?_getD, List.getElem?_eq_getElem hk]; rfl

theorem next_ok {w : World} (hG : Glob w) (s : S8) {b : ByteArray} (hb : b.size = 64) : RetV Tryz.prog 304 [s.V, .string b] w (.tuple #[(nextF s b).V, .int .i64 0]) := by
  refine begin_ Tryz.func304 rfl rfl rfl ?_
  refine xc_seq <| xc_region <| xe rfl (bx rfl rfl) fun b1 _ => xe rfl (al zo_395) fun b2 _ => xp rfl (asg rfl) <| xl_nil <| xq_then <| ?_
  refine xc_seq <| xc_region <| xp rfl (mv rfl) <| xr rfl Tryz.call319 rfl rfl (fun W hW => (words_ok hb W)) fun wb _ => xp rfl (mv rfl) <| xp rfl (ext rfl rfl) <| xp rfl (ext rfl rfl) <| xp rfl (asg rfl) <| xp rfl (asg rfl) <| xl_nil <| xq_then <| ?_
  refine xc_seq <| xc_seq <| xc_region <| xp rfl (mv rfl) <| xp rfl (bin rfl rfl bk_neq) <| xl_nil <| xq_then <| xc_cond rfl (fun hc1 => ?_) (fun hc1 => ?_)
  ·
    exact absurd hc1 (by decide)
  ·
    refine xc_skip <| xq_then <| xc_seq <| xc_region <| xp rfl (ld kd_395 rfl (.tail <| .tail .head) rfl) <| xe rfl (al zo_395) fun b3 _ => xs (st sz_395 rfl rfl rfl rfl .head rfl rfl) <| xl_nil <| xq_then <| ?_
    refine xc_seq <| xc_seq <| xc_region <| xp rfl (mv rfl) <| xp rfl (lenv Tryz.underlying379 rfl) <| xp rfl (mv rfl) <| xl_nil <| xq_then <| xc_block <| xc_loopP (σ := Nat) (fun k => [(24, .int .i64 k), (2, _), (4, _), (8, _), (22, _), (23, _)]) (fun k => k ≤ 64) (fun k => HP w [cellR b3 395 (rnd s b k).cells, cellR wb 335 (wC b 64), cellR b2 395 s8_z.cells, cellR b1 395 s.cells]) (fun k => 64 - k) 0 (by omega) (sc rfl <| sc rfl <| sc rfl <| sc rfl <| sc rfl <| sc rfl <| sn) (fun W hW => hW.sub (.refl _)) fun k hk => ?_
    refine xc_seq <| xc_region <| xp rfl (bin rfl rfl bk_lss) <| xl_nil <| xq_then <| xc_seq <| xc_cond rfl (fun hc2 => ?_) (fun hc2 => ?_)
    ·
      have hk1 : k < 64 := by have h := of_decide_eq_true hc2; omega
      refine xc_skip <| xq_then <| xc_seq <| xc_block <| xc_seq <| xc_region <| xp rfl (mv rfl) <| xp rfl (ix so_379 rfl rfl (by omega) (by omega)) <| xp rfl (ldc kd_335 rfl (vs := _) (fun W hW => wC_cells hW (.tail .head) hk1) rfl) <| xp rfl (asg rfl) <| xp rfl (asg rfl) <| xl_nil <| xq_then <| ?_
      refine xc_region <| xp rfl (ld kd_395 rfl .head rfl) <| xp rfl (mv rfl) <| xp rfl (mv rfl) <| xv rfl Tryz.call320 rfl rfl (fun W hW => (kTab_getD hk1) ▸ round_ok (hG.up hW) _ k hk1 _) <| xs (st sz_395 rfl rfl rfl rfl .head rfl rfl) <| xl_nil <| xq_in <| xq_then <| ?_
      refine xc_region <| xp rfl (bin rfl rfl bk_add) <| xp rfl (mv rfl) <| xl_nil <| xq_roundP (k + 1) hk1 (by omega) (sc (iw (by omega) (by omega) (by omega) rfl) <| sc rfl <| sc rfl <| sc rfl <| sc rfl <| sc rfl <| sn) (fun W hW => hW.sub (.refl _))
    ·
      have hk2 : ¬ k < 64 := by have h := of_decide_eq_false hc2; omega
      obtain rfl : k = 64 := by omega
      refine xc_exit <| xq_then_exit <| xq_then_exit <| xq_in_hit <| xq_then <| xc_seq <| xc_seq <| xc_region <| xp rfl (mv rfl) <| xl_nil <| xq_then <| xc_block <| xc_loopP (σ := Nat) (fun k => [(34, .int .i64 k), (2, _), (4, _), (8, _)]) (fun k => k ≤ 8) (fun k => HP w [cellR b3 395 (mixC (rnd s b 64) s k), cellR wb 335 (wC b 64), cellR b2 395 s8_z.cells, cellR b1 395 s.cells]) (fun k => 8 - k) 0 (by omega) (sc rfl <| sc rfl <| sc rfl <| sc rfl <| sn) (fun W hW => hW.sub (.refl _)) fun k hk => ?_
      refine xc_seq <| xc_region <| xp rfl (bin rfl rfl bk_lss) <| xl_nil <| xq_then <| xc_seq <| xc_cond rfl (fun hc3 => ?_) (fun hc3 => ?_)
      ·
        have hk1 : k < 8 := by have h := of_decide_eq_true hc3; omega
        refine xc_skip <| xq_then <| xc_seq <| xc_block <| xc_seq <| xc_region <| xp rfl (mv rfl) <| xp rfl (asg rfl) <| xl_nil <| xq_then <| ?_
        refine xc_draw (canon := [(0, .p), (1, .p), (3, .p), (4, .p), (5, .p), (2, .x), (6, .p), (7, .p), (8, .x)]) (Z := HP _ [_, cellR b2 _ _, cellR b1 _ _]) mixed_ rfl (akp <| akp <| akp <| akp <| akp <| akx <| akp <| akp <| akx <| ak0) (zsub (.cons _ <| .cons_cons _ <| .cons_cons _ <| .cons_cons _ <| .slnil)) ?_
        refine dp rfl rfl rfl rfl (mv rfl) <| dp rfl rfl rfl rfl (ixa ar_395 rfl rfl (by omega) (by omega)) <| dp rfl rfl rfl rfl (mv rfl) <| dp rfl rfl rfl rfl (ixa ar_395 rfl rfl (by omega) (by omega)) <| dp rfl rfl rfl rfl (ld kd_335 rfl (.tail <| .tail .head) (S8_lv hk1)) <| das rfl rfl rfl rfl (ld kd_335 rfl .head (mixC_lv hk1)) (zsub (.cons _ <| .cons_cons _ <| .cons_cons _ <| .cons_cons _ <| .slnil)) <| dp rfl rfl rfl rfl (bin rfl rfl bk_add) <| dp rfl rfl rfl rfl (ixa ar_395 rfl rfl (by omega) (by omega)) <| dst_ rfl rfl rfl rfl sz_335 rfl rfl rfl rfl .head (Nat.ble_eq_true_of_le (by simp [mixC]; omega)) rfl (zsub (.cons _ <| .cons_cons _ <| .cons_cons _ <| .cons_cons _ <| .slnil)) <| dend <| xq_in <| xq_then <| ?_
        refine xc_region <| xp rfl (bin rfl rfl bk_add) <| xp rfl (mv rfl) <| xl_nil <| xq_roundP (k + 1) hk1 (by omega) (sc (iw (by omega) (by omega) (by omega) rfl) <| sc rfl <| sc rfl <| sc rfl <| sn) (fun W hW => by rw [← mixC_step hk1]; exact hW)
      ·
        have hk2 : ¬ k < 8 := by have h := of_decide_eq_false hc3; omega
        obtain rfl : k = 8 := by omega
        refine xc_exit <| xq_then_exit <| xq_then_exit <| xq_in_hit <| xq_then <| xc_seq <| xc_region <| xp rfl (ld kd_395 rfl .head rfl) <| xs (st sz_395 rfl rfl rfl rfl (.tail <| .tail .head) rfl rfl) <| xp rfl (asg rfl) <| xl_nil <| xq_then <| xc_ret <| leave2 (.inl rfl) rfl (.cell rfl (ld_own kd_395 (.tail <| .tail .head) rfl)) (.tmp rfl) fun W hW => (⟨rfl, hW.below⟩)

end Go.Eng
end
section
namespace Go.Eng
open Go Go.RowKit Go.Proofs
set_option linter.unusedVariables false
set_option linter.unusedSimpArgs false
/-- A text's whole blocks, and what is left. -/
def blk : Nat → ByteArray → List (ByteArray × Bool)
  | 0, t => [(t, false)]
  | m + 1, t => if 64 ≤ t.size then (t.extract 0 64, true) :: blk m (t.extract 64 t.size) else [(t, false)]
def blocks (t : ByteArray) : List (ByteArray × Bool) := blk t.size t
theorem blk_end {m : Nat} {t : ByteArray} (h : ¬ 64 ≤ t.size) : blk m t = [(t, false)] := by
  cases m with
  | zero => rfl
  | succ m => simp [blk, h]
theorem blk_more {m : Nat} {t : ByteArray} (h : 64 ≤ t.size) (hm : t.size ≤ m) : ∃ m', m = m' + 1 ∧ blk m t = (t.extract 0 64, true) :: blk m' (t.extract 64 t.size) ∧ (t.extract 64 t.size).size ≤ m' := by
  cases m with
  | zero => omega
  | succ m => exact ⟨m, rfl, by simp [blk, h], by simp only [ByteArray.size_extract]; omega⟩
theorem blk_whole : ∀ (m : Nat) (t : ByteArray) (x : ByteArray), (x, true) ∈ blk m t → x.size = 64
  | 0, t, x, h => by simp [blk] at h
  | m + 1, t, x, h => by
    simp only [blk] at h
    split at h
    · rename_i hs
      rcases List.mem_cons.1 h with h | h
      · cases h; simp only [ByteArray.size_extract]; omega
      · exact blk_whole m _ x h
    · simp at h
theorem blk_left : ∀ (m : Nat) (t : ByteArray) (x : ByteArray), t.size ≤ m → (x, false) ∈ blk m t → x.size < 64
  | 0, t, x, hm, h => by simp [blk] at h; subst h; omega
  | m + 1, t, x, hm, h => by
    simp only [blk] at h
    split at h
    · rename_i hs
      rcases List.mem_cons.1 h with h | h
      · cases h
      · exact blk_left m _ x (by simp only [ByteArray.size_extract]; omega) h
    · rename_i hs
      simp at h; subst h; omega
abbrev encB (x : ByteArray × Bool) : List Value := [.string x.1, .bool x.2]

theorem blocks_iter {sb : Nat} {t : ByteArray} (w1 : World) : Iter Tryz.prog 318 [.pointer (some ⟨sb, 0, none⟩)] encB [cellR sb 9 [.string t]] (blocks t) w1 := by
  intro w0 l J Jx L W hB hW hJ hy
  refine begin_at Tryz.func318 rfl rfl rfl hW ?_
  refine xc_seq <| xc_block <| xc_loopP (σ := ByteArray × List (ByteArray × Bool) × List Res × Nat) (fun s => [(0, _), (1, _)]) (fun s => blocks t = s.2.1 ++ blk s.2.2.2 s.1 ∧ s.1.size ≤ s.2.2.2 ∧ J s.2.1 s.2.2.1) (fun s => HP w0 (cellR sb 9 [.string s.1] :: s.2.2.1)) (fun s => s.1.size) (t, [], L, t.size) ⟨by simp [blocks], Nat.le_refl _, hJ⟩ (sc rfl <| sc rfl <| sn) (fun W hW => hW.sub (.refl _)) fun s ⟨hall, hm, hj⟩ => ?_
  obtain ⟨cur, pre, L1, m⟩ := s
  simp only at hall hm hj
  refine xc_seq <| xc_seq <| xc_region <| xp rfl (ld kd_9 rfl .head rfl) <| xp rfl (lens Tryz.underlying9 rfl) <| xp rfl (bin rfl rfl bk_geq) <| xl_nil <| xq_then <| xc_cond rfl (fun hc1 => ?_) (fun hc1 => ?_)
  ·
    have hk1 : 64 ≤ cur.size := by have h := of_decide_eq_true hc1; simp only at h; omega
    obtain ⟨m1, rfl, hbl, hm1⟩ := blk_more hk1 hm
    rw [hbl] at hall
    refine xc_skip <| xq_then <| xc_block <| xc_seq <| xc_seq <| xc_region <| xp rfl (mv rfl) <| xp rfl (ld kd_9 rfl .head rfl) <| xp rfl (ssh Tryz.underlying9 rfl rfl (by decide) (by simp only; omega)) <| xe rfl (yld (Fr := [(cellR sb 9 [.string cur])]) (hy _ _ _ hall) hj rfl rfl rfl) fun s hs => xp rfl (un rfl uk_not) <| xl_nil <| xq_then <| xc_cond rfl (fun hc2 => ?_) (fun hc2 => ?_)
    ·
      refine xc_ret <| xq_then_ret <| xq_in_ret <| xq_then_ret <| xq_in_ret <| xq_then_ret <| leave0 (.inl rfl) rfl  fun W hW => (⟨⟨_, rfl⟩, s.2, hW.drop, .inr ⟨pre ++ [(cur.extract 0 64, true)], blk m1 (cur.extract 64 cur.size), by rw [hall]; simp, hs.2 (by simpa using hc2)⟩⟩)
    ·
      refine xc_skip <| xq_then <| xc_region <| xp rfl (ld kd_9 rfl .head rfl) <| xp rfl (ssl Tryz.underlying9 rfl rfl (by decide) (by omega)) <| xs (st sz_9 rfl rfl rfl rfl .head rfl rfl) <| xl_nil <| xq_in <| xq_roundP (cur.extract 64 cur.size, pre ++ [(cur.extract 0 64, true)], s.2, m1) (⟨by rw [hall]; simp, hm1, hs.1 (by simpa using hc2)⟩) (by simp only [ByteArray.size_extract]; omega) (sc rfl <| sc rfl <| sn) (fun W hW => hW.sub (.refl _))
  ·
    have hk1 : ¬ 64 ≤ cur.size := by have h := of_decide_eq_false hc1; simp only at h; omega
    rw [blk_end hk1] at hall
    refine xc_exit <| xq_then_exit <| xq_then_exit <| xq_in_hit <| xq_then <| xc_region <| xp rfl (mv rfl) <| xp rfl (ld kd_9 rfl .head rfl) <| xe rfl (yld (Fr := [(cellR sb 9 [.string cur])]) (hy _ _ _ hall) hj rfl rfl rfl) fun s hs => xl_nil <| leave0 (.inr rfl) rfl  fun W hW => (⟨⟨_, rfl⟩, s.2, hW.drop, by
      cases hb : s.1 with
      | true => left; rw [hall]; exact hs.1 hb
      | false => exact .inr ⟨pre ++ [(cur, false)], [], by rw [List.append_nil]; exact hall, hs.2 hb⟩⟩)

end Go.Eng
end
section
namespace Go.Eng
open Go Go.RowKit Go.Proofs
set_option linter.unusedVariables false
set_option linter.unusedSimpArgs false
set_option maxRecDepth 4000
/-- A running digest. -/
structure Sh where (s : S8) (rest : ByteArray) (n : Int)
abbrev Sh.c (h : Sh) : List Value := [.bool true, .int .u32 h.s.a, .int .u32 h.s.b, .int .u32 h.s.c, .int .u32 h.s.d, .int .u32 h.s.e, .int .u32 h.s.f, .int .u32 h.s.g, .int .u32 h.s.h, .string h.rest, .int .u64 h.n]
def sh0 : Sh := ⟨s8_0, ByteArray.empty, 0⟩
noncomputable def stepB (st : Sh) (x : ByteArray × Bool) : Sh := ⟨if x.2 then nextF st.s x.1 else st.s, if x.2 then ByteArray.empty else x.1, st.n⟩
noncomputable def foldB (st : Sh) (l : List (ByteArray × Bool)) : Sh := l.foldl stepB st
noncomputable def takesF (st : Sh) (t : ByteArray) : Sh := foldB ⟨st.s, st.rest, IntKind.u64.wrap (st.n + IntKind.u64.wrap t.size)⟩ (blocks (st.rest ++ t))
theorem foldB_snoc (st : Sh) (l : List (ByteArray × Bool)) (x : ByteArray × Bool) : foldB st (l ++ [x]) = stepB (foldB st l) x := by simp [foldB]
theorem foldB_n (st : Sh) : ∀ l, (foldB st l).n = st.n := fun l => by
  induction l generalizing st with
  | nil => rfl
  | cons x l ih => simp only [foldB, List.foldl_cons] at ih ⊢; rw [ih]; rfl
theorem blk_last : ∀ (m : Nat) (t : ByteArray), ∃ l x, blk m t = l ++ [(x, false)]
  | 0, t => ⟨[], t, rfl⟩
  | m + 1, t => by
    simp only [blk]
    split
    · obtain ⟨l, x, h⟩ := blk_last m (t.extract 64 t.size)
      exact ⟨_ :: l, x, by rw [h]; rfl⟩
    · exact ⟨[], t, rfl⟩
theorem takesF_rest (st : Sh) (t : ByteArray) : (takesF st t).rest.size < 64 := by
  obtain ⟨l, x, h⟩ := blk_last (st.rest ++ t).size (st.rest ++ t)
  have hx := blk_left _ _ x (Nat.le_refl _) (by rw [h]; simp)
  simp only [takesF, blocks, h, foldB_snoc]
  simpa [stepB] using hx
theorem takesF_n (st : Sh) (t : ByteArray) : (takesF st t).n = IntKind.u64.wrap (st.n + IntKind.u64.wrap t.size) := by rw [takesF, foldB_n]
theorem hold_cells {w W : World} {b o : Nat} {vs : List Value} (h : Cells w b 0 vs) (hb : Below w.heap.size w W) : Cells W b (0 + o) (vs.drop o) := (h.below hb).drop o
theorem cells_of {w0 W : World} {Rs : List Res} {b T : Nat} {vs : List Value} {f : Res → List Res} (h : HP w0 Rs W) (hp : Pos Rs (cellR b T vs) f) : Cells W b 0 vs := fun i v hv => by rw [Nat.zero_add]; exact h.cellAt hp i v hv

theorem clone_ok (t : ByteArray) (ht : t.size ≤ 281474976710656) (w : World) : RetV Tryz.prog 305 [.string t] w (.string t) := by
  refine begin_ Tryz.func305 rfl rfl rfl ?_
  refine xc_seq <| xc_region <| xp rfl (asg rfl) <| xl_nil <| xq_then <| ?_
  refine xc_seq <| xc_region <| xp rfl (mv rfl) <| xv rfl Tryz.call321 rfl rfl (fun W hW => (Tryz.stringslite_Clone t W ht)) <| xp rfl (asg rfl) <| xl_nil <| xq_then <| xc_ret <| leave1 (.inl rfl) rfl (.tmp rfl) fun W hW => (⟨rfl, hW.below⟩)

theorem blocks_ok (t : ByteArray) (w : World) : Ret Tryz.prog 303 [.string t] w (fun b : Nat => .func (.func 318) #[] #[.pointer (some ⟨b, 0, none⟩)]) (fun _ => True) (fun b => [cellR b 9 [.string t]]) := by
  refine begin_ Tryz.func303 rfl rfl rfl ?_
  refine xc_seq <| xc_region <| xe rfl (bx rfl rfl) fun b1 _ => xp rfl (asg rfl) <| xl_nil <| xq_then <| ?_
  refine xc_seq <| xc_region <| xp rfl (mf rfl rfl) <| xp rfl (asg rfl) <| xl_nil <| xq_then <| xc_ret <| leave1 (.inl rfl) rfl (.tmp rfl) fun W hW => (⟨b1, rfl, trivial, hW⟩)

theorem new_ok (w : World) : Ret Tryz.prog 277 [] w (fun b : Nat => .pointer (some ⟨b, 0, none⟩)) (fun _ => True) (fun b => [cellR b 398 sh0.c]) := by
  refine begin_ Tryz.func277 rfl rfl rfl ?_
  refine xc_seq <| xc_region <| xp rfl (asg rfl) <| xl_nil <| xq_then <| ?_
  refine xc_seq <| xc_region <| xv rfl Tryz.call302 rfl rfl (fun W hW => (first_ok W)) <| xp rfl (bd rfl bd_398_0_1) <| xe rfl (bx rfl rfl) fun b1 _ => xp rfl (asg rfl) <| xl_nil <| xq_then <| xc_ret <| leave1 (.inl rfl) rfl (.tmp rfl) fun W hW => (⟨b1, rfl, trivial, hW⟩)

theorem shnone_ok {w : World} {hb : Nat} {q : Sh} (hc : Cells w hb 0 q.c) : RetV Tryz.prog 306 [.pointer (some ⟨hb, 0, none⟩)] w (.bool false) := by
  refine begin_ Tryz.func306 rfl rfl rfl ?_
  refine xc_seq <| xc_region <| xp rfl (asg rfl) <| xl_nil <| xq_then <| ?_
  refine xc_seq <| xc_region <| xp rfl (mv rfl) <| xp rfl (bin rfl rfl (bk_peql pe_370)) <| xp rfl (mv rfl) <| xl_or 6 11 (fun hg1 => xgT rfl rfl rfl hg1 <| xp rfl (mv rfl) <| xgT rfl rfl rfl hg1 <| xp rfl (nc rfl) <| xgT rfl rfl rfl hg1 <| xp rfl (fa fa_398_0 rfl) <| xgT rfl rfl rfl hg1 <| xp rfl (ldc kd_4 rfl (vs := _) (fun W hW => hold_cells (o := 0) hc hW.below) rfl) <| xgT rfl rfl rfl hg1 <| xp rfl (un rfl uk_not) <| xp rfl (pickF rfl hg1 rfl) <| xl_nil <| xq_or_yes hg1 (.kc rfl <| .kc rfl <| .kc rfl <| .kc rfl <| .kc rfl .kn) (fun _ h => h)) (fun hg1 => xgF rfl rfl rfl hg1 <| xgF rfl rfl rfl hg1 <| xgF rfl rfl rfl hg1 <| xgF rfl rfl rfl hg1 <| xgF rfl rfl rfl hg1 <| xp rfl (pickT rfl hg1 rfl) <| xl_nil <| xq_or_no hg1 (.kc rfl <| .kc rfl <| .kc rfl <| .kc rfl <| .kc rfl .kn) (fun _ h => h)) <| xp rfl (asg rfl) <| xl_nil <| xq_then <| xc_ret <| leave1 (.inl rfl) rfl (.tmp rfl) fun W hW => (⟨rfl, hW.below⟩)

theorem shcopy_ok {w : World} {hb : Nat} {q : Sh} (hc : Cells w hb 0 q.c) : Ret Tryz.prog 307 [.pointer (some ⟨hb, 0, none⟩)] w (fun b : Nat => .pointer (some ⟨b, 0, none⟩)) (fun _ => True) (fun b => [cellR b 398 q.c]) := by
  refine begin_ Tryz.func307 rfl rfl rfl ?_
  refine xc_seq <| xc_region <| xp rfl (asg rfl) <| xl_nil <| xq_then <| ?_
  refine xc_seq <| xc_seq <| xc_region <| xp rfl (mv rfl) <| xp rfl (bin rfl rfl (bk_peql pe_370)) <| xl_nil <| xq_then <| xc_cond rfl (fun hc1 => ?_) (fun hc1 => ?_)
  ·
    exact absurd hc1 (by simp)
  ·
    refine xc_skip <| xq_then <| xc_seq <| xc_region <| xp rfl (mv rfl) <| xp rfl (nc rfl) <| xp rfl (ldc kd_398 rfl (vs := _) (fun W hW => hold_cells (o := 0) hc hW.below) rfl) <| xe rfl (al zo_398) fun b1 _ => xs (st sz_398 rfl rfl rfl rfl .head rfl rfl) <| xl_nil <| xq_then <| ?_
    refine xc_seq <| xc_region <| xp rfl (asg rfl) <| xl_nil <| xq_then <| xc_ret <| leave1 (.inl rfl) rfl (.tmp rfl) fun W hW => (⟨b1, rfl, trivial, hW⟩)

theorem shlen_ok {w : World} {hb : Nat} {q : Sh} (hc : Cells w hb 0 q.c) : RetV Tryz.prog 300 [.pointer (some ⟨hb, 0, none⟩)] w (.int .u64 q.n) := by
  refine begin_ Tryz.func300 rfl rfl rfl ?_
  refine xc_seq <| xc_region <| xp rfl (asg rfl) <| xl_nil <| xq_then <| ?_
  refine xc_seq <| xc_seq <| xc_region <| xp rfl (mv rfl) <| xv rfl Tryz.call306 rfl rfl (fun W hW => (shnone_ok (hc.below hW.below))) <| xl_nil <| xq_then <| xc_cond rfl (fun hc1 => ?_) (fun hc1 => ?_)
  ·
    exact absurd hc1 (by simp)
  ·
    refine xc_skip <| xq_then <| xc_seq <| xc_region <| xp rfl (mv rfl) <| xp rfl (nc rfl) <| xp rfl (fa fa_398_3 rfl) <| xp rfl (ldc kd_33 rfl (vs := _) (fun W hW => hold_cells (o := 10) hc hW.below) rfl) <| xp rfl (asg rfl) <| xl_nil <| xq_then <| xc_ret <| leave1 (.inl rfl) rfl (.tmp rfl) fun W hW => (⟨rfl, hW.below⟩)

theorem takes_ok {w : World} (hG : Glob w) {hb : Nat} {q : Sh} (hr : q.rest.size < 64) {t : ByteArray} (ht : t.size ≤ 4611686018427387904) : RetM Tryz.prog w 278 [.pointer (some ⟨hb, 0, none⟩), .string t] [cellR hb 398 q.c] (fun _ : Unit => .tuple #[]) (fun _ => True) (fun _ => [cellR hb 398 (takesF q t).c]) := by
  intro w0 Fr0 W hB hW
  have hG := hG.below hB
  refine begin_mat Tryz.func278 rfl rfl rfl hW ?_
  refine xc_seq <| xc_region <| xe rfl (bx rfl rfl) fun b1 _ => xl_nil <| xq_then <| ?_
  refine xc_seq <| xc_region <| xp rfl (ld kd_370 rfl .head rfl) <| xp rfl (nc rfl) <| xp rfl (fa fa_398_3 rfl) <| xp rfl (ld kd_33 rfl (.tail .head) rfl) <| xp rfl (mv rfl) <| xp rfl (lens Tryz.underlying9 rfl) <| xp rfl (cv rfl (cvi Tryz.underlying3 Tryz.underlying33)) <| xp rfl (bin rfl rfl bk_add) <| xp rfl (nc rfl) <| xp rfl (fa fa_398_3 rfl) <| xs (st sz_33 rfl rfl rfl rfl (.tail .head) rfl rfl) <| xl_nil <| xq_then <| ?_
  refine xc_seq <| xc_region <| xp rfl (ld kd_370 rfl .head rfl) <| xp rfl (nc rfl) <| xp rfl (fa fa_398_2 rfl) <| xp rfl (ld kd_9 rfl (.tail .head) rfl) <| xp rfl (mv rfl) <| xp rfl (bin rfl rfl (bk_sadd (by omega))) <| xr rfl Tryz.call303 rfl rfl (fun W hW => (blocks_ok _ W)) fun sb _ => xl_nil <| xq_then <| xc_block <| ?_
  -- RANGE 1 f=('Operand.tmp', '22') params=[23, 24] res=['sb', 'b1', 'hb']
  refine xc_range (pl := [23, 24]) (It := ([cellR sb 9 [.string (q.rest ++ t)]])) (all := (blocks (q.rest ++ t))) (encs := encB) (fun pre L => (L = cellR b1 370 [.pointer (some ⟨hb, 0, none⟩)] :: cellR hb 398 (foldB ⟨q.s, q.rest, IntKind.u64.wrap (q.n + IntKind.u64.wrap t.size)⟩ pre).c :: Fr0)) (fun c pre L => False) Tryz.call318 rfl (fun _ => rfl) rfl (blocks_iter _) rfl (fun l pre post x L Fr hall hJ => ?_) (fun b L hJ => ?_) (fun b c pre post L hall hJ => ?_)
  ·
    obtain rfl := hJ
    have hmem : x ∈ blocks (q.rest ++ t) := by rw [hall]; simp
    obtain ⟨xb, xw⟩ := x
    refine xc_seq <| xc_region <| xp rfl (asg rfl) <| xl_nil <| xq_then <| ?_
    refine xc_region <| xp rfl (asg rfl) <| xl_nil <| xq_rnd fun Fr => ?_
    refine xc_block <| xc_seq <| xc_region <| xp rfl (ld kd_370 rfl .head rfl) <| xp rfl (nc rfl) <| xp rfl (fa fa_398_2 rfl) <| xs (st sz_9 rfl rfl rfl rfl (.tail .head) rfl rfl) <| xl_nil <| xq_then <| ?_
    refine xc_seq <| xc_region <| xp rfl (mv rfl) <| xl_nil <| xq_then <| xc_cond rfl (fun hc1 => ?_) (fun hc1 => ?_)
    ·
      have hxw : xw = true := hc1
      subst hxw
      have hsz := blk_whole _ _ _ hmem
      refine xc_draw (canon := [(0, .p), (1, .p), (2, .p), (3, .p), (5, .p), (4, .x), (6, .x), (7, .p), (8, .p), (9, .p), (10, .p), (11, .p), (12, .x)]) (Z := HP _ [cellR b1 _ _]) mixed_ rfl (akp <| akp <| akp <| akp <| akp <| akx <| akx <| akp <| akp <| akp <| akp <| akp <| akx <| ak0) (zsub (.cons_cons _ <| .cons _ <| List.nil_sublist _)) ?_
      refine dp rfl rfl rfl rfl (ld kd_370 rfl .head rfl) <| dp rfl rfl rfl rfl (ld kd_370 rfl .head rfl) <| dp rfl rfl rfl rfl (nc rfl) <| dp rfl rfl rfl rfl (fa fa_398_1 rfl) <| dp rfl rfl rfl rfl (mv rfl) <| das rfl rfl rfl rfl (ld kd_395 rfl (.tail .head) rfl) (zsub (.cons_cons _ <| .cons _ <| List.nil_sublist _)) <| dv rfl rfl rfl (.inl rfl) rfl Tryz.call304 rfl rfl (fun W hW => (next_ok (hG.up hW) _ hsz)) (zsub (.cons_cons _ <| .cons _ <| List.nil_sublist _)) <| dp rfl rfl rfl rfl (mv rfl) <| dp rfl rfl rfl rfl (ext rfl rfl) <| dp rfl rfl rfl rfl (ext rfl rfl) <| dp rfl rfl rfl rfl (nc rfl) <| dp rfl rfl rfl rfl (fa fa_398_1 rfl) <| dst_ rfl rfl rfl rfl sz_395 rfl rfl rfl rfl (.tail .head) rfl rfl (zsub (.cons_cons _ <| .cons _ <| List.nil_sublist _)) <| dend <| xq_in <| xq_body (L1 := (cellR b1 370 [.pointer (some ⟨hb, 0, none⟩)] :: cellR hb 398 (stepB (foldB ⟨q.s, q.rest, IntKind.u64.wrap (q.n + IntKind.u64.wrap t.size)⟩ pre) (xb, true)).c :: Fr0)) (by rw [foldB_snoc])
    ·
      have hxw : xw = false := hc1
      subst hxw
      have hsz := blk_left _ _ _ (Nat.le_refl _) hmem
      refine xc_draw (canon := [(0, .p), (1, .p), (2, .x), (3, .p), (4, .p), (5, .x)]) (Z := HP _ [cellR b1 _ _]) mixed_ rfl (akp <| akp <| akx <| akp <| akp <| akx <| ak0) (zsub (.cons_cons _ <| .cons _ <| List.nil_sublist _)) ?_
      refine dp rfl rfl rfl rfl (ld kd_370 rfl .head rfl) <| dp rfl rfl rfl rfl (mv rfl) <| dv rfl rfl rfl (.inl rfl) rfl Tryz.call305 rfl rfl (fun W hW => (clone_ok _ (show xb.size ≤ _ by omega) W)) (zsub (.cons_cons _ <| .cons _ <| List.nil_sublist _)) <| dp rfl rfl rfl rfl (nc rfl) <| dp rfl rfl rfl rfl (fa fa_398_2 rfl) <| dst_ rfl rfl rfl rfl sz_9 rfl rfl rfl rfl (.tail .head) rfl rfl (zsub (.cons_cons _ <| .cons _ <| List.nil_sublist _)) <| dend <| xq_in <| xq_body (L1 := (cellR b1 370 [.pointer (some ⟨hb, 0, none⟩)] :: cellR hb 398 (stepB (foldB ⟨q.s, q.rest, IntKind.u64.wrap (q.n + IntKind.u64.wrap t.size)⟩ pre) (xb, false)).c :: Fr0)) (by rw [foldB_snoc])
  ·
    obtain rfl := hJ
    refine xq_in <| leaveM1 (.inr rfl) .head (rets0 rfl ) fun W hW => (⟨(), rfl, trivial, hW.drop.drop⟩)
  ·
    exact hJ.elim

end Go.Eng
end
section
namespace Go.Eng
open Go Go.RowKit Go.Proofs
set_option linter.unusedVariables false
set_option linter.unusedSimpArgs false
set_option maxRecDepth 4000
theorem bk_pneq_same {P : Program} {T tp : TypeId} {x y : Operand} {a : Addr} {j : TypeInfo} (hp : P.underlying T = some (.pointer tp)) (hte : P.info? tp = some j) : BinOK P .neq T x y (.pointer (some a)) (.pointer (some a)) (.bool false) := fun w => by
  have := Lib.run_neq_ptr_same (P := P) w a hp hte
  simp [eqGuard, this]
theorem info_417 : ∃ j, Tryz.prog.info? 417 = some j ∧ j.size = 2 := by
  have h : (Tryz.prog.info? 417).map (·.size) = some 2 := by kernel_rfl
  cases hi : Tryz.prog.info? 417 with
  | none => simp [hi] at h
  | some j => exact ⟨j, rfl, by simpa [hi] using h⟩
theorem toUns {w0 W : World} {Rs : List Res} {b : Nat} {u v : Value} {f : Res → List Res} (hW : HP w0 Rs W) (hp : Pos Rs (cellR b 417 [u, v]) f) : (convert 415 429 (.pointer (some ⟨b, 0, none⟩))).run Tryz.prog W = .ok (.pointer (some ⟨b, 0, none⟩)) W := by
  obtain ⟨j, h1, h2⟩ := info_417
  exact Lib.run_to_unsafe W ⟨b, 0, none⟩ Tryz.underlying415 Tryz.underlying429 h1 (by rw [h2]; decide) (shape_of hW hp) (by simp)
theorem ofUns {w0 W : World} {Rs : List Res} {b : Nat} {u v : Value} {f : Res → List Res} (hW : HP w0 Rs W) (hp : Pos Rs (cellR b 417 [u, v]) f) : (convert 429 415 (.pointer (some ⟨b, 0, none⟩))).run Tryz.prog W = .ok (.pointer (some ⟨b, 0, none⟩)) W := by
  obtain ⟨j, h1, h2⟩ := info_417
  exact Lib.run_from_unsafe W ⟨b, 0, none⟩ Tryz.underlying429 Tryz.underlying415 h1 (shape_of hW hp) (by kernel_rfl)
theorem noEsc (v : Value) (w : World) : (callFunc 335 #[v]).run Tryz.prog w = .ok (.value v) w := by
  rw [run_callFunc_extern Tryz.func335 (by kernel_rfl) (by kernel_rfl) (by kernel_rfl) (e := Extern.AbiNoEscape.same) (by kernel_rfl), Lib.run_noEscape]; rfl

theorem cc_fresh {w : World} {b : Nat} {v : Value} : RetM Tryz.prog w 331 [.pointer (some ⟨b, 0, none⟩)] [cellR b 417 [.pointer none, v]] (fun _ : Unit => .tuple #[]) (fun _ => True) (fun _ => [cellR b 417 [.pointer (some ⟨b, 0, none⟩), v]]) := by
  intro w0 Fr0 W hB hW
  refine begin_at Tryz.func331 rfl rfl rfl hW ?_
  refine xc_seq <| xc_region <| xp rfl (mv rfl) <| xp rfl (nc rfl) <| xp rfl (fa fa_417_0 rfl) <| xp rfl (ld kd_415 rfl .head rfl) <| xp rfl (bin rfl rfl (bk_peql pe_415)) <| xl_nil <| xq_then <| xc_cond rfl (fun hc1 => ?_) (fun hc1 => ?_)
  ·
    refine xc_region <| xp rfl (mv rfl) <| xp rfl (mv rfl) <| xp rfl (cvw rfl (fun W hW => toUns hW .head)) <| xp rfl (row rfl rfl (fun W _ => noEsc _ W)) <| xp rfl (cvw rfl (fun W hW => ofUns hW .head)) <| xp rfl (nc rfl) <| xp rfl (fa fa_417_0 rfl) <| xs (st sz_415 rfl rfl rfl rfl .head rfl rfl) <| xl_nil <| leave0 (.inr rfl) rfl  fun W hW => (⟨(), rfl, trivial, hW⟩)
  ·
    exact absurd hc1 (by simp)

theorem cc_used {w : World} {b : Nat} {v : Value} : RetM Tryz.prog w 331 [.pointer (some ⟨b, 0, none⟩)] [cellR b 417 [.pointer (some ⟨b, 0, none⟩), v]] (fun _ : Unit => .tuple #[]) (fun _ => True) (fun _ => [cellR b 417 [.pointer (some ⟨b, 0, none⟩), v]]) := by
  intro w0 Fr0 W hB hW
  obtain ⟨j, hj1, hj2⟩ := info_417
  refine begin_at Tryz.func331 rfl rfl rfl hW ?_
  refine xc_seq <| xc_region <| xp rfl (mv rfl) <| xp rfl (nc rfl) <| xp rfl (fa fa_417_0 rfl) <| xp rfl (ld kd_415 rfl .head rfl) <| xp rfl (bin rfl rfl (bk_peql pe_415)) <| xl_nil <| xq_then <| xc_cond rfl (fun hc1 => ?_) (fun hc1 => ?_)
  ·
    exact absurd hc1 (by simp)
  ·
    refine xc_seq <| xc_region <| xp rfl (mv rfl) <| xp rfl (nc rfl) <| xp rfl (fa fa_417_0 rfl) <| xp rfl (ld kd_415 rfl .head rfl) <| xp rfl (mv rfl) <| xp rfl (bin rfl rfl (bk_pneq_same Tryz.underlying415 hj1)) <| xl_nil <| xq_then <| xc_cond rfl (fun hc2 => ?_) (fun hc2 => ?_)
    ·
      exact absurd hc2 (by decide)
    ·
      refine xc_skip <| leave0 (.inr rfl) rfl  fun W hW => (⟨(), rfl, trivial, hW⟩)

theorem cc_ok {w : World} {b : Nat} {p : Option Addr} {v : Value} (hp : p = none ∨ p = some ⟨b, 0, none⟩) : RetM Tryz.prog w 331 [.pointer (some ⟨b, 0, none⟩)] [cellR b 417 [.pointer p, v]] (fun _ : Unit => .tuple #[]) (fun _ => True) (fun _ => [cellR b 417 [.pointer (some ⟨b, 0, none⟩), v]]) := by
  rcases hp with rfl | rfl
  · exact cc_fresh
  · exact cc_used

theorem wbyte_ok {w : World} {b : Nat} {p : Option Addr} {v : Value} {m : Nat} {ys : List Value} {c : Int} (hp : p = none ∨ p = some ⟨b, 0, none⟩) (hm : m ≤ 140737488355327) :
  RetM Tryz.prog w 322 [.pointer (some ⟨b, 0, none⟩), .int .u8 c] [cellR b 417 [.pointer p, v], ownR 5 1 v m ys] (fun _ : Option Addr × Nat => .nilIface) (fun _ => True) (fun s => [cellR b 417 [.pointer (some ⟨b, 0, none⟩), .slice s.1 (m + 1) s.2], ownR 5 1 (.slice s.1 (m + 1) s.2) (m + 1) (ys ++ [.int .u8 c])]) := by
  intro w0 Fr0 W hB hW
  refine begin_at Tryz.func322 rfl rfl rfl hW ?_
  refine xc_seq <| xc_region <| xp rfl (asg rfl) <| xl_nil <| xq_then <| ?_
  refine xc_seq <| xc_region <| xp rfl (mv rfl) <| xm rfl Tryz.call331 rfl rfl (.tc .head <| .tn) (cc_ok hp) fun _ _ => xl_nil <| xq_then <| ?_
  refine xc_seq <| xc_region <| xp rfl (mv rfl) <| xp rfl (mv rfl) <| xp rfl (nc rfl) <| xp rfl (fa fa_417_1 rfl) <| xp rfl (ld kd_213 rfl .head rfl) <| xp rfl (mv rfl) <| xe rfl (bs rfl bs_213_1) fun b1 _ => xe rfl (apS mo_213 rfl rfl (.tail <| .tail .head) rfl (nw .head) (by simp [Value.oneCell']) (by simp only [maxLen]; omega) (by omega)) fun s1 _ => xp rfl (nc rfl) <| xp rfl (fa fa_417_1 rfl) <| xs (st sz_213 rfl rfl rfl rfl (.tail .head) rfl rfl) <| xl_nil <| xq_then <| ?_
  refine xc_seq <| xc_region <| xp rfl (asg rfl) <| xl_nil <| xq_then <| xc_ret <| leave1 (.inl rfl) rfl (.tmp rfl) fun W hW => (⟨s1, rfl, trivial, hW.drop⟩)

end Go.Eng
end
section
namespace Go.Eng
open Go Go.RowKit Go.Proofs
set_option linter.unusedVariables false
set_option linter.unusedSimpArgs false
set_option maxRecDepth 4000
theorem xc_toH {r : Option Nat} {n N : Nat} {P : Program} {D : List Deferred} {E : Env} {H : World → Prop} {Q : Exit → Act → World → Prop} {c : Code} (H' : World → Prop) (h : ∀ W, H W → H' W) (k : XC r n P c Q N D E H') : XC r n P c Q N D E H := fun a W ha hw => k a W ha (h W hw)
/-- A builder of the call's own that holds bytes. -/
theorem bld_is {w W : World} {b : Nat} {p : Option Addr} {v : Value} {m : Nat} {ys : List Value} {Rs : List Res} (hp : p = none ∨ p = some ⟨b, 0, none⟩) (h : HP w (cellR b 417 [.pointer p, v] :: ownR 5 1 v m ys :: Rs) W) : Lib.IsBuilder 417 5 w.heap.size b ys W := by
  have h1 := h.cell .head
  have h2 : (ownR 5 1 v m ys).ok W := h.mem_ok (.tail .head)
  have hlt := HPs.lt h.res _ (List.mem_cons_self) b rfl
  have hsep := h.res.2.2.1 (ownR 5 1 v m ys) (by simp) b rfl
  have hm : ys.length = m := by have := h2.1; omega
  have hat : Lib.BuilderAt 417 5 w.heap.size b (.pointer p) ys W := by
    refine ⟨hlt.1, v, h1, ?_, hsep⟩
    rw [hm]
    refine ⟨h2.1, ?_⟩
    rcases h2.2 with h3 | ⟨g, cap, cur, e, _, r⟩
    · exact .inl h3
    · refine .inr ⟨g, cap, cur, e, ?_, r⟩
      exact (HPs.lt h.res (ownR 5 1 v m ys) (by simp) g (by rw [e]; rfl)).1
  rcases hp with rfl | rfl
  · exact .inl hat
  · exact .inr hat
theorem blen_ok {w W : World} {b : Nat} {p : Option Addr} {v : Value} {m : Nat} {ys : List Value} {Rs : List Res} (hp : p = none ∨ p = some ⟨b, 0, none⟩) (h : HP w (cellR b 417 [.pointer p, v] :: ownR 5 1 v m ys :: Rs) W) : RetV Tryz.prog 323 [.pointer (some ⟨b, 0, none⟩)] W (.int .i64 ys.length) :=
  RetV.of (Tryz.Builder_Len _ b ys W (bld_is hp h))
theorem bstr {r : Option Nat} {n : Nat} {E : Env} {w : World} {b : Nat} {p : Option Addr} {v : Value} {m : Nat} {l : List UInt8} {Rs : List Res} {ty : TypeId} {x : Operand} {ats : Array TypeId} (hp : p = none ∨ p = some ⟨b, 0, none⟩) (hx : E.ev x = some (.pointer (some ⟨b, 0, none⟩))) :
    OpE r n Tryz.prog (.call { callee := .value (.func 324), args := #[x], argTypes := ats }) ty E (HP w (cellR b 417 [.pointer p, v] :: ownR 5 1 v m (Lib.byteCells l) :: Rs)) (fun _ : Unit => .string ⟨l.toArray⟩) (fun _ => True) (fun _ => HP w []) :=
  calls_ (first := []) (cap := []) (args := [x]) (vs := [.pointer (some ⟨b, 0, none⟩)]) Tryz.call324 rfl (by simp [Env.evs, hx]) (by simp) (fun W hW => (Tryz.Builder_String_any w.heap.size b l W (bld_is hp hW) hW.below.size).mono fun e W' h =>
    ⟨(), h.1, trivial, HP.of_below (hW.below.trans h.2)⟩)
def padZ (n : Nat) : Nat := (119 - n % 64) % 64
def pb (n j : Nat) : Nat := n * 8 % 18446744073709551616 / 2 ^ (56 - 8 * j) % 256
def padL (n z j : Nat) : List UInt8 := 128 :: (List.replicate z 0 ++ (List.range j).map fun i => UInt8.ofNat (pb n i))
def padF (n : Nat) : ByteArray := ⟨(padL n (padZ n) 8).toArray⟩
theorem padF_size (n : Nat) : (padF n).size = padZ n + 9 := by simp [padF, padL, ByteArray.size]
theorem padL_len (n z j : Nat) : (padL n z j).length = 1 + z + j := by simp [padL]; omega
theorem bcells_snoc (l : List UInt8) (c : Nat) (hc : c < 256) : Lib.byteCells l ++ [.int .u8 (c : Int)] = Lib.byteCells (l ++ [UInt8.ofNat c]) := by
  simp [Lib.byteCells]; omega
theorem padL_z (n z : Nat) : padL n z 0 ++ [UInt8.ofNat 0] = padL n (z + 1) 0 := by simp [padL, List.replicate_succ']
theorem padL_j (n z j : Nat) : padL n z j ++ [UInt8.ofNat (pb n j)] = padL n z (j + 1) := by simp [padL, List.range_succ]
theorem pad_z {n : Nat} : IntKind.i64.wrap (1 + IntKind.i64.wrap ((IntKind.u64.wrap (119 - (n : Int).tmod 64)).tmod 64)) = ((1 + padZ n : Nat) : Int) := by
  have h1 : (n : Int).tmod 64 = ((n % 64 : Nat) : Int) := by rw [Int.tmod_eq_emod_of_nonneg (by omega)]; norm_cast
  have h2 : IntKind.u64.wrap (119 - (n : Int).tmod 64) = ((119 - n % 64 : Nat) : Int) := by
    rw [h1, show (119 : Int) - ((n % 64 : Nat) : Int) = ((119 - n % 64 : Nat) : Int) by omega, wrapU64]; omega
  have h3 : (IntKind.u64.wrap (119 - (n : Int).tmod 64)).tmod 64 = ((padZ n : Nat) : Int) := by
    rw [h2, Int.tmod_eq_emod_of_nonneg (by omega)]; simp only [padZ]; omega
  have h4 : padZ n < 64 := Nat.mod_lt _ (by decide)
  have h5 : IntKind.i64.wrap ((padZ n : Nat) : Int) = ((padZ n : Nat) : Int) := wrap64 (by omega) (by omega)
  rw [h3, h5, wrap64 (by omega) (by omega)]; omega
theorem pad_b {n j : Nat} (hj : j < 8) : IntKind.u8.wrap ((IntKind.u64.wrap ((n : Int) * 8)).fdiv (2 ^ (min ((56 : Int) - 8 * (j : Int)).toNat IntKind.u64.bits))) = ((pb n j : Nat) : Int) := by
  rw [show (n : Int) * 8 = ((n * 8 : Nat) : Int) by omega, wrapU64, fdivNat, wrapU8]
  have : min ((56 : Int) - 8 * (j : Int)).toNat IntKind.u64.bits = 56 - 8 * j := by simp [IntKind.bits]; omega
  rw [this]; rfl

theorem padding_ok (n : Nat) (w : World) : RetV Tryz.prog 308 [.int .u64 n] w (.string (padF n)) := by
  have hzl : padZ n < 64 := Nat.mod_lt _ (by decide)
  refine begin_ Tryz.func308 rfl rfl rfl ?_
  refine xc_seq <| xc_region <| xp rfl (asg rfl) <| xl_nil <| xq_then <| ?_
  refine xc_seq <| xc_region <| xe rfl (al zo_417) fun b1 _ => xl_nil <| xq_then <| ?_
  refine xc_seq <| xc_toH (HP w [cellR b1 417 [.pointer none, .slice none 0 0], ownR 5 1 (.slice none 0 0) 0 []]) (fun W hW => (ownR_nil w W 5 1 hW).swap) ?_
  refine xc_region <| xm rfl Tryz.call322 rfl rfl (.tc .head <| .tc .head <| .tn) (wbyte_ok (.inl rfl) (by decide)) fun s _ => xl_nil <| xq_then <| xc_seq <| xc_block <| xc_loopP (σ := Nat × Option Addr × Nat) (fun s => [(0, _), (3, _)]) (fun s => s.1 ≤ padZ n) (fun s => HP w [cellR b1 417 [.pointer (some ⟨b1, 0, none⟩), .slice s.2.1 (1 + s.1) s.2.2], ownR 5 1 (.slice s.2.1 (1 + s.1) s.2.2) (1 + s.1) (Lib.byteCells (padL n s.1 0))]) (fun s => 64 - s.1) (0, s) (Nat.zero_le _) (sc rfl <| sc rfl <| sn) (fun W hW => hW) fun s hk => ?_
  obtain ⟨k, A, c⟩ := s
  simp only at hk
  have hlen := padL_len n k 0
  refine xc_seq <| xc_seq <| xc_region <| xv rfl Tryz.call323 rfl rfl (fun W hW => (blen_ok (.inr rfl) hW)) <| xp rfl (mv rfl) <| xp rfl (bin rfl rfl (bk_rem (by decide))) <| xp rfl (bin rfl rfl bk_sub) <| xp rfl (bin rfl rfl (bk_rem (by decide))) <| xp rfl (cv rfl (cvi Tryz.underlying33 Tryz.underlying3)) <| xp rfl (bin rfl rfl bk_add) <| xp rfl (bin rfl rfl bk_lss) <| xl_nil <| xq_then <| xc_cond rfl (fun hc1 => ?_) (fun hc1 => ?_)
  ·
    have hk1 : k < padZ n := by have h := of_decide_eq_true hc1; rw [pad_z] at h; simp only [Lib.byteCells_length, hlen] at h; omega
    refine xc_skip <| xq_then <| xc_block <| xc_region <| xm rfl Tryz.call322 rfl rfl (.tc .head <| .tc .head <| .tn) (wbyte_ok (.inr rfl) (by omega)) fun s _ => xl_nil <| xq_in <| xq_roundP (k + 1, s) hk1 (by simp only; omega) (sc rfl <| sc rfl <| sn) (fun W hW => by rw [← padL_z, ← bcells_snoc _ _ (by decide)]; exact hW)
  ·
    obtain rfl : k = padZ n := by have h := of_decide_eq_false hc1; rw [pad_z] at h; simp only [Lib.byteCells_length, hlen] at h; omega
    refine xc_exit <| xq_then_exit <| xq_then_exit <| xq_in_hit <| xq_then <| xc_seq <| xc_seq <| xc_region <| xp rfl (asg rfl) <| xl_nil <| xq_then <| xc_block <| xc_loopP (σ := Nat × Option Addr × Nat) (fun s => [(4, .int .i64 (56 - 8 * (s.1 : Int))), (0, _), (3, _)]) (fun s => s.1 ≤ 8) (fun s => HP w [cellR b1 417 [.pointer (some ⟨b1, 0, none⟩), .slice s.2.1 (1 + padZ n + s.1) s.2.2], ownR 5 1 (.slice s.2.1 (1 + padZ n + s.1) s.2.2) (1 + padZ n + s.1) (Lib.byteCells (padL n (padZ n) s.1))]) (fun s => 8 - s.1) (0, A, c) (Nat.zero_le _) (sc rfl <| sc rfl <| sc rfl <| sn) (fun W hW => hW) fun s hj => ?_
    obtain ⟨j, A, c⟩ := s
    simp only at hj
    refine xc_seq <| xc_seq <| xc_region <| xp rfl (mv rfl) <| xp rfl (bin rfl rfl bk_geq) <| xl_nil <| xq_then <| xc_cond rfl (fun hc2 => ?_) (fun hc2 => ?_)
    ·
      have hj1 : j < 8 := by have h := of_decide_eq_true hc2; simp only at h; omega
      refine xc_skip <| xq_then <| xc_seq <| xc_block <| xc_region <| xp rfl (mv rfl) <| xp rfl (bin rfl rfl bk_mul) <| xp rfl (mv rfl) <| xp rfl (bin rfl rfl (bk_shr (by simp only; omega))) <| xp rfl (cv rfl (cvi Tryz.underlying33 Tryz.underlying5)) <| xm rfl Tryz.call322 rfl rfl (.tc .head <| .tc .head <| .tn) (wbyte_ok (.inr rfl) (by omega)) fun s _ => xl_nil <| xq_in <| xq_then <| ?_
      refine xc_region <| xp rfl (mv rfl) <| xp rfl (bin rfl rfl bk_sub) <| xp rfl (asg rfl) <| xl_nil <| xq_roundP (j + 1, s) hj1 (by simp only; omega) (sc (iw (by omega) (by omega) (by omega) rfl) <| sc rfl <| sc rfl <| sn) (fun W hW => by rw [← padL_j, ← bcells_snoc _ (pb n j) (Nat.mod_lt _ (by decide)), ← pad_b hj1]; exact hW)
    ·
      obtain rfl : j = 8 := by have h := of_decide_eq_false hc2; simp only at h; omega
      refine xc_exit <| xq_then_exit <| xq_then_exit <| xq_in_hit <| xq_then <| xc_seq <| xc_region <| xe rfl (bstr (.inr rfl) rfl) fun _ _ => xp rfl (asg rfl) <| xl_nil <| xq_then <| xc_ret <| leave1 (.inl rfl) rfl (.tmp rfl) fun W hW => (⟨rfl, hW.below⟩)

end Go.Eng
end
section
namespace Go.Eng
open Go Go.RowKit Go.Proofs
set_option linter.unusedVariables false
set_option linter.unusedSimpArgs false
set_option maxRecDepth 4000
def db (z : Int) : UInt8 := UInt8.ofNat (IntKind.u8.wrap z).toNat
theorem db_val (z : Int) : IntKind.u8.wrap z = ((db z).toNat : Int) := by
  have h : 0 ≤ IntKind.u8.wrap z ∧ IntKind.u8.wrap z < 256 := by simp only [IntKind.wrap, IntKind.bits, IntKind.signed]; simp; omega
  simp only [db]; simp; omega
def digL (s : S8) : Nat → List UInt8
  | 0 => []
  | k + 1 => digL s k ++ [db ((s.l.getD k 0).fdiv (2 ^ min (Int.toNat 24) IntKind.u32.bits)), db ((s.l.getD k 0).fdiv (2 ^ min (Int.toNat 16) IntKind.u32.bits)), db ((s.l.getD k 0).fdiv (2 ^ min (Int.toNat 8) IntKind.u32.bits)), db (s.l.getD k 0)]
theorem digL_len (s : S8) : ∀ k, (digL s k).length = 4 * k
  | 0 => rfl
  | k + 1 => by simp [digL, digL_len s k]; omega
def digF (s : S8) : ByteArray := ⟨(digL s 8).toArray⟩
theorem digF_size (s : S8) : (digF s).size = 32 := by simp [digF, ByteArray.size, digL_len]
theorem byteCells_mk (l : List UInt8) : byteCells ⟨l.toArray⟩ = Lib.byteCells l := by simp [byteCells, ByteArray.toList_eq, Lib.byteCells]
theorem S8_at {s : S8} {k : Nat} (hk : k < 8) : (#[.int .u32 s.a, .int .u32 s.b, .int .u32 s.c, .int .u32 s.d, .int .u32 s.e, .int .u32 s.f, .int .u32 s.g, .int .u32 s.h] : Array Value)[(k : Int).toNat]? = some (.int .u32 (s.l.getD k 0)) := by
  rcases lt8 hk with rfl | rfl | rfl | rfl | rfl | rfl | rfl | rfl <;> rfl

theorem digest_ok (s : S8) (w : World) : RetV Tryz.prog 309 [s.V] w (.string (digF s)) := by
  refine begin_ Tryz.func309 rfl rfl rfl ?_
  refine xc_seq <| xc_region <| xe rfl (bx rfl rfl) fun b1 _ => xp rfl (asg rfl) <| xl_nil <| xq_then <| ?_
  refine xc_seq <| xc_region <| xp rfl (asg rfl) <| xl_nil <| xq_then <| ?_
  refine xc_seq <| xc_seq <| xc_toH (HP w [ownR 5 1 (.slice none 0 0) 0 [], cellR b1 395 s.cells]) (fun W hW => ownR_nil w W 5 1 hW) ?_
  refine xc_region <| xp rfl (ld kd_395 rfl (.tail .head) rfl) <| xp rfl (mv rfl) <| xl_nil <| xq_then <| xc_block <| xc_loopP (σ := Nat × Option Addr × Nat) (fun q => [(3, .slice q.2.1 (4 * q.1) q.2.2), (7, .int .i64 q.1), (6, _)]) (fun q => q.1 ≤ 8) (fun q => HP w [ownR 5 1 (.slice q.2.1 (4 * q.1) q.2.2) (4 * q.1) (Lib.byteCells (digL s q.1)), cellR b1 395 s.cells]) (fun q => 8 - q.1) (0, none, 0) (Nat.zero_le _) (sc rfl <| sc rfl <| sc rfl <| sn) (fun W hW => hW.sub (.refl _)) fun q hk => ?_
  obtain ⟨k, A, c⟩ := q
  simp only at hk
  refine xc_seq <| xc_region <| xp rfl (bin rfl rfl bk_lss) <| xl_nil <| xq_then <| xc_seq <| xc_cond rfl (fun hc1 => ?_) (fun hc1 => ?_)
  ·
    have hk1 : k < 8 := by have h := of_decide_eq_true hc1; simp only at h; omega
    refine xc_skip <| xq_then <| xc_seq <| xc_block <| xc_seq <| xc_region <| xp rfl (ixv Tryz.underlying395 Tryz.isAgg335 Tryz.sizeOf335 rfl rfl (by simp only; omega) (by simp only; omega) (S8_at hk1)) <| xp rfl (asg rfl) <| xl_nil <| xq_then <| ?_
    refine xc_region <| xp rfl (mv rfl) <| xp rfl (mv rfl) <| xp rfl (bin rfl rfl (bk_shr (by decide))) <| xp rfl (cv rfl (cvi Tryz.underlying335 Tryz.underlying5)) <| xp rfl (mv rfl) <| xp rfl (bin rfl rfl (bk_shr (by decide))) <| xp rfl (cv rfl (cvi Tryz.underlying335 Tryz.underlying5)) <| xp rfl (mv rfl) <| xp rfl (bin rfl rfl (bk_shr (by decide))) <| xp rfl (cv rfl (cvi Tryz.underlying335 Tryz.underlying5)) <| xp rfl (mv rfl) <| xp rfl (cv rfl (cvi Tryz.underlying335 Tryz.underlying5)) <| xe rfl (bs rfl bs_213_4) fun b2 _ => xe rfl (apS mo_213 rfl rfl (.tail .head) rfl (nw .head) (by simp [Value.oneCell']) (by simp only [maxLen]; omega) (by simp only; omega)) fun s1 _ => xp rfl (asg rfl) <| xl_nil <| xq_in <| xq_then <| ?_
    refine xc_region <| xp rfl (bin rfl rfl bk_add) <| xp rfl (mv rfl) <| xl_nil <| xq_roundP (k + 1, s1) hk1 (by simp only; omega) (sc rfl <| sc (iw (by omega) (by omega) (by omega) rfl) <| sc rfl <| sn) (fun W hW => by  simp only [db_val] at hW; simp only [digL, Lib.byteCells, List.map_append]; exact hW.sub (.cons _ <| .refl _))
  ·
    obtain rfl : k = 8 := by have h := of_decide_eq_false hc1; simp only at h; omega
    refine xc_exit <| xq_then_exit <| xq_then_exit <| xq_in_hit <| xq_then <| xc_seq <| xc_region <| xp rfl (mv rfl) <| xp rfl (cvs Tryz.underlying213 Tryz.underlying5 Tryz.underlying9 rfl (fun W hW => by have h := ownR_row (hW.mem_ok .head); rw [digF, byteCells_mk]; exact h)) <| xp rfl (asg rfl) <| xl_nil <| xq_then <| xc_ret <| leave1 (.inl rfl) rfl (.tmp rfl) fun W hW => (⟨rfl, hW.below⟩)

noncomputable def shSumF (q : Sh) : ByteArray := digF (takesF q (padF q.n.toNat)).s
/-- The digest. -/
noncomputable def shaF (t : ByteArray) : ByteArray := shSumF (takesF sh0 t)
theorem shaF_size (t : ByteArray) : (shaF t).size = 32 := digF_size _
theorem u64_nat (z : Int) : ∃ m : Nat, IntKind.u64.wrap z = m ∧ m < 18446744073709551616 := by
  have h : 0 ≤ IntKind.u64.wrap z ∧ IntKind.u64.wrap z < 18446744073709551616 := by simp only [IntKind.wrap, IntKind.bits, IntKind.signed]; simp; omega
  exact ⟨(IntKind.u64.wrap z).toNat, by omega, by omega⟩
theorem padding_okI {z : Int} (hz : 0 ≤ z) (w : World) : RetV Tryz.prog 308 [.int .u64 z] w (.string (padF z.toNat)) := by
  have h := padding_ok z.toNat w
  rwa [show ((z.toNat : Nat) : Int) = z by omega] at h
theorem padF_le (n : Nat) : (padF n).size ≤ 73 := by rw [padF_size]; have : padZ n < 64 := Nat.mod_lt _ (by decide); omega

theorem shsum_ok {w : World} (hG : Glob w) {hb : Nat} {q : Sh} (hq : 0 ≤ q.n) (hr : q.rest.size < 64) (hc : Cells w hb 0 q.c) : RetV Tryz.prog 279 [.pointer (some ⟨hb, 0, none⟩)] w (.tuple #[.string (shSumF q), .int .i64 0]) := by
  have hn : q.n = ((q.n.toNat : Nat) : Int) := by omega
  have hpl := padF_le q.n.toNat
  refine begin_ Tryz.func279 rfl rfl rfl ?_
  refine xc_seq <| xc_region <| xp rfl (asg rfl) <| xp rfl (asg rfl) <| xl_nil <| xq_then <| ?_
  refine xc_seq <| xc_seq <| xc_region <| xp rfl (mv rfl) <| xv rfl Tryz.call306 rfl rfl (fun W hW => (shnone_ok (hc.below hW.below))) <| xl_nil <| xq_then <| xc_cond rfl (fun hc1 => ?_) (fun hc1 => ?_)
  ·
    exact absurd hc1 (by simp)
  ·
    refine xc_skip <| xq_then <| xc_seq <| xc_region <| xp rfl (mv rfl) <| xr rfl Tryz.call307 rfl rfl (fun W hW => (shcopy_ok (hc.below hW.below))) fun eb _ => xp rfl (asg rfl) <| xl_nil <| xq_then <| ?_
    refine xc_seq <| xc_region <| xp rfl (mv rfl) <| xp rfl (mv rfl) <| xp rfl (nc rfl) <| xp rfl (fa fa_398_3 rfl) <| xp rfl (ldc kd_33 rfl (vs := _) (fun W hW => hold_cells (o := 10) hc hW.below) rfl) <| xv rfl Tryz.call308 rfl rfl (fun W hW => (padding_okI hq W)) <| xm rfl Tryz.call278 rfl rfl (.tc .head <| .tn) (takes_ok hG hr (by omega)) fun _ _ => xl_nil <| xq_then <| ?_
    refine xc_seq <| xc_region <| xp rfl (mv rfl) <| xp rfl (nc rfl) <| xp rfl (fa fa_398_1 rfl) <| xp rfl (ld kd_395 rfl .head rfl) <| xv rfl Tryz.call309 rfl rfl (fun W hW => (digest_ok _ W)) <| xp rfl (asg rfl) <| xp rfl (asg rfl) <| xl_nil <| xq_then <| xc_ret <| leave2 (.inl rfl) rfl (.tmp rfl) (.tmp rfl) fun W hW => (⟨rfl, hW.below⟩)

theorem sha_ok {w : World} (hG : Glob w) {t : ByteArray} (ht : t.size ≤ 4611686018427387904) : RetV Tryz.prog 241 [.string t] w (.string (shaF t)) := by
  have hr1 := takesF_rest sh0 t
  have hn1 : 0 ≤ (takesF sh0 t).n := by rw [takesF_n]; exact u64wrap_nonneg _
  refine begin_ Tryz.func241 rfl rfl rfl ?_
  refine xc_seq <| xc_region <| xp rfl (asg rfl) <| xl_nil <| xq_then <| ?_
  refine xc_seq <| xc_region <| xr rfl Tryz.call277 rfl rfl (fun W hW => (new_ok W)) fun hb _ => xp rfl (asg rfl) <| xl_nil <| xq_then <| ?_
  refine xc_seq <| xc_region <| xp rfl (mv rfl) <| xp rfl (mv rfl) <| xm rfl Tryz.call278 rfl rfl (.tc .head <| .tn) (takes_ok hG (by decide) ht) fun _ _ => xl_nil <| xq_then <| ?_
  refine xc_seq <| xc_region <| xp rfl (mv rfl) <| xv rfl Tryz.call279 rfl rfl (fun W hW => (shsum_ok (hG.up hW) hn1 hr1 (cells_of hW .head))) <| xp rfl (mv rfl) <| xp rfl (ext rfl rfl) <| xp rfl (ext rfl rfl) <| xp rfl (asg rfl) <| xp rfl (asg rfl) <| xl_nil <| xq_then <| ?_
  refine xc_seq <| xc_region <| xp rfl (mv rfl) <| xp rfl (asg rfl) <| xl_nil <| xq_then <| xc_ret <| leave1 (.inl rfl) rfl (.tmp rfl) fun W hW => (⟨rfl, hW.below⟩)

theorem shwrite_ok {w : World} (hG : Glob w) {hb : Nat} {q : Sh} (hr : q.rest.size < 64) {m : Nat} (hq : q.n = m) (hm : m ≤ 2147483648) {t : ByteArray} (ht : t.size ≤ 1073741824) : RetM Tryz.prog w 298 [.pointer (some ⟨hb, 0, none⟩), .string t] [cellR hb 398 q.c] (fun _ : Unit => .int .i64 0) (fun _ => True) (fun _ => [cellR hb 398 (takesF q t).c]) := by
  intro w0 Fr0 W hB hW
  have hG := hG.below hB
  refine begin_at Tryz.func298 rfl rfl rfl hW ?_
  refine xc_seq <| xc_region <| xp rfl (asg rfl) <| xl_nil <| xq_then <| ?_
  refine xc_seq <| xc_block <| xc_seq <| xc_region <| xp rfl (mv rfl) <| xv rfl Tryz.call306 rfl rfl (fun W hW => (shnone_ok (cells_of hW .head))) <| xp rfl (asg rfl) <| xl_nil <| xq_then <| xc_cond rfl (fun hc1 => ?_) (fun hc1 => ?_)
  ·
    exact absurd hc1 (by simp)
  ·
    refine xc_seq <| xc_region <| xp rfl (mv rfl) <| xp rfl (lens Tryz.underlying9 rfl) <| xp rfl (cv rfl (cvi Tryz.underlying3 Tryz.underlying33)) <| xp rfl (mv rfl) <| xp rfl (nc rfl) <| xp rfl (fa fa_398_3 rfl) <| xp rfl (ld kd_33 rfl .head rfl) <| xp rfl (bin rfl rfl bk_sub) <| xp rfl (bin rfl rfl bk_gtr) <| xp rfl (asg rfl) <| xl_nil <| xq_then <| xc_cond rfl (fun hc2 => ?_) (fun hc2 => ?_)
    ·
      exfalso; have h := of_decide_eq_true hc2; rw [wrapU64, hq, show (4294967296 : Int) - (m : Int) = ((4294967296 - m : Nat) : Int) by omega, wrapU64] at h; omega
    ·
      refine xc_skip <| xq_in <| xq_then <| xc_seq <| xc_region <| xp rfl (mv rfl) <| xp rfl (mv rfl) <| xm rfl Tryz.call278 rfl rfl (.tc .head <| .tn) (takes_ok hG hr (by omega)) fun _ _ => xl_nil <| xq_then <| ?_
      refine xc_seq <| xc_region <| xp rfl (asg rfl) <| xl_nil <| xq_then <| xc_ret <| leave1 (.inl rfl) rfl (.tmp rfl) fun W hW => (⟨(), rfl, trivial, hW⟩)

end Go.Eng
end
section
namespace Go.Eng
open Go Go.RowKit Go.Proofs
set_option linter.unusedVariables false
set_option linter.unusedSimpArgs false
set_option maxRecDepth 4000
def nulls (c : Nat) : ByteArray := ⟨(Lib.repeatL [0] c).toArray⟩
theorem nulls_size (c : Nat) : (nulls c).size = c := by simp [nulls, ByteArray.size, Lib.repeatL_length]
theorem repeat_ok {z : Int} {c : Nat} (hz : z = c) (hc : c ≤ 140737488355328) (w : World) : RetV Tryz.prog 317 [.string ⟨#[0]⟩, .int .i64 z] w (.string (nulls c)) := by
  subst hz
  exact Tryz.strings_Repeat ⟨#[0]⟩ c w (by omega) (by show 1 * c ≤ _; omega)
noncomputable def keyF (k : ByteArray) : ByteArray := if 64 < k.size then shaF k else k
noncomputable def blockF (k : ByteArray) : ByteArray := keyF k ++ nulls (64 - (keyF k).size)
theorem keyF_size (k : ByteArray) : (keyF k).size ≤ 64 := by
  unfold keyF; split
  · rw [shaF_size]; decide
  · omega
theorem blockF_size (k : ByteArray) : (blockF k).size = 64 := by
  have := keyF_size k
  simp only [blockF, ByteArray.size_append, nulls_size]; omega

theorem hblock_ok {w : World} (hG : Glob w) {k : ByteArray} (hk : k.size ≤ 1048576) : RetV Tryz.prog 296 [.string k] w (.string (blockF k)) := by
  refine begin_ Tryz.func296 rfl rfl rfl ?_
  refine xc_seq <| xc_region <| xp rfl (asg rfl) <| xl_nil <| xq_then <| ?_
  refine xc_seq <| xc_seq <| xc_region <| xp rfl (mv rfl) <| xp rfl (lens Tryz.underlying9 rfl) <| xp rfl (bin rfl rfl bk_gtr) <| xl_nil <| xq_then <| xc_cond rfl (fun hc1 => ?_) (fun hc1 => ?_)
  ·
    have hk1 : 64 < k.size := by have h := of_decide_eq_true hc1; omega
    have hs := shaF_size k
    have hw : IntKind.i64.wrap (64 - ((shaF k).size : Int)) = ((32 : Nat) : Int) := by rw [hs]; decide
    refine xc_region <| xp rfl (mv rfl) <| xv rfl Tryz.call241 rfl rfl (fun W hW => (sha_ok (hG.up hW) (by omega))) <| xp rfl (asg rfl) <| xl_nil <| xq_then <| ?_
    refine xc_seq <| xc_region <| xp rfl (mv rfl) <| xp rfl (mv rfl) <| xp rfl (lens Tryz.underlying9 rfl) <| xp rfl (bin rfl rfl bk_sub) <| xv rfl Tryz.call317 rfl rfl (fun W hW => (repeat_ok hw (by decide) W)) <| xp rfl (bin rfl rfl (bk_sadd (by rw [nulls_size]; omega))) <| xp rfl (asg rfl) <| xl_nil <| xq_then <| xc_ret <| leave1 (.inl rfl) rfl (.tmp rfl) fun W hW => (⟨by simp only [blockF, keyF, if_pos hk1, hs], hW.below⟩)
  ·
    have hk1 : ¬ 64 < k.size := by have h := of_decide_eq_false hc1; omega
    have hw : IntKind.i64.wrap (64 - (k.size : Int)) = ((64 - k.size : Nat) : Int) := by rw [wrap64 (by omega) (by omega)]; omega
    refine xc_skip <| xq_then <| xc_seq <| xc_region <| xp rfl (mv rfl) <| xp rfl (mv rfl) <| xp rfl (lens Tryz.underlying9 rfl) <| xp rfl (bin rfl rfl bk_sub) <| xv rfl Tryz.call317 rfl rfl (fun W hW => (repeat_ok hw (by omega) W)) <| xp rfl (bin rfl rfl (bk_sadd (by rw [nulls_size]; omega))) <| xp rfl (asg rfl) <| xl_nil <| xq_then <| xc_ret <| leave1 (.inl rfl) rfl (.tmp rfl) fun W hW => (⟨by simp only [blockF, keyF, if_neg hk1], hW.below⟩)


def xorB (a : Nat) (c : Nat) : UInt8 := UInt8.ofNat (bitop .xor .u8 a c).toNat
theorem xorB_val (a c : Nat) : bitop .xor .u8 a c = ((xorB a c).toNat : Int) := by
  have h := db_val (bitop .xor .u8 a c)
  have h2 : ∀ z : Int, IntKind.u8.wrap (IntKind.u8.wrap z) = IntKind.u8.wrap z := fun z => by simp only [IntKind.wrap, IntKind.bits, IntKind.signed]; simp
  have h3 : IntKind.u8.wrap (bitop .xor .u8 a c) = bitop .xor .u8 a c := h2 _
  rw [h3] at h
  rw [h]; simp only [db, h3, xorB]
def xorL (l : List UInt8) (c k : Nat) : List UInt8 := (l.take k).map (fun b => xorB b.toNat c) ++ l.drop k
theorem xorL_len (l : List UInt8) (c k : Nat) : (xorL l c k).length = l.length := by simp [xorL]; omega
theorem xorL_get {l : List UInt8} {c k : Nat} (hk : k < l.length) : (xorL l c k)[k]? = some l[k] := by
  rw [xorL, List.getElem?_append_right (by simp; omega)]
  simp [Nat.min_eq_left (Nat.le_of_lt hk), List.getElem?_eq_getElem hk]
theorem xorL_step {l : List UInt8} {c k : Nat} (hk : k < l.length) : (xorL l c k).set k (xorB l[k].toNat c) = xorL l c (k + 1) := by
  have hl : ((l.take k).map (fun b => xorB b.toNat c)).length = k := by simp; omega
  rw [xorL, List.set_append_right _ _ (by rw [hl]; exact Nat.le_refl _), hl, Nat.sub_self, List.drop_eq_getElem_cons hk, List.set_cons_zero, xorL, List.take_succ_eq_append_getElem hk, List.map_append, List.append_assoc]
  rfl
def withF (s : ByteArray) (c : Nat) : ByteArray := ⟨(xorL s.data.toList c s.size).toArray⟩
theorem withF_size (s : ByteArray) (c : Nat) : (withF s c).size = s.size := by
  show (xorL s.data.toList c s.size).toArray.size = _
  rw [List.size_toArray, xorL_len]; simp
theorem mark_at {w0 W : World} {Rs : List Res} {b e : Nat} {l : List UInt8} {vs : List Value} {f : Res → List Res} (hW : HP w0 Rs W) (hp : Pos Rs (markR b e (Lib.byteCells l ++ vs)) f) {k : Nat} {x : UInt8} (hx : l[k]? = some x) : Cells W b (0 + (k : Int).toNat * 1) [.int .u8 x.toNat] := fun j v hv => by
  cases j with
  | succ j => simp at hv
  | zero =>
    simp at hv; subst hv
    have h := hW.markCell hp k (.int .u8 x.toNat) (by rw [List.getElem?_append_left (by rw [Lib.byteCells_length]; exact (List.getElem?_eq_some_iff.1 hx).1)]; simp [Lib.byteCells, hx])
    have e : 0 + (k : Int).toNat * 1 + 0 = 0 + k := by omega
    rw [e]; exact h
theorem mark_set {l : List UInt8} {vs : List Value} {k : Nat} {x : UInt8} (hk : k < l.length) : (Lib.byteCells l ++ vs).set (0 + (k : Int).toNat * 1) (.int .u8 x.toNat) = Lib.byteCells (l.set k x) ++ vs := by
  have e : 0 + (k : Int).toNat * 1 = k := by omega
  rw [e, List.set_append_left _ _ (by rw [Lib.byteCells_length]; exact hk)]
  simp [Lib.byteCells, List.map_set]
theorem byteCells_lib (s : ByteArray) : byteCells s = Lib.byteCells s.data.toList := by simp [byteCells, ByteArray.toList_eq, Lib.byteCells]

theorem with_ok {s : ByteArray} (hs : s.size ≤ 1048576) (c : Nat) (w : World) : RetV Tryz.prog 297 [.string s, .int .u8 c] w (.string (withF s c)) := by
  have hsl : s.data.toList.length = s.size := by simp
  refine begin_ Tryz.func297 rfl rfl rfl ?_
  refine xc_seq <| xc_region <| xp rfl (asg rfl) <| xl_nil <| xq_then <| ?_
  refine xc_seq <| xc_region <| xp rfl (mv rfl) <| xe rfl (cvb Tryz.underlying9 Tryz.underlying213 Tryz.underlying5 rfl) fun b1 _ => xp rfl (asg rfl) <| xl_nil <| xq_then <| ?_
  refine xc_seq <| xc_seq <| xc_region <| xp rfl (mv rfl) <| xp rfl (lenv Tryz.underlying213 rfl) <| xp rfl (mv rfl) <| xl_nil <| xq_then <| xc_block <| xc_loopP (σ := Nat) (fun k => [(11, .int .i64 k), (1, _), (5, _), (10, _)]) (fun k => k ≤ s.size) (fun k => HP w [markR b1.1 5 (Lib.byteCells (xorL s.data.toList c k) ++ List.replicate (b1.2 - s.size) (.int .u8 0))]) (fun k => s.size - k) 0 (Nat.zero_le _) (sc rfl <| sc rfl <| sc rfl <| sc rfl <| sn) (fun W hW => by rw [byteCells_lib] at hW; simpa [xorL] using hW) fun k hk => ?_
  refine xc_seq <| xc_region <| xp rfl (bin rfl rfl bk_lss) <| xl_nil <| xq_then <| xc_seq <| xc_cond rfl (fun hc1 => ?_) (fun hc1 => ?_)
  ·
    have hk1 : k < s.data.toList.length := by have h := of_decide_eq_true hc1; omega
    refine xc_skip <| xq_then <| xc_seq <| xc_block <| xc_seq <| xc_region <| xp rfl (mv rfl) <| xp rfl (asg rfl) <| xl_nil <| xq_then <| ?_
    refine xc_region <| xp rfl (mv rfl) <| xp rfl (mv rfl) <| xp rfl (ix so_213 rfl rfl (by omega) (by omega)) <| xp rfl (ldc kd_5 rfl (vs := _) (fun W hW => mark_at hW .head (xorL_get hk1)) rfl) <| xp rfl (mv rfl) <| xp rfl (bin rfl rfl bk_xor) <| xp rfl (ix so_213 rfl rfl (by omega) (by omega)) <| xs ((stm sz_5 rfl rfl rfl .head (by simp [Lib.byteCells, xorL_len]; omega))) <| xl_nil <| xq_in <| xq_then <| ?_
    refine xc_region <| xp rfl (bin rfl rfl bk_add) <| xp rfl (mv rfl) <| xl_nil <| xq_roundP (k + 1) (by omega) (by omega) (sc (iw (by omega) (by omega) (by omega) rfl) <| sc rfl <| sc rfl <| sc rfl <| sn) (fun W hW => by rw [← xorL_step hk1, ← mark_set (by rw [xorL_len]; exact hk1), ← xorB_val]; exact hW)
  ·
    obtain rfl : k = s.size := by have h := of_decide_eq_false hc1; omega
    refine xc_exit <| xq_then_exit <| xq_then_exit <| xq_in_hit <| xq_then <| xc_seq <| xc_region <| xp rfl (mv rfl) <| xp rfl (cvs Tryz.underlying213 Tryz.underlying5 Tryz.underlying9 rfl (fun W hW => by have h := hW.mem_ok .head; rw [show Lib.byteCells (xorL s.data.toList c s.size) = byteCells (withF s c) from (byteCells_mk _).symm] at h; have h2 := markR_row (cap := 0) h (by rw [withF_size]; omega); rw [withF_size] at h2; exact h2)) <| xp rfl (asg rfl) <| xl_nil <| xq_then <| xc_ret <| leave1 (.inl rfl) rfl (.tmp rfl) fun W hW => (⟨rfl, hW.below⟩)

end Go.Eng
end
section
namespace Go.Eng
open Go Go.RowKit Go.Proofs
set_option linter.unusedVariables false
set_option linter.unusedSimpArgs false
set_option maxRecDepth 4000
noncomputable def macIn (k : ByteArray) : ByteArray := withF (blockF k) 54
noncomputable def macOut (k : ByteArray) : ByteArray := withF (blockF k) 92
noncomputable def mac0 (k : ByteArray) : Sh := takesF sh0 (macIn k)
theorem macIn_size (k : ByteArray) : (macIn k).size = 64 := by rw [macIn, withF_size, blockF_size]
theorem macOut_size (k : ByteArray) : (macOut k).size = 64 := by rw [macOut, withF_size, blockF_size]
theorem mac0_n (k : ByteArray) : (mac0 k).n = ((64 : Nat) : Int) := by rw [mac0, takesF_n, macIn_size]; decide
theorem mac0_rest (k : ByteArray) : (mac0 k).rest.size < 64 := takesF_rest _ _
abbrev macC (hb : Nat) (o : ByteArray) : List Value := [.pointer (some ⟨hb, 0, none⟩), .string o]

theorem hnew_ok {w : World} (hG : Glob w) {k : ByteArray} (hk : k.size ≤ 1048576) : Ret Tryz.prog 269 [.string k] w (fun p : Nat × Nat => .pointer (some ⟨p.1, 0, none⟩)) (fun _ => True) (fun p => [cellR p.1 392 (macC p.2 (macOut k)), cellR p.2 398 (mac0 k).c]) := by
  have hbs := blockF_size k
  refine begin_ Tryz.func269 rfl rfl rfl ?_
  refine xc_seq <| xc_region <| xp rfl (asg rfl) <| xl_nil <| xq_then <| ?_
  refine xc_seq <| xc_region <| xp rfl (mv rfl) <| xv rfl Tryz.call296 rfl rfl (fun W hW => (hblock_ok (hG.up hW) hk)) <| xp rfl (asg rfl) <| xl_nil <| xq_then <| ?_
  refine xc_seq <| xc_region <| xr rfl Tryz.call277 rfl rfl (fun W hW => (new_ok W)) fun hb _ => xp rfl (bd rfl bd_390_0) <| xp rfl (mv rfl) <| xv rfl Tryz.call297 rfl rfl (fun W hW => (with_ok (by omega) _ W)) <| xp rfl (bd rfl bd_392_0_1) <| xe rfl (bx rfl rfl) fun b1 _ => xp rfl (asg rfl) <| xl_nil <| xq_then <| ?_
  refine xc_seq <| xc_draw (canon := [(0, .p), (1, .p), (2, .p), (3, .p), (4, .p), (5, .p), (6, .x), (7, .x)]) (Z := HP _ [cellR b1 _ _]) mixed_ rfl (akp <| akp <| akp <| akp <| akp <| akp <| akx <| akx <| ak0) (zsub (.cons_cons _ <| .cons _ <| List.nil_sublist _)) ?_
  refine dp rfl rfl rfl rfl (mv rfl) <| dp rfl rfl rfl rfl (nc rfl) <| dp rfl rfl rfl rfl (fa fa_392_0 rfl) <| dp rfl rfl rfl rfl (fa fa_390_0 rfl) <| dp rfl rfl rfl rfl (ld kd_370 rfl .head rfl) <| dp rfl rfl rfl rfl (mv rfl) <| dv rfl rfl rfl (.inl rfl) rfl Tryz.call297 rfl rfl (fun W hW => (with_ok (by omega) _ W)) (zsub (.cons_cons _ <| .cons _ <| List.nil_sublist _)) <| dm rfl rfl rfl (.inl rfl) rfl Tryz.call298 rfl rfl (.tc (.tail .head) <| .tn) (shwrite_ok hG (m := 0) (by decide) rfl (by decide) (by rw [withF_size, hbs]; decide)) (fun _ => (zsub (.cons _ <| .cons_cons _ <| List.nil_sublist _))) fun _ _ => dend <| xq_then <| ?_
  refine xc_seq <| xc_region <| xp rfl (mv rfl) <| xp rfl (asg rfl) <| xl_nil <| xq_then <| xc_ret <| leave1 (.inl rfl) rfl (.tmp rfl) fun W hW => (⟨(b1, hb), rfl, trivial, hW.swap⟩)

theorem mnone_ok {w : World} {mb hb : Nat} {o : ByteArray} (hc : Cells w mb 0 (macC hb o)) : RetV Tryz.prog 299 [.pointer (some ⟨mb, 0, none⟩)] w (.bool false) := by
  refine begin_ Tryz.func299 rfl rfl rfl ?_
  refine xc_seq <| xc_region <| xp rfl (asg rfl) <| xl_nil <| xq_then <| ?_
  refine xc_seq <| xc_region <| xp rfl (mv rfl) <| xp rfl (bin rfl rfl (bk_peql pe_360)) <| xp rfl (mv rfl) <| xl_or 7 12 (fun hg1 => xgT rfl rfl rfl hg1 <| xp rfl (mv rfl) <| xgT rfl rfl rfl hg1 <| xp rfl (nc rfl) <| xgT rfl rfl rfl hg1 <| xp rfl (fa fa_392_0 rfl) <| xgT rfl rfl rfl hg1 <| xp rfl (fa fa_390_0 rfl) <| xgT rfl rfl rfl hg1 <| xp rfl (ldc kd_370 rfl (vs := _) (fun W hW => hold_cells (o := 0) hc hW.below) rfl) <| xgT rfl rfl rfl hg1 <| xp rfl (bin rfl rfl (bk_peql pe_370)) <| xp rfl (pickF rfl hg1 rfl) <| xl_nil <| xq_or_yes hg1 (.kc rfl <| .kc rfl <| .kc rfl <| .kc rfl <| .kc rfl <| .kc rfl .kn) (fun _ h => h)) (fun hg1 => xgF rfl rfl rfl hg1 <| xgF rfl rfl rfl hg1 <| xgF rfl rfl rfl hg1 <| xgF rfl rfl rfl hg1 <| xgF rfl rfl rfl hg1 <| xgF rfl rfl rfl hg1 <| xp rfl (pickT rfl hg1 rfl) <| xl_nil <| xq_or_no hg1 (.kc rfl <| .kc rfl <| .kc rfl <| .kc rfl <| .kc rfl <| .kc rfl .kn) (fun _ h => h)) <| xp rfl (asg rfl) <| xl_nil <| xq_then <| xc_ret <| leave1 (.inl rfl) rfl (.tmp rfl) fun W hW => (⟨rfl, hW.below⟩)

theorem mwrite_ok {w : World} (hG : Glob w) {mb hb : Nat} {o : ByteArray} {q : Sh} (hr : q.rest.size < 64) {m : Nat} (hq : q.n = m) (hm : m ≤ 2147483648) {t : ByteArray} (ht : t.size ≤ 1073741824) : RetM Tryz.prog w 270 [.pointer (some ⟨mb, 0, none⟩), .string t] [cellR mb 392 (macC hb o), cellR hb 398 q.c] (fun _ : Unit => .int .i64 0) (fun _ => True) (fun _ => [cellR mb 392 (macC hb o), cellR hb 398 (takesF q t).c]) := by
  intro w0 Fr0 W hB hW
  have hG := hG.below hB
  refine begin_at Tryz.func270 rfl rfl rfl hW ?_
  refine xc_seq <| xc_region <| xp rfl (asg rfl) <| xl_nil <| xq_then <| ?_
  refine xc_seq <| xc_block <| xc_seq <| xc_region <| xp rfl (mv rfl) <| xv rfl Tryz.call299 rfl rfl (fun W hW => (mnone_ok (cells_of hW .head))) <| xp rfl (asg rfl) <| xl_nil <| xq_then <| xc_cond rfl (fun hc1 => ?_) (fun hc1 => ?_)
  ·
    exact absurd hc1 (by simp)
  ·
    refine xc_seq <| xc_region <| xp rfl (mv rfl) <| xp rfl (nc rfl) <| xp rfl (fa fa_392_0 rfl) <| xp rfl (fa fa_390_0 rfl) <| xp rfl (ld kd_370 rfl .head rfl) <| xv rfl Tryz.call300 rfl rfl (fun W hW => (shlen_ok (cells_of hW (.tail .head)))) <| xp rfl (mv rfl) <| xp rfl (lens Tryz.underlying9 rfl) <| xp rfl (cv rfl (cvi Tryz.underlying3 Tryz.underlying33)) <| xp rfl (bin rfl rfl bk_add) <| xp rfl (bin rfl rfl bk_gtr) <| xp rfl (asg rfl) <| xl_nil <| xq_then <| xc_cond rfl (fun hc2 => ?_) (fun hc2 => ?_)
    ·
      exfalso; have h := of_decide_eq_true hc2; rw [hq, wrapU64, show (m : Int) + ((t.size % 18446744073709551616 : Nat) : Int) = ((m + t.size % 18446744073709551616 : Nat) : Int) by omega, wrapU64] at h; omega
    ·
      refine xc_skip <| xq_in <| xq_then <| xc_seq <| xc_region <| xp rfl (mv rfl) <| xp rfl (nc rfl) <| xp rfl (fa fa_392_0 rfl) <| xp rfl (fa fa_390_0 rfl) <| xp rfl (ld kd_370 rfl .head rfl) <| xp rfl (mv rfl) <| xm rfl Tryz.call298 rfl rfl (.tc (.tail .head) <| .tn) (shwrite_ok hG hr hq hm ht) fun _ _ => xp rfl (asg rfl) <| xl_nil <| xq_then <| xc_ret <| leave1 (.inl rfl) rfl (.tmp rfl) fun W hW => (⟨(), rfl, trivial, hW.swap⟩)

theorem msum_ok {w : World} (hG : Glob w) {mb hb : Nat} {o : ByteArray} (ho : o.size ≤ 1024) {q : Sh} (hq : 0 ≤ q.n) (hr : q.rest.size < 64) (hc : Cells w mb 0 (macC hb o)) (hh : Cells w hb 0 q.c) : RetV Tryz.prog 271 [.pointer (some ⟨mb, 0, none⟩)] w (.tuple #[.string (shaF (o ++ shSumF q)), .int .i64 0]) := by
  have hss : (shSumF q).size = 32 := digF_size _
  refine begin_ Tryz.func271 rfl rfl rfl ?_
  refine xc_seq <| xc_region <| xp rfl (asg rfl) <| xp rfl (asg rfl) <| xl_nil <| xq_then <| ?_
  refine xc_seq <| xc_seq <| xc_region <| xp rfl (mv rfl) <| xv rfl Tryz.call299 rfl rfl (fun W hW => (mnone_ok (hc.below hW.below))) <| xl_nil <| xq_then <| xc_cond rfl (fun hc1 => ?_) (fun hc1 => ?_)
  ·
    exact absurd hc1 (by simp)
  ·
    refine xc_skip <| xq_then <| xc_seq <| xc_region <| xp rfl (mv rfl) <| xp rfl (nc rfl) <| xp rfl (fa fa_392_0 rfl) <| xp rfl (fa fa_390_0 rfl) <| xp rfl (ldc kd_370 rfl (vs := _) (fun W hW => hold_cells (o := 0) hc hW.below) rfl) <| xv rfl Tryz.call279 rfl rfl (fun W hW => (shsum_ok (hG.up hW) hq hr (hh.below hW.below))) <| xp rfl (mv rfl) <| xp rfl (ext rfl rfl) <| xp rfl (ext rfl rfl) <| xp rfl (asg rfl) <| xp rfl (asg rfl) <| xl_nil <| xq_then <| ?_
    refine xc_seq <| xc_seq <| xc_region <| xp rfl (mv rfl) <| xp rfl (bin rfl rfl bk_neq) <| xl_nil <| xq_then <| xc_cond rfl (fun hc2 => ?_) (fun hc2 => ?_)
    ·
      exact absurd hc2 (by decide)
    ·
      refine xc_skip <| xq_then <| xc_seq <| xc_region <| xp rfl (mv rfl) <| xp rfl (nc rfl) <| xp rfl (fa fa_392_1 rfl) <| xp rfl (ldc kd_9 rfl (vs := _) (fun W hW => hold_cells (o := 1) hc hW.below) rfl) <| xp rfl (mv rfl) <| xp rfl (bin rfl rfl (bk_sadd (by omega))) <| xv rfl Tryz.call241 rfl rfl (fun W hW => (sha_ok (hG.up hW) (by rw [ByteArray.size_append]; omega))) <| xp rfl (asg rfl) <| xp rfl (asg rfl) <| xl_nil <| xq_then <| xc_ret <| leave2 (.inl rfl) rfl (.tmp rfl) (.tmp rfl) fun W hW => (⟨rfl, hW.below⟩)

noncomputable def hmacF (k t : ByteArray) : ByteArray := shaF (macOut k ++ shSumF (takesF (mac0 k) t))
theorem hmacF_size (k t : ByteArray) : (hmacF k t).size = 32 := shaF_size _
noncomputable def firstF (k t : ByteArray) (n : Nat) : ByteArray := (hmacF k t).extract 0 n
theorem firstF_size {k t : ByteArray} {n : Nat} (hn : n ≤ 32) : (firstF k t n).size = n := by simp only [firstF, ByteArray.size_extract, hmacF_size]; omega

theorem hsum_ok {w : World} (hG : Glob w) {k t : ByteArray} (hk : k.size ≤ 1048576) (ht : t.size ≤ 1048576) : RetV Tryz.prog 228 [.string k, .string t] w (.string (hmacF k t)) := by
  have ho := macOut_size k
  have hn : 0 ≤ (takesF (mac0 k) t).n := by rw [takesF_n]; exact u64wrap_nonneg _
  refine begin_ Tryz.func228 rfl rfl rfl ?_
  refine xc_seq <| xc_region <| xp rfl (asg rfl) <| xl_nil <| xq_then <| ?_
  refine xc_seq <| xc_region <| xp rfl (mv rfl) <| xr rfl Tryz.call269 rfl rfl (fun W hW => (hnew_ok (hG.up hW) hk)) fun p _ => xp rfl (asg rfl) <| xl_nil <| xq_then <| ?_
  refine xc_seq <| xc_region <| xp rfl (mv rfl) <| xp rfl (mv rfl) <| xm rfl Tryz.call270 rfl rfl (.tc .head <| .tc .head <| .tn) (mwrite_ok hG (mac0_rest k) (mac0_n k) (by decide) (by omega)) fun _ _ => xl_nil <| xq_then <| ?_
  refine xc_seq <| xc_region <| xp rfl (mv rfl) <| xv rfl Tryz.call271 rfl rfl (fun W hW => (msum_ok (hG.up hW) (by omega) hn (takesF_rest _ _) (cells_of hW .head) (cells_of hW (.tail .head)))) <| xp rfl (mv rfl) <| xp rfl (ext rfl rfl) <| xp rfl (ext rfl rfl) <| xp rfl (asg rfl) <| xp rfl (asg rfl) <| xl_nil <| xq_then <| ?_
  refine xc_seq <| xc_region <| xp rfl (mv rfl) <| xp rfl (asg rfl) <| xl_nil <| xq_then <| xc_ret <| leave1 (.inl rfl) rfl (.tmp rfl) fun W hW => (⟨rfl, hW.below⟩)

theorem hfirst_ok {w : World} (hG : Glob w) {k t : ByteArray} (hk : k.size ≤ 1048576) (ht : t.size ≤ 1048576) {n : Nat} (hn : n ≤ 32) : RetV Tryz.prog 174 [.string k, .string t, .int .i64 n] w (.string (firstF k t n)) := by
  have hs := hmacF_size k t
  have h1 : (if ((hmacF k t).size : Int) < (if (n : Int) < 0 then (0 : Int) else n) then ((hmacF k t).size : Int) else (if (n : Int) < 0 then (0 : Int) else n)) = n := by rw [if_neg (by omega : ¬ (n : Int) < 0)]; split <;> omega
  refine begin_ Tryz.func174 rfl rfl rfl ?_
  refine xc_seq <| xc_region <| xp rfl (asg rfl) <| xl_nil <| xq_then <| ?_
  refine xc_seq <| xc_region <| xp rfl (mv rfl) <| xp rfl (mv rfl) <| xv rfl Tryz.call228 rfl rfl (fun W hW => (hsum_ok (hG.up hW) hk ht)) <| xp rfl (asg rfl) <| xl_nil <| xq_then <| ?_
  refine xc_seq <| xc_region <| xp rfl (mv rfl) <| xp rfl (mv rfl) <| xp rfl (maxv rfl rfl) <| xp rfl (mv rfl) <| xp rfl (lens Tryz.underlying9 rfl) <| xp rfl (minv rfl rfl) <| xp rfl (ssh Tryz.underlying9 rfl rfl (by rw [h1]; omega) (by rw [h1, hs]; omega)) <| xp rfl (asg rfl) <| xl_nil <| xq_then <| xc_ret <| leave1 (.inl rfl) rfl (.tmp rfl) fun W hW => (⟨by rw [h1]; rfl, hW.below⟩)

def numL (l : List UInt8) : Nat → Int
  | 0 => 0
  | k + 1 => bitop .or .u64 (IntKind.u64.wrap (numL l k * 2 ^ (min (Int.toNat 8) IntKind.u64.bits))) (IntKind.u64.wrap (((l.getD k 0).toNat : Nat) : Int))
noncomputable def numF (k t : ByteArray) : Nat := (numL (firstF k t 8).data.toList 8).toNat
theorem numL_lt (l : List UInt8) : ∀ k, 0 ≤ numL l k ∧ numL l k < 18446744073709551616
  | 0 => by simp [numL]
  | k + 1 => by simp only [numL, bitop]; generalize (BitVec.toNat _ : Nat) = z; rw [wrapU64]; omega
theorem numF_lt (k t : ByteArray) : numF k t < 18446744073709551616 := by have := numL_lt (firstF k t 8).data.toList 8; simp only [numF]; omega
theorem numF_val (k t : ByteArray) : numL (firstF k t 8).data.toList 8 = (numF k t : Int) := by have := numL_lt (firstF k t 8).data.toList 8; simp only [numF]; omega

theorem hnumber_ok {w : World} (hG : Glob w) {k t : ByteArray} (hk : k.size ≤ 1048576) (ht : t.size ≤ 1048576) : RetV Tryz.prog 173 [.string k, .string t] w (.int .u64 (numF k t)) := by
  have hs := firstF_size (k := k) (t := t) (n := 8) (by decide)
  have hl : (firstF k t 8).data.toList.length = 8 := by simpa using hs
  refine begin_ Tryz.func173 rfl rfl rfl ?_
  refine xc_seq <| xc_region <| xp rfl (asg rfl) <| xl_nil <| xq_then <| ?_
  refine xc_seq <| xc_region <| xp rfl (asg rfl) <| xl_nil <| xq_then <| ?_
  refine xc_seq <| xc_seq <| xc_region <| xp rfl (mv rfl) <| xp rfl (mv rfl) <| xv rfl Tryz.call174 rfl rfl (fun W hW => (hfirst_ok (n := 8) (hG.up hW) hk ht (by decide))) <| xe rfl (cvb Tryz.underlying9 Tryz.underlying213 Tryz.underlying5 rfl) fun b1 _ => xp rfl (lenv Tryz.underlying213 rfl) <| xp rfl (mv rfl) <| xl_nil <| xq_then <| xc_block <| xc_loopP (σ := Nat) (fun j => [(5, .int .u64 (numL (firstF k t 8).data.toList j)), (13, .int .i64 j), (11, _), (12, _)]) (fun j => j ≤ 8) (fun j => HP w [markR b1.1 5 (Lib.byteCells (firstF k t 8).data.toList ++ List.replicate (b1.2 - (firstF k t 8).size) (.int .u8 0))]) (fun j => 8 - j) 0 (by omega) (sc rfl <| sc rfl <| sc rfl <| sc rfl <| sn) (fun W hW => by rw [byteCells_lib] at hW; exact hW) fun j hj => ?_
  refine xc_seq <| xc_region <| xp rfl (bin rfl rfl bk_lss) <| xl_nil <| xq_then <| xc_seq <| xc_cond rfl (fun hc1 => ?_) (fun hc1 => ?_)
  ·
    have hk1 : j < 8 := by have h := of_decide_eq_true hc1; omega
    have hx : (firstF k t 8).data.toList[j]? = some ((firstF k t 8).data.toList.getD j 0) := by rw [List.getD_eq_getElem?_getD, List.getElem?_eq_getElem (by omega)]; rfl
    refine xc_skip <| xq_then <| xc_seq <| xc_block <| xc_seq <| xc_region <| xp rfl (ix so_213 rfl rfl (by omega) (by omega)) <| xp rfl (ldc kd_5 rfl (vs := _) (fun W hW => mark_at hW .head hx) rfl) <| xp rfl (asg rfl) <| xl_nil <| xq_then <| ?_
    refine xc_region <| xp rfl (mv rfl) <| xp rfl (bin rfl rfl (bk_shl (by decide))) <| xp rfl (mv rfl) <| xp rfl (cv rfl (cvi Tryz.underlying5 Tryz.underlying33)) <| xp rfl (bin rfl rfl bk_or) <| xp rfl (asg rfl) <| xl_nil <| xq_in <| xq_then <| ?_
    refine xc_region <| xp rfl (bin rfl rfl bk_add) <| xp rfl (mv rfl) <| xl_nil <| xq_roundP (j + 1) hk1 (by omega) (sc rfl <| sc (iw (by omega) (by omega) (by omega) rfl) <| sc rfl <| sc rfl <| sn) (fun W hW => hW.sub (.refl _))
  ·
    obtain rfl : j = 8 := by have h := of_decide_eq_false hc1; omega
    refine xc_exit <| xq_then_exit <| xq_then_exit <| xq_in_hit <| xq_then <| xc_seq <| xc_region <| xp rfl (mv rfl) <| xp rfl (asg rfl) <| xl_nil <| xq_then <| xc_ret <| leave1 (.inl rfl) rfl (.tmp rfl) fun W hW => (⟨by rw [numF_val], hW.below⟩)

end Go.Eng
end
section
namespace Go.Eng
open Go Go.RowKit Go.Proofs
set_option linter.unusedVariables false
set_option linter.unusedSimpArgs false
set_option maxRecDepth 4000
def dots : ByteArray := ⟨#[46, 95, 45]⟩
theorem dots_dec {k : Nat} (hk : k < 3) : (Utf8.decode dots k).1 ≠ 65533 ∧ (Utf8.decode dots k).2 = 1 := by
  obtain rfl | rfl | rfl : k = 0 ∨ k = 1 ∨ k = 2 := by omega
  all_goals decide
theorem dots_byte {k : Nat} (hk : k < 3) : byteD dots k < 128 := by
  obtain rfl | rfl | rfl : k = 0 ∨ k = 1 ∨ k = 2 := by omega
  all_goals decide
theorem valid_lib {r : Int} (hv : Utf8.valid r = true) : Lib.validRune r = true := by
  simp [Utf8.valid, Lib.validRune] at *; omega
theorem no_high (l : List UInt8) (hl : ∀ x ∈ l, x.toNat < 128) (c : UInt8) (hc : 128 ≤ c.toNat) : Lib.indexByte l c = -1 := by
  induction l with
  | nil => rfl
  | cons b l ih =>
    have hb := hl b (by simp)
    have hne : (b == c) = false := by
      cases h : b == c with
      | false => rfl
      | true => have := eq_of_beq h; subst this; omega
    unfold Lib.indexByte
    rw [hne, ih (fun x hx => hl x (by simp [hx]))]
    rfl
theorem ib_dots {z : Int} {k : Nat} (hz : z = (k + 1 : Nat)) (hk : k < 3) {c : Int} (h1 : 128 ≤ c) (h2 : c < 256) : Lib.indexByte (dots.extract z.toNat dots.size).data.toList c.toNat.toUInt8 = -1 := by
  subst hz
  refine no_high _ ?_ _ (by simp; omega)
  obtain rfl | rfl | rfl : k = 0 ∨ k = 1 ∨ k = 2 := by omega
  all_goals decide

theorem irune_ok {r : Int} (hr : 128 ≤ r) (hv : Utf8.valid r = true) (w : World) : RetV Tryz.prog 281 [.string dots, .int .i32 r] w (.int .i64 (-1)) := by
  obtain ⟨he1, he2, he3⟩ := encode_facts r hv hr
  have hr2 : r ≤ 1114111 := by simp [Utf8.valid] at hv; omega
  have hw1 : IntKind.i64.wrap (((Utf8.encode r).size : Int) - 1) = (((Utf8.encode r).size - 1 : Nat) : Int) := by rw [wrap64 (by omega) (by omega)]; omega
  refine begin_ Tryz.func281 rfl rfl rfl ?_
  refine xc_seq <| xc_region <| xp rfl (asg rfl) <| xl_nil <| xq_then <| ?_
  refine xc_block <| xc_seq <| xc_region <| xp rfl (mv rfl) <| xp rfl (bin rfl rfl bk_leq) <| xp rfl (mv rfl) <| xl_and 3 166 (fun hg1 => xgT rfl rfl rfl hg1 <| xp rfl (mv rfl) <| xgT rfl rfl rfl hg1 <| xp rfl (bin rfl rfl bk_lss) <| xp rfl (pickT rfl hg1 rfl) <| xl_nil <| xq_and_yes hg1 (.kc rfl <| .kc rfl .kn) (fun _ h => h)) (fun hg1 => xgF rfl rfl rfl hg1 <| xgF rfl rfl rfl hg1 <| xp rfl (pickF rfl hg1 rfl) <| xl_nil <| xq_and_no hg1 (.kc rfl <| .kc rfl .kn) (fun _ h => h)) <| xp rfl (asg rfl) <| xl_nil <| xq_then <| xc_cond rfl (fun hc2 => ?_) (fun hc2 => ?_)
  ·
    exfalso; simp at hc2; omega
  ·
    refine xc_seq <| xc_region <| xp rfl (mv rfl) <| xp rfl (bin rfl rfl bk_eql) <| xp rfl (asg rfl) <| xl_nil <| xq_then <| xc_cond rfl (fun hc3 => ?_) (fun hc3 => ?_)
    ·
      refine xc_seq <| xc_seq <| xc_region <| xp rfl (mv rfl) <| xe rfl (rg Tryz.underlying9 rfl) fun b1 _ => xl_nil <| xq_then <| xc_block <| xc_loopP (σ := Nat) (fun k => [(175, _)]) (fun k => k ≤ 3) (fun k => HP w [iterR b1 dots k]) (fun k => 3 - k) 0 (by omega) (sc rfl <| sn) (fun W hW => hW.sub (.refl _)) fun k hk => ?_
      refine xc_seq <| xc_region <| xl_em (k < dots.size) (fun hn1 => ?_) (fun hn1 => ?_)
      ·
        have hk3 : k < 3 := hn1
        obtain ⟨hd1, hd2⟩ := dots_dec hk3
        refine xe rfl (nx rfl .head hn1) fun _ _ => xp rfl (ext rfl rfl) <| xl_nil <| xq_then <| xc_seq <| xc_condT rfl rfl <| xc_skip <| xq_then <| ?_
        refine xc_block <| xc_seq <| xc_region <| xp rfl (ext rfl rfl) <| xp rfl (ext rfl rfl) <| xp rfl (asg rfl) <| xp rfl (asg rfl) <| xl_nil <| xq_then <| ?_
        refine xc_seq <| xc_region <| xp rfl (mv rfl) <| xp rfl (bin rfl rfl bk_eql) <| xl_nil <| xq_then <| xc_cond rfl (fun hc4 => ?_) (fun hc4 => ?_)
        ·
          exfalso; have h := eq_of_beq hc4; omega
        ·
          refine xc_skip <| xq_in <| xq_roundP (k + 1) hk3 (by omega) (sc rfl <| sn) (fun W hW => by rw [hd2] at hW; exact hW)
      ·
        refine xp rfl (nxEnd rfl .head hn1) <| xp rfl (ext rfl rfl) <| xl_nil <| xq_then <| xc_seq <| xc_condF rfl rfl <| xc_exit <| xq_then_exit <| xq_then_exit <| xq_in_hit <| xq_then <| ?_
        refine xc_seq <| xc_region <| xp rfl (asg rfl) <| xl_nil <| xq_then <| xc_ret <| xq_in_ret <| leave1 (.inl rfl) rfl (.tmp rfl) fun W hW => (⟨rfl, hW.below⟩)
    ·
      refine xc_seq <| xc_region <| xp rfl (mv rfl) <| xv rfl Tryz.call311 rfl rfl (fun W hW => (RetV.of (Tryz.utf8_ValidRune r W))) <| xp rfl (un rfl uk_not) <| xp rfl (asg rfl) <| xl_nil <| xq_then <| xc_cond rfl (fun hc5 => ?_) (fun hc5 => ?_)
      ·
        exfalso; rw [valid_lib hv] at hc5; cases hc5
      ·
        refine xc_scope <| xc_seq <| xc_region <| xp rfl (mv rfl) <| xp rfl (cvw rfl (fun W _ => run_convert_int_string W 21 9 .i32 r (by rw [Tryz.underlying21]; rfl) Tryz.underlying9)) <| xp rfl (asg rfl) <| xl_nil <| xq_then <| ?_
        refine xc_seq <| xc_region <| xp rfl (mv rfl) <| xp rfl (lens Tryz.underlying9 rfl) <| xp rfl (bin rfl rfl bk_sub) <| xp rfl (asg rfl) <| xl_nil <| xq_then <| ?_
        refine xc_seq <| xc_region <| xp rfl (mv rfl) <| xp rfl (asg rfl) <| xl_nil <| xq_then <| ?_
        refine xc_seq <| xc_region <| xp rfl (asg rfl) <| xl_nil <| xq_then <| xc_seq <| xc_block <| xc_loopP (σ := Nat) (fun k => [(9, .int .i64 (((Utf8.encode r).size - 1 : Nat) : Int)), (0, _), (7, _), (8, _)]) (fun k => True) (fun k => HP w []) (fun k => 0) 0 trivial (sc (iw (by omega) (by omega) (by omega) rfl) <| sc rfl <| sc rfl <| sc rfl <| sn) (fun W hW => hW.sub (.refl _)) fun k _ => ?_
        refine xc_seq <| xc_seq <| xc_region <| xp rfl (mv rfl) <| xp rfl (mv rfl) <| xp rfl (lens Tryz.underlying9 rfl) <| xp rfl (bin rfl rfl bk_lss) <| xl_nil <| xq_then <| xc_cond rfl (fun hc6 => ?_) (fun hc6 => ?_)
        ·
          have hk3 : (Utf8.encode r).size - 1 < 3 := by have h := of_decide_eq_true hc6; rw [show dots.size = 3 from rfl] at h; omega
          have hb1 := dots_byte hk3
          have hb2 : 128 ≤ byteD (Utf8.encode r) ((Utf8.encode r).size - 1) := by rw [← byteD_eq _ _ (by omega)]; exact he3 _
          refine xc_skip <| xq_then <| xc_block <| xc_scope <| xc_seq <| xc_seq <| xc_draw (canon := [(0, .p), (1, .p), (2, .p), (3, .p), (4, .p), (5, .p), (6, .p)]) (Z := HP _ []) mixed_ rfl (akp <| akp <| akp <| akp <| akp <| akp <| akp <| ak0) (zsub (List.nil_sublist _)) ?_
          refine dp rfl rfl rfl rfl (mv rfl) <| dp rfl rfl rfl rfl (mv rfl) <| dp rfl rfl rfl rfl (sx Tryz.underlying9 rfl rfl (by omega) (by rw [show dots.size = 3 from rfl]; omega)) <| dp rfl rfl rfl rfl (mv rfl) <| dp rfl rfl rfl rfl (mv rfl) <| dp rfl rfl rfl rfl (sx Tryz.underlying9 rfl rfl (by rw [hw1]; omega) (by rw [hw1]; omega)) <| dp rfl rfl rfl rfl (bin rfl rfl bk_neq) <| dend <| xq_then <| xc_cond rfl (fun hc7 => ?_) (fun hc7 => ?_)
          ·
            have hib := ib_dots (z := IntKind.i64.wrap ((((Utf8.encode r).size - 1 : Nat) : Int) + 1)) (wrap64 (by omega) (by omega)) hk3 (c := (byteD (Utf8.encode r) (IntKind.i64.wrap ((Utf8.encode r).size - 1)).toNat : Nat)) (by rw [hw1]; simp only [Int.toNat_natCast]; omega) (by have := byteD_lt (Utf8.encode r) (IntKind.i64.wrap ((Utf8.encode r).size - 1)).toNat; omega)
            refine xc_seq <| xc_draw (canon := [(0, .p), (1, .p), (2, .p), (3, .p), (4, .p), (5, .p), (6, .p), (7, .x), (8, .x)]) (Z := HP _ []) mixed_ rfl (akp <| akp <| akp <| akp <| akp <| akp <| akp <| akx <| akx <| ak0) (zsub (List.nil_sublist _)) ?_
            refine dp rfl rfl rfl rfl (mv rfl) <| dp rfl rfl rfl rfl (mv rfl) <| dp rfl rfl rfl rfl (bin rfl rfl bk_add) <| dp rfl rfl rfl rfl (ssl Tryz.underlying9 rfl rfl (by rw [wrap64 (by omega) (by omega)]; omega) (by rw [wrap64 (by omega) (by omega), show dots.size = 3 from rfl]; omega)) <| dp rfl rfl rfl rfl (mv rfl) <| dp rfl rfl rfl rfl (mv rfl) <| dp rfl rfl rfl rfl (sx Tryz.underlying9 rfl rfl (by rw [hw1]; omega) (by rw [hw1]; omega)) <| dv rfl rfl rfl (.inl rfl) rfl Tryz.call310 rfl rfl (fun W hW => (RetV.of (Tryz.strings_IndexByte _ _ W))) (zsub (List.nil_sublist _)) <| das rfl rfl rfl rfl (asg rfl) (zsub (List.nil_sublist _)) <| dend <| xq_then <| ?_
            refine xc_seq <| xc_seq <| xc_region <| xp rfl (mv rfl) <| xp rfl (bin rfl rfl bk_lss) <| xl_nil <| xq_then <| xc_cond rfl (fun hc8 => ?_) (fun hc8 => ?_)
            ·
              refine xc_seq <| xc_region <| xp rfl (asg rfl) <| xl_nil <| xq_then <| xc_ret <| xq_then_ret <| xq_then_ret <| xq_ng_ret <| xq_in_ret <| xq_then_ret <| xq_in_ret <| xq_then_ret <| xq_ng_ret <| xq_in_ret <| leave1 (.inl rfl) rfl (.tmp rfl) fun W hW => (⟨rfl, hW.below⟩)
            ·
              exfalso; have h := of_decide_eq_false hc8; rw [hib] at h; omega
          ·
            exfalso; have h := bne_eq_false_iff_eq.1 hc7; rw [hw1] at h; simp only [Int.toNat_natCast] at h; omega
        ·
          refine xc_exit <| xq_then_exit <| xq_then_exit <| xq_in_hit <| xq_then <| xc_seq <| xc_seq <| xc_region <| xp rfl (asg rfl) <| xl_nil <| xq_then <| xc_ret <| xq_then_ret <| xq_ng_ret <| xq_in_ret <| leave1 (.inl rfl) rfl (.tmp rfl) fun W hW => (⟨rfl, hW.below⟩)

theorem decode_valid (s : ByteArray) (i : Nat) : Utf8.valid ((Utf8.decode s i).1 : Int) = true ∧ 1 ≤ (Utf8.decode s i).2 := by
  have hb : ∀ k, (s.get! (i + k)).toNat < 256 := fun k => (s.get! (i + k)).toNat_lt
  have h0 := hb 0; have h1 := hb 1; have h2 := hb 2; have h3 := hb 3
  simp only [Utf8.decode]
  repeat' split
  all_goals first
    | (refine ⟨?_, by simp⟩; rename_i h; simp only [Bool.and_eq_true] at h; exact h.2)
    | (refine ⟨?_, by simp⟩; simp_all [Utf8.valid, Utf8.runeError]; try omega)
def dotF (c : Int) : Bool := decide (c < 128) && decide (0 ≤ Lib.indexByte dots.data.toList c.toNat.toUInt8)
theorem irune_all {c : Int} (h0 : 0 ≤ c) (hv : Utf8.valid c = true) (w : World) : RetV Tryz.prog 281 [.string dots, .int .i32 c] w (.int .i64 (if c < 128 then Lib.indexByte dots.data.toList c.toNat.toUInt8 else -1)) := by
  by_cases h : c < 128
  · rw [if_pos h]; exact RetV.of (Tryz.strings_IndexRune_ascii dots c w h0 h)
  · rw [if_neg h]; exact irune_ok (by omega) hv w

theorem crune_ok {c : Int} (h0 : 0 ≤ c) (hv : Utf8.valid c = true) (w : World) : RetV Tryz.prog 246 [.string dots, .int .i32 c] w (.bool (dotF c)) := by
  refine begin_ Tryz.func246 rfl rfl rfl ?_
  refine xc_seq <| xc_region <| xp rfl (asg rfl) <| xl_nil <| xq_then <| ?_
  refine xc_seq <| xc_region <| xp rfl (mv rfl) <| xp rfl (mv rfl) <| xv rfl Tryz.call281 rfl rfl (fun W hW => (irune_all h0 hv W)) <| xp rfl (bin rfl rfl bk_geq) <| xp rfl (asg rfl) <| xl_nil <| xq_then <| xc_ret <| leave1 (.inl rfl) rfl (.tmp rfl) fun W hW => (⟨by by_cases h : c < 128 <;> simp [dotF, h], hW.below⟩)

def withinF (c : Int) : Bool := ((((decide (97 ≤ c) && decide (c ≤ 122)) || (decide (65 ≤ c) && decide (c ≤ 90))) || (decide (48 ≤ c) && decide (c ≤ 57))) || dotF c) || decide (161 ≤ c)
theorem within_ok {c : Int} (h0 : 0 ≤ c) (hv : Utf8.valid c = true) (w : World) : RetV Tryz.prog 188 [.int .i32 c] w (.bool (withinF c)) := by
  refine begin_ Tryz.func188 rfl rfl rfl ?_
  refine xc_seq <| xc_region <| xp rfl (asg rfl) <| xl_nil <| xq_then <| ?_
  refine xc_seq <| xc_region <| xp rfl (mv rfl) <| xp rfl (bin rfl rfl bk_geq) <| xp rfl (mv rfl) <| xl_and 3 8 (fun hg1 => xgT rfl rfl rfl hg1 <| xp rfl (mv rfl) <| xgT rfl rfl rfl hg1 <| xp rfl (bin rfl rfl bk_leq) <| xp rfl (pickT rfl hg1 rfl) <| xl_nil <| xq_and_yes hg1 (.kc rfl <| .kc rfl .kn) (fun _ h => h)) (fun hg1 => xgF rfl rfl rfl hg1 <| xgF rfl rfl rfl hg1 <| xp rfl (pickF rfl hg1 rfl) <| xl_nil <| xq_and_no hg1 (.kc rfl <| .kc rfl .kn) (fun _ h => h)) <| xp rfl (mv rfl) <| xl_or 7 16 (fun hg2 => xgT rfl rfl rfl hg2 <| xp rfl (mv rfl) <| xgT rfl rfl rfl hg2 <| xp rfl (bin rfl rfl bk_geq) <| xgT rfl rfl rfl hg2 <| xp rfl (mv rfl) <| xl_and 3 15 (fun hg3 => xgT rfl rfl rfl hg3 <| xp rfl (mv rfl) <| xgT rfl rfl rfl hg3 <| xp rfl (bin rfl rfl bk_leq) <| xgT rfl rfl rfl hg2 <| xp rfl (pickT rfl hg3 rfl) <| xl_nil <| xq_and_yes hg3 (.kc rfl <| .kc rfl .kn) (fun _ h => h)) (fun hg3 => xgF rfl rfl rfl hg3 <| xgF rfl rfl rfl hg3 <| xgT rfl rfl rfl hg2 <| xp rfl (pickF rfl hg3 rfl) <| xl_nil <| xq_and_no hg3 (.kc rfl <| .kc rfl .kn) (fun _ h => h)) <| xp rfl (pickF rfl hg2 rfl) <| xl_nil <| xq_or_yes hg2 (.kc rfl <| .kc rfl <| .kc rfl <| .kc rfl .kn) (fun _ h => h)) (fun hg2 => xgF rfl rfl rfl hg2 <| xgF rfl rfl rfl hg2 <| xgF rfl rfl rfl hg2 <| xgU rfl rfl rfl <| xgU rfl rfl rfl <| xgF rfl rfl rfl hg2 <| xp rfl (pickT rfl hg2 rfl) <| xl_nil <| xq_or_no hg2 (.kc rfl <| .kc rfl <| .kc rfl <| .kc rfl <| .kc rfl <| .kc rfl .kn) (fun _ h => h)) <| xp rfl (mv rfl) <| xl_or 7 24 (fun hg4 => xgT rfl rfl rfl hg4 <| xp rfl (mv rfl) <| xgT rfl rfl rfl hg4 <| xp rfl (bin rfl rfl bk_geq) <| xgT rfl rfl rfl hg4 <| xp rfl (mv rfl) <| xl_and 3 23 (fun hg5 => xgT rfl rfl rfl hg5 <| xp rfl (mv rfl) <| xgT rfl rfl rfl hg5 <| xp rfl (bin rfl rfl bk_leq) <| xgT rfl rfl rfl hg4 <| xp rfl (pickT rfl hg5 rfl) <| xl_nil <| xq_and_yes hg5 (.kc rfl <| .kc rfl .kn) (fun _ h => h)) (fun hg5 => xgF rfl rfl rfl hg5 <| xgF rfl rfl rfl hg5 <| xgT rfl rfl rfl hg4 <| xp rfl (pickF rfl hg5 rfl) <| xl_nil <| xq_and_no hg5 (.kc rfl <| .kc rfl .kn) (fun _ h => h)) <| xp rfl (pickF rfl hg4 rfl) <| xl_nil <| xq_or_yes hg4 (.kc rfl <| .kc rfl <| .kc rfl <| .kc rfl .kn) (fun _ h => h)) (fun hg4 => xgF rfl rfl rfl hg4 <| xgF rfl rfl rfl hg4 <| xgF rfl rfl rfl hg4 <| xgU rfl rfl rfl <| xgU rfl rfl rfl <| xgF rfl rfl rfl hg4 <| xp rfl (pickT rfl hg4 rfl) <| xl_nil <| xq_or_no hg4 (.kc rfl <| .kc rfl <| .kc rfl <| .kc rfl <| .kc rfl <| .kc rfl .kn) (fun _ h => h)) <| xp rfl (mv rfl) <| xl_or 3 28 (fun hg6 => xgT rfl rfl rfl hg6 <| xp rfl (mv rfl) <| xgT rfl rfl rfl hg6 <| xv rfl Tryz.call246 rfl rfl (fun W hW => (crune_ok h0 hv W)) <| xp rfl (pickF rfl hg6 rfl) <| xl_nil <| xq_or_yes hg6 (.kc rfl <| .kc rfl .kn) (fun _ h => h)) (fun hg6 => xgF rfl rfl rfl hg6 <| xgF rfl rfl rfl hg6 <| xp rfl (pickT rfl hg6 rfl) <| xl_nil <| xq_or_no hg6 (.kc rfl <| .kc rfl .kn) (fun _ h => h)) <| xp rfl (mv rfl) <| xl_or 3 32 (fun hg7 => xgT rfl rfl rfl hg7 <| xp rfl (mv rfl) <| xgT rfl rfl rfl hg7 <| xp rfl (bin rfl rfl bk_geq) <| xp rfl (pickF rfl hg7 rfl) <| xl_nil <| xq_or_yes hg7 (.kc rfl <| .kc rfl .kn) (fun _ h => h)) (fun hg7 => xgF rfl rfl rfl hg7 <| xgF rfl rfl rfl hg7 <| xp rfl (pickT rfl hg7 rfl) <| xl_nil <| xq_or_no hg7 (.kc rfl <| .kc rfl .kn) (fun _ h => h)) <| xp rfl (asg rfl) <| xl_nil <| xq_then <| xc_ret <| leave1 (.inl rfl) rfl (.tmp rfl) fun W hW => (⟨rfl, hW.below⟩)

def idRunes (s : ByteArray) : Nat → Nat → Bool
  | 0, _ => true
  | f + 1, pos => if pos < s.size then withinF (Utf8.decode s pos).1 && idRunes s f (pos + (Utf8.decode s pos).2) else true
def mayIdF (s : ByteArray) : Bool := !((decide ((Lib.runeCount s : Int) < 1) || decide (24 < (Lib.runeCount s : Int))) || !Lib.validD s.data.toList) && idRunes s s.size 0
theorem idRunes_end {s : ByteArray} {f pos : Nat} (h : ¬ pos < s.size) : idRunes s f pos = true := by
  cases f <;> simp [idRunes, h]
theorem vstr_ok {w : World} (hG : Glob w) {s : ByteArray} (hs : s.size ≤ 1048576) : RetV Tryz.prog 187 [.string s] w (.bool (Lib.validD s.data.toList)) :=
  Tryz.utf8_ValidString s w (by omega) hG.u
theorem rcount_ok {s : ByteArray} (hs : s.size ≤ 1048576) (w : World) : RetV Tryz.prog 186 [.string s] w (.int .i64 (Lib.runeCount s)) :=
  (Tryz.utf8_RuneCountInString s w (by omega)).mono fun e W' ⟨h1, pos, h2⟩ => ⟨h1, by subst h2; exact (Below.refl _ _).alloc (Nat.le_refl _) _⟩

theorem mayid_ok {w : World} (hG : Glob w) {s : ByteArray} (hs : s.size ≤ 1048576) : RetV Tryz.prog 111 [.string s] w (.bool (mayIdF s)) := by
  refine begin_ Tryz.func111 rfl rfl rfl ?_
  refine xc_seq <| xc_region <| xp rfl (asg rfl) <| xl_nil <| xq_then <| ?_
  refine xc_seq <| xc_region <| xp rfl (mv rfl) <| xv rfl Tryz.call186 rfl rfl (fun W hW => (rcount_ok hs W)) <| xp rfl (asg rfl) <| xl_nil <| xq_then <| ?_
  refine xc_seq <| xc_seq <| xc_region <| xp rfl (mv rfl) <| xp rfl (bin rfl rfl bk_lss) <| xp rfl (mv rfl) <| xl_or 3 13 (fun hg1 => xgT rfl rfl rfl hg1 <| xp rfl (mv rfl) <| xgT rfl rfl rfl hg1 <| xp rfl (bin rfl rfl bk_gtr) <| xp rfl (pickF rfl hg1 rfl) <| xl_nil <| xq_or_yes hg1 (.kc rfl <| .kc rfl .kn) (fun _ h => h)) (fun hg1 => xgF rfl rfl rfl hg1 <| xgF rfl rfl rfl hg1 <| xp rfl (pickT rfl hg1 rfl) <| xl_nil <| xq_or_no hg1 (.kc rfl <| .kc rfl .kn) (fun _ h => h)) <| xp rfl (mv rfl) <| xl_or 4 18 (fun hg2 => xgT rfl rfl rfl hg2 <| xp rfl (mv rfl) <| xgT rfl rfl rfl hg2 <| xv rfl Tryz.call187 rfl rfl (fun W hW => (vstr_ok (hG.up hW) hs)) <| xgT rfl rfl rfl hg2 <| xp rfl (un rfl uk_not) <| xp rfl (pickF rfl hg2 rfl) <| xl_nil <| xq_or_yes hg2 (.kc rfl <| .kc rfl <| .kc rfl .kn) (fun _ h => h)) (fun hg2 => xgF rfl rfl rfl hg2 <| xgF rfl rfl rfl hg2 <| xgF rfl rfl rfl hg2 <| xp rfl (pickT rfl hg2 rfl) <| xl_nil <| xq_or_no hg2 (.kc rfl <| .kc rfl <| .kc rfl .kn) (fun _ h => h)) <| xl_nil <| xq_then <| xc_cond rfl (fun hc3 => ?_) (fun hc3 => ?_)
  ·
    refine xc_seq <| xc_region <| xp rfl (asg rfl) <| xl_nil <| xq_then <| xc_ret <| xq_then_ret <| leave1 (.inl rfl) rfl (.tmp rfl) fun W hW => (⟨by simp only [mayIdF, hc3]; rfl, hW.below⟩)
  ·
    refine xc_skip <| xq_then <| xc_seq <| xc_seq <| xc_region <| xp rfl (mv rfl) <| xe rfl (rg Tryz.underlying9 rfl) fun b1 _ => xl_nil <| xq_then <| xc_block <| xc_loopP (σ := Nat × Nat) (fun q => [(20, _)]) (fun q => idRunes s s.size 0 = idRunes s q.1 q.2 ∧ s.size - q.2 ≤ q.1) (fun q => HP w [iterR b1 s q.2]) (fun q => s.size - q.2) (s.size, 0) ⟨rfl, by omega⟩ (sc rfl <| sn) (fun W hW => hW.sub (.refl _)) fun q ⟨hi, hf⟩ => ?_
    obtain ⟨f, pos⟩ := q
    simp only at hi hf
    refine xc_seq <| xc_region <| xl_em (pos < s.size) (fun hn1 => ?_) (fun hn1 => ?_)
    ·
      obtain ⟨hv, hw⟩ := decode_valid s pos
      have hn2 : pos < s.size := hn1
      obtain ⟨f, rfl⟩ : ∃ f', f = f' + 1 := ⟨f - 1, by omega⟩
      rw [idRunes, if_pos hn2] at hi
      refine xe rfl (nx rfl .head hn1) fun _ _ => xp rfl (ext rfl rfl) <| xl_nil <| xq_then <| xc_seq <| xc_condT rfl rfl <| xc_skip <| xq_then <| ?_
      refine xc_block <| xc_seq <| xc_region <| xp rfl (ext rfl rfl) <| xp rfl (asg rfl) <| xl_nil <| xq_then <| ?_
      refine xc_seq <| xc_region <| xp rfl (mv rfl) <| xv rfl Tryz.call188 rfl rfl (fun W hW => (within_ok (by omega) hv W)) <| xp rfl (un rfl uk_not) <| xl_nil <| xq_then <| xc_cond rfl (fun hc4 => ?_) (fun hc4 => ?_)
      ·
        refine xc_seq <| xc_region <| xp rfl (asg rfl) <| xl_nil <| xq_then <| xc_ret <| xq_in_ret <| xq_then_ret <| xq_in_ret <| xq_then_ret <| leave1 (.inl rfl) rfl (.tmp rfl) fun W hW => (⟨by simp only [mayIdF, hc3, hi]; simp at hc4; simp [hc4], hW.below⟩)
      ·
        refine xc_skip <| xq_in <| xq_roundP (f, pos + (Utf8.decode s pos).2) (⟨by rw [hi]; simp at hc4; simp [hc4], by simp only; omega⟩) (by simp only; omega) (sc rfl <| sn) (fun W hW => hW.sub (.refl _))
    ·
      have hn2 : ¬ pos < s.size := hn1
      rw [idRunes_end hn2] at hi
      refine xp rfl (nxEnd rfl .head hn1) <| xp rfl (ext rfl rfl) <| xl_nil <| xq_then <| xc_seq <| xc_condF rfl rfl <| xc_exit <| xq_then_exit <| xq_then_exit <| xq_in_hit <| xq_then <| ?_
      refine xc_seq <| xc_region <| xp rfl (asg rfl) <| xl_nil <| xq_then <| xc_ret <| leave1 (.inl rfl) rfl (.tmp rfl) fun W hW => (⟨by simp only [mayIdF, hc3, hi]; rfl, hW.below⟩)

end Go.Eng
end
