/- Part 7 of the walks and plain lemmas that the claim rests on. -/
import Derived.StringKeys
import Derived.Test.YtfdnhjfbbggmiaaGreatDoorP6
section
namespace Go.Eng
open Go Go.RowKit Go.Proofs
set_option linter.unusedVariables false
set_option linter.unusedSimpArgs false
set_option maxRecDepth 4000
theorem w64 {z : Int} {m : Nat} (e : z = m) (h : m ≤ 9223372036854775807) : IntKind.i64.wrap z = (m : Int) := by rw [wrap64 (by omega) (by omega), e]
abbrev SL (b N c : Nat) : Value := .slice (some ⟨b, 0, none⟩) N c
abbrev F169 : Value := .func (.func 169) #[] #[]
/-- A comparison that the sort calls. -/
def CmpOK {α : Type} (enc : α → List Value) (cf : α → α → Int) : Prop := ∀ (x y : α) (w : World), RetV Tryz.prog 169 [.agg (enc x).toArray, .agg (enc y).toArray] w (.int .i64 (cf x y))
variable {α : Type} {enc : α → List Value} {cf : α → α → Int}
abbrev ltI (cf : α → α → Int) (a b : α) : Bool := decide (cf a b < 0)

theorem swr_ok {w : World} (hK : ∀ x, (enc x).length = 3) (hF : ∀ x, (enc x).all flat1 = true) {blk N c : Nat} {x : Nat → α} {p q m : Nat} (hN : N ≤ 1000000) (h1 : p + m ≤ q) (h2 : q + m ≤ N) :
  RetM Tryz.prog w 316 [SL blk N c, .int .i64 p, .int .i64 q, .int .i64 m, F169] [cellR blk 170 (fl enc N x)] (fun _ : Unit => .tuple #[]) (fun _ => True) (fun _ => [cellR blk 170 (fl enc N (Srt.swr x p q m))]) := by
  intro w0 Fr0 W hB hW
  refine begin_at Tryz.func316 rfl rfl rfl hW ?_
  refine xc_seq <| xc_region <| xp rfl (asg rfl) <| xl_nil <| xq_then <| xc_block <| xc_loopP (σ := Nat) (fun k => [(10, .int .i64 k), (0, _), (1, _), (2, _), (3, _)]) (fun k => k ≤ m) (fun k => HP w0 (cellR blk 170 (fl enc N (Srt.swr x p q k)) :: Fr0)) (fun k => m - k) 0 (Nat.zero_le _) (sc rfl <| sc rfl <| sc rfl <| sc rfl <| sc rfl <| sn) (fun W hW => by rw [Srt.swr_zero]; exact hW) fun k hk => ?_
  refine xc_seq <| xc_seq <| xc_region <| xp rfl (mv rfl) <| xp rfl (mv rfl) <| xp rfl (bin rfl rfl bk_lss) <| xl_nil <| xq_then <| xc_cond rfl (fun hc1 => ?_) (fun hc1 => ?_)
  ·
    have hk1 : k < m := by have h := of_decide_eq_true hc1; omega
    have e1 : IntKind.i64.wrap ((p : Int) + k) = ((p + k : Nat) : Int) := w64 (by omega) (by omega)
    have e2 : IntKind.i64.wrap ((q : Int) + k) = ((q + k : Nat) : Int) := w64 (by omega) (by omega)
    refine xc_skip <| xq_then <| xc_seq <| xc_block <| xc_draw (canon := [(0, .p), (1, .p), (2, .p), (3, .p), (4, .p), (5, .p), (6, .p), (7, .p), (8, .p), (9, .p), (10, .p), (11, .p), (12, .p), (13, .l), (14, .p), (15, .p), (16, .p), (17, .p), (18, .p), (19, .l), (20, .p), (21, .x), (22, .p), (23, .x)]) (Z := HP _ []) mixed_ rfl (akp <| akp <| akp <| akp <| akp <| akp <| akp <| akp <| akp <| akp <| akp <| akp <| akp <| akl <| akp <| akp <| akp <| akp <| akp <| akl <| akp <| akx <| akp <| akx <| ak0) (zsub (.cons _ <| List.nil_sublist _)) ?_
    refine dp rfl rfl rfl rfl (mv rfl) <| dp rfl rfl rfl rfl (mv rfl) <| dp rfl rfl rfl rfl (mv rfl) <| dp rfl rfl rfl rfl (bin rfl rfl bk_add) <| dp rfl rfl rfl rfl (mv rfl) <| dp rfl rfl rfl rfl (mv rfl) <| dp rfl rfl rfl rfl (mv rfl) <| dp rfl rfl rfl rfl (bin rfl rfl bk_add) <| dp rfl rfl rfl rfl (mv rfl) <| dp rfl rfl rfl rfl (mv rfl) <| dp rfl rfl rfl rfl (mv rfl) <| dp rfl rfl rfl rfl (bin rfl rfl bk_add) <| dp rfl rfl rfl rfl (ix so_104 rfl rfl (by rw [e2]; omega) (by rw [e2]; omega)) <| dl rfl rfl rfl rfl (ldR (i := (q + k)) hK kd_170 rfl (by rw [e2]; omega) (by omega) .head) <| dp rfl rfl rfl rfl (mv rfl) <| dp rfl rfl rfl rfl (mv rfl) <| dp rfl rfl rfl rfl (mv rfl) <| dp rfl rfl rfl rfl (bin rfl rfl bk_add) <| dp rfl rfl rfl rfl (ix so_104 rfl rfl (by rw [e1]; omega) (by rw [e1]; omega)) <| dl rfl rfl rfl rfl (ldR (i := (p + k)) hK kd_170 rfl (by rw [e1]; omega) (by omega) .head) <| dp rfl rfl rfl rfl (ix so_104 rfl rfl (by rw [e1]; omega) (by rw [e1]; omega)) <| dstR (k := (p + k)) (u := (Srt.swr x p q k (q + k))) rfl rfl rfl rfl hK sz_170 rfl rfl (by rw [e1]; omega) (by omega) .head (hF _) (zsub (.cons _ <| List.nil_sublist _)) <| dp rfl rfl rfl rfl (ix so_104 rfl rfl (by rw [e2]; omega) (by rw [e2]; omega)) <| dstR (k := (q + k)) (u := (Srt.swr x p q k (p + k))) rfl rfl rfl rfl hK sz_170 rfl rfl (by rw [e2]; omega) (by omega) .head (hF _) (zsub (.cons _ <| List.nil_sublist _)) <| dend <| xq_in <| xq_then <| ?_
    refine xc_region <| xp rfl (mv rfl) <| xp rfl (bin rfl rfl bk_add) <| xp rfl (asg rfl) <| xl_nil <| xq_roundP (k + 1) (by omega) (by omega) (sc (iw (by omega) (by omega) (by omega) rfl) <| sc rfl <| sc rfl <| sc rfl <| sc rfl <| sn) (fun W hW => by rw [← Srt.swr_succ x (by omega), ← Srt.swp_upd]; exact hW)
  ·
    obtain rfl : k = m := by have h := of_decide_eq_false hc1; omega
    refine xc_exit <| xq_then_exit <| xq_then_exit <| xq_in_hit <| leave0 (.inr rfl) rfl  fun W hW => (⟨(), rfl, trivial, hW⟩)

theorem swr_okI {w : World} (hK : ∀ x, (enc x).length = 3) (hF : ∀ x, (enc x).all flat1 = true) {blk N c : Nat} {x : Nat → α} {p q m : Nat} {pi qi mi : Int} (ep : pi = (p : Nat)) (eq : qi = (q : Nat)) (em : mi = (m : Nat)) (hN : N ≤ 1000000) (h1 : p + m ≤ q) (h2 : q + m ≤ N) :
  RetM Tryz.prog w 316 [SL blk N c, .int .i64 pi, .int .i64 qi, .int .i64 mi, F169] [cellR blk 170 (fl enc N x)] (fun _ : Unit => .tuple #[]) (fun _ => True) (fun _ => [cellR blk 170 (fl enc N (Srt.swr x p q m))]) := by
  subst ep; subst eq; subst em; exact swr_ok hK hF hN h1 h2

theorem rot_okI {w : World} (hK : ∀ x, (enc x).length = 3) (hF : ∀ x, (enc x).all flat1 = true) {blk N c : Nat} {x : Nat → α} {a m b : Nat} {ai mi bi : Int} (ea : ai = (a : Nat)) (em : mi = (m : Nat)) (eb : bi = (b : Nat)) (hN : N ≤ 1000000) (h1 : a < m) (h2 : m < b) (h3 : b ≤ N) :
  RetM Tryz.prog w 295 [SL blk N c, .int .i64 ai, .int .i64 mi, .int .i64 bi, F169] [cellR blk 170 (fl enc N x)] (fun _ : Unit => .tuple #[]) (fun _ => True) (fun _ => [cellR blk 170 (fl enc N (Srt.rot x a m b))]) := by
  subst ea; subst em; subst eb
  intro w0 Fr0 W hB hW
  refine begin_at Tryz.func295 rfl rfl rfl hW ?_
  refine xc_seq <| xc_region <| xp rfl (mv rfl) <| xp rfl (mv rfl) <| xp rfl (bin rfl rfl bk_sub) <| xp rfl (asg rfl) <| xl_nil <| xq_then <| ?_
  refine xc_seq <| xc_region <| xp rfl (mv rfl) <| xp rfl (mv rfl) <| xp rfl (bin rfl rfl bk_sub) <| xp rfl (asg rfl) <| xl_nil <| xq_then <| xc_seq <| xc_block <| xc_loopP (σ := Nat × Nat × (Nat → α)) (fun q => [(10, .int .i64 q.1), (11, .int .i64 q.2.1), (0, _), (2, _), (4, _)]) (fun q => 0 < q.1 ∧ q.1 ≤ m ∧ 0 < q.2.1 ∧ m + q.2.1 ≤ N ∧ Srt.rot q.2.2 (m - q.1) m (m + q.2.1) = Srt.rot x a m b) (fun q => HP w0 (cellR blk 170 (fl enc N q.2.2) :: Fr0)) (fun q => q.1 + q.2.1) (m - a, b - m, x) ⟨by simp only; omega, by simp only; omega, by simp only; omega, by simp only; omega, by simp only; rw [show m - (m - a) = a by omega, show m + (b - m) = b by omega]⟩ (sc (iw (m := ((m - a : Nat) : Int)) (by omega) (by omega) (by omega) rfl) <| sc (iw (m := ((b - m : Nat) : Int)) (by omega) (by omega) (by omega) rfl) <| sc rfl <| sc rfl <| sc rfl <| sn) (fun W hW => hW) fun q ⟨hi, him, hj, hjn, hr⟩ => ?_
  obtain ⟨i, j, z⟩ := q
  simp only at hi him hj hjn hr
  dsimp only
  refine xc_seq <| xc_seq <| xc_region <| xp rfl (mv rfl) <| xp rfl (mv rfl) <| xp rfl (bin rfl rfl bk_neq) <| xl_nil <| xq_then <| xc_cond rfl (fun hc1 => ?_) (fun hc1 => ?_)
  ·
    have hne : i ≠ j := by have h := bne_iff_ne.1 hc1; omega
    have e1 : IntKind.i64.wrap ((m : Int) - i) = ((m - i : Nat) : Int) := w64 (by omega) (by omega)
    refine xc_skip <| xq_then <| xc_block <| xc_seq <| xc_region <| xp rfl (mv rfl) <| xp rfl (mv rfl) <| xp rfl (bin rfl rfl bk_gtr) <| xl_nil <| xq_then <| xc_cond rfl (fun hc2 => ?_) (fun hc2 => ?_)
    ·
      have hlt : j < i := by have h := of_decide_eq_true hc2; omega
      refine xc_seq <| xc_region <| xp rfl (mv rfl) <| xp rfl (mv rfl) <| xp rfl (mv rfl) <| xp rfl (bin rfl rfl bk_sub) <| xp rfl (mv rfl) <| xp rfl (mv rfl) <| xp rfl (mv rfl) <| xm rfl Tryz.call316 rfl rfl (.tc .head <| .tn) (swr_okI hK hF e1 rfl rfl hN (by omega) (by omega)) fun _ _ => xl_nil <| xq_then <| ?_
      refine xc_region <| xp rfl (mv rfl) <| xp rfl (mv rfl) <| xp rfl (bin rfl rfl bk_sub) <| xp rfl (asg rfl) <| xl_nil <| xq_in <| xq_roundP (i - j, j, Srt.swr z (m - i) m j) (⟨by simp only; omega, by simp only; omega, hj, hjn, by simp only; rw [Srt.rot_big z him hj hlt]; exact hr⟩) (by simp only; omega) (sc (by first | exact rfl | (dsimp only; exact iw (by omega) (by omega) (by omega) rfl)) <| sc (by first | exact rfl | (dsimp only; exact iw (by omega) (by omega) (by omega) rfl)) <| sc rfl <| sc rfl <| sc rfl <| sn) (fun W hW => hW)
    ·
      have hlt : i < j := by have h := of_decide_eq_false hc2; omega
      have e2 : IntKind.i64.wrap ((m : Int) + j) = ((m + j : Nat) : Int) := w64 (by omega) (by omega)
      have e3 : IntKind.i64.wrap (IntKind.i64.wrap ((m : Int) + j) - i) = ((m + j - i : Nat) : Int) := w64 (by rw [e2]; omega) (by omega)
      refine xc_seq <| xc_region <| xp rfl (mv rfl) <| xp rfl (mv rfl) <| xp rfl (mv rfl) <| xp rfl (bin rfl rfl bk_sub) <| xp rfl (mv rfl) <| xp rfl (mv rfl) <| xp rfl (bin rfl rfl bk_add) <| xp rfl (mv rfl) <| xp rfl (bin rfl rfl bk_sub) <| xp rfl (mv rfl) <| xp rfl (mv rfl) <| xm rfl Tryz.call316 rfl rfl (.tc .head <| .tn) (swr_okI hK hF e1 e3 rfl hN (by omega) (by omega)) fun _ _ => xl_nil <| xq_then <| ?_
      refine xc_region <| xp rfl (mv rfl) <| xp rfl (mv rfl) <| xp rfl (bin rfl rfl bk_sub) <| xp rfl (asg rfl) <| xl_nil <| xq_in <| xq_roundP (i, j - i, Srt.swr z (m - i) (m + j - i) i) (⟨hi, him, by simp only; omega, by simp only; omega, by simp only; rw [Srt.rot_small z him hi hlt]; exact hr⟩) (by simp only; omega) (sc (by first | exact rfl | (dsimp only; exact iw (by omega) (by omega) (by omega) rfl)) <| sc (by first | exact rfl | (dsimp only; exact iw (by omega) (by omega) (by omega) rfl)) <| sc rfl <| sc rfl <| sc rfl <| sn) (fun W hW => hW)
  ·
    obtain rfl : i = j := by have h := bne_eq_false_iff_eq.1 hc1; omega
    have e1 : IntKind.i64.wrap ((m : Int) - i) = ((m - i : Nat) : Int) := w64 (by omega) (by omega)
    refine xc_exit <| xq_then_exit <| xq_then_exit <| xq_in_hit <| xq_then <| xc_region <| xp rfl (mv rfl) <| xp rfl (mv rfl) <| xp rfl (mv rfl) <| xp rfl (bin rfl rfl bk_sub) <| xp rfl (mv rfl) <| xp rfl (mv rfl) <| xp rfl (mv rfl) <| xm rfl Tryz.call316 rfl rfl (.tc .head <| .tn) (swr_okI hK hF e1 rfl rfl hN (by omega) (by omega)) fun _ _ => xl_nil <| leave0 (.inr rfl) rfl  fun W hW => (⟨(), rfl, trivial, by rw [← hr, ← Srt.rot_same z him]; exact hW⟩)

theorem Srt.mvl_at {α : Type} (x : Nat → α) {k m : Nat} (h : k ≤ m) : Srt.mvl x k m k = x m := by
  simp only [Srt.mvl, Srt.rot]; rw [if_pos (by omega), if_pos (by omega)]; congr 1; omega
theorem Srt.mvl_lt {α : Type} (x : Nat → α) {k m i : Nat} (h : i < k) : Srt.mvl x k m i = x i := by
  simp only [Srt.mvl, Srt.rot]; rw [if_neg (by omega)]
theorem ins_on (hO : Srt.SWO (ltI cf)) {z : Nat → α} {a i j : Nat} (haj : a ≤ j) (hji : j ≤ i) (hs : Srt.On (ltI cf) z a i) (h1 : ∀ k, j ≤ k → k < i → ltI cf (z i) (z k) = true) (h2 : a < j → ltI cf (z i) (z (j - 1)) = false) : Srt.On (ltI cf) (Srt.mvl z j i) a (i + 1) :=
  Srt.mvl_on hO haj hji hs (fun k k1 k2 => hO.trans _ _ _ (hs.le hO k1 (show k ≤ j - 1 by omega) (by omega)) (h2 (by omega))) h1

theorem ins_okI {w : World} (hK : ∀ x, (enc x).length = 3) (hF : ∀ x, (enc x).all flat1 = true) (hC : CmpOK enc cf) (hO : Srt.SWO (ltI cf)) {blk N c : Nat} {x : Nat → α} {a b : Nat} {ai bi : Int} (ea : ai = (a : Nat)) (eb : bi = (b : Nat)) (hN : N ≤ 1000000) (h1 : a ≤ b) (h2 : b ≤ N) :
  RetM Tryz.prog w 267 [SL blk N c, .int .i64 ai, .int .i64 bi, F169] [cellR blk 170 (fl enc N x)] (fun _ : Nat → α => .tuple #[]) (fun y => Srt.Re a b x y ∧ Srt.On (ltI cf) y a b) (fun y => [cellR blk 170 (fl enc N y)]) := by
  subst ea; subst eb
  intro w0 Fr0 W hB hW
  refine begin_at Tryz.func267 rfl rfl rfl hW ?_
  refine xc_seq <| xc_region <| xp rfl (mv rfl) <| xp rfl (bin rfl rfl bk_add) <| xp rfl (asg rfl) <| xl_nil <| xq_then <| xc_block <| xc_loopP (σ := Nat × (Nat → α)) (fun q => [(8, .int .i64 q.1), (0, _), (1, _), (2, _), (3, _)]) (fun q => a < q.1 ∧ (q.1 ≤ b ∨ q.1 = a + 1) ∧ Srt.Re a b x q.2 ∧ Srt.On (ltI cf) q.2 a q.1) (fun q => HP w0 (cellR blk 170 (fl enc N q.2) :: Fr0)) (fun q => b - q.1) (a + 1, x) ⟨by simp only; omega, .inr rfl, Srt.Re.refl _ _ _, Srt.On.small (by simp only; omega)⟩ (sc (iw (m := ((a + 1 : Nat) : Int)) (by omega) (by omega) (by omega) rfl) <| sc rfl <| sc rfl <| sc rfl <| sc rfl <| sn) (fun W hW => hW) fun q ⟨hai, hib, hre, hon⟩ => ?_
  obtain ⟨i, z⟩ := q
  simp only at hai hib hre hon
  dsimp only
  refine xc_seq <| xc_seq <| xc_region <| xp rfl (mv rfl) <| xp rfl (mv rfl) <| xp rfl (bin rfl rfl bk_lss) <| xl_nil <| xq_then <| xc_cond rfl (fun hc1 => ?_) (fun hc1 => ?_)
  ·
    have hib2 : i < b := by have h := of_decide_eq_true hc1; omega
    refine xc_skip <| xq_then <| xc_seq <| xc_block <| xc_seq <| xc_region <| xp rfl (mv rfl) <| xp rfl (asg rfl) <| xl_nil <| xq_then <| xc_block <| xc_loopP (σ := Nat) (fun j => [(9, .int .i64 j), (0, _), (1, _), (2, _), (3, _), (8, _)]) (fun j => a ≤ j ∧ j ≤ i ∧ ∀ k, j ≤ k → k < i → ltI cf (z i) (z k) = true) (fun j => HP w0 (cellR blk 170 (fl enc N (Srt.mvl z j i)) :: Fr0)) (fun j => j) i ⟨by omega, Nat.le_refl _, fun k k1 k2 => by omega⟩ (sc rfl <| sc rfl <| sc rfl <| sc rfl <| sc rfl <| sc rfl <| sn) (fun W hW => by rw [Srt.mvl_zero]; exact hW) fun j ⟨haj, hji, hlt⟩ => ?_
    refine xc_seq <| xc_seq <| xc_em ((a : Int) < (j : Int)) (fun he => ?_) (fun he => ?_)
    ·
      have ej : IntKind.i64.wrap ((j : Int) - 1) = ((j - 1 : Nat) : Int) := w64 (by omega) (by omega)
      have hyj := Srt.mvl_at z hji
      have hyj1 := Srt.mvl_lt z (k := j) (m := i) (show j - 1 < j by omega)
      refine xc_draw (canon := [(0, .p), (1, .p), (2, .p), (3, .p), (4, .p), (5, .p), (6, .p), (7, .p), (8, .p), (9, .p), (10, .p), (11, .p), (12, .p), (13, .p), (14, .p), (15, .p), (16, .p)]) (Z := HP _ [_]) mixed_ rfl (akp <| akp <| akp <| akp <| akp <| akp <| akp <| akp <| akp <| akp <| akp <| akp <| akp <| akp <| akp <| akp <| akp <| ak0) (zsub (.cons_cons _ <| List.nil_sublist _)) ?_
      refine dp rfl rfl rfl rfl (mv rfl) <| dp rfl rfl rfl rfl (mv rfl) <| dp rfl rfl rfl rfl (bin rfl rfl bk_gtr) <| dp rfl rfl rfl rfl (mv rfl) <| dpT rfl rfl rfl rfl rfl rfl (decide_eq_true he) (mv rfl) <| dpT rfl rfl rfl rfl rfl rfl (decide_eq_true he) (mv rfl) <| dpT rfl rfl rfl rfl rfl rfl (decide_eq_true he) (mv rfl) <| dpT rfl rfl rfl rfl rfl rfl (decide_eq_true he) (ix so_104 rfl rfl (by omega) (by omega)) <| dpT rfl rfl rfl rfl rfl rfl (decide_eq_true he) (ldR (i := j) hK kd_170 rfl (by omega) (by omega) .head) <| dpT rfl rfl rfl rfl rfl rfl (decide_eq_true he) (mv rfl) <| dpT rfl rfl rfl rfl rfl rfl (decide_eq_true he) (mv rfl) <| dpT rfl rfl rfl rfl rfl rfl (decide_eq_true he) (bin rfl rfl bk_sub) <| dpT rfl rfl rfl rfl rfl rfl (decide_eq_true he) (ix so_104 rfl rfl (by rw [ej]; omega) (by rw [ej]; omega)) <| dpT rfl rfl rfl rfl rfl rfl (decide_eq_true he) (ldR (i := (j - 1)) hK kd_170 rfl (by rw [ej]; omega) (by omega) .head) <| dqT rfl rfl rfl rfl rfl rfl (decide_eq_true he) rfl Tryz.call169 rfl rfl (fun W hW => (hC _ _ W)) <| dpT rfl rfl rfl rfl rfl rfl (decide_eq_true he) (bin rfl rfl bk_lss) <| dp rfl rfl rfl rfl (pickT rfl (decide_eq_true he) rfl) <| dend <| xq_then <| xc_cond rfl (fun hc2 => ?_) (fun hc2 => ?_)
      ·
        have hl : ltI cf (z i) (z (j - 1)) = true := by rw [hyj, hyj1] at hc2; exact hc2
        refine xc_skip <| xq_then <| xc_seq <| xc_block <| xc_draw (canon := [(0, .p), (1, .p), (2, .p), (3, .p), (4, .p), (5, .p), (6, .p), (7, .p), (8, .p), (9, .l), (10, .p), (11, .p), (12, .p), (13, .l), (14, .p), (15, .x), (16, .p), (17, .x)]) (Z := HP _ []) mixed_ rfl (akp <| akp <| akp <| akp <| akp <| akp <| akp <| akp <| akp <| akl <| akp <| akp <| akp <| akl <| akp <| akx <| akp <| akx <| ak0) (zsub (.cons _ <| List.nil_sublist _)) ?_
        refine dp rfl rfl rfl rfl (mv rfl) <| dp rfl rfl rfl rfl (mv rfl) <| dp rfl rfl rfl rfl (mv rfl) <| dp rfl rfl rfl rfl (mv rfl) <| dp rfl rfl rfl rfl (bin rfl rfl bk_sub) <| dp rfl rfl rfl rfl (mv rfl) <| dp rfl rfl rfl rfl (mv rfl) <| dp rfl rfl rfl rfl (bin rfl rfl bk_sub) <| dp rfl rfl rfl rfl (ix so_104 rfl rfl (by rw [ej]; omega) (by rw [ej]; omega)) <| dl rfl rfl rfl rfl (ldR (i := (j - 1)) hK kd_170 rfl (by rw [ej]; omega) (by omega) .head) <| dp rfl rfl rfl rfl (mv rfl) <| dp rfl rfl rfl rfl (mv rfl) <| dp rfl rfl rfl rfl (ix so_104 rfl rfl (by omega) (by omega)) <| dl rfl rfl rfl rfl (ldR (i := j) hK kd_170 rfl (by omega) (by omega) .head) <| dp rfl rfl rfl rfl (ix so_104 rfl rfl (by omega) (by omega)) <| dstR (k := j) (u := (Srt.mvl z j i (j - 1))) rfl rfl rfl rfl hK sz_170 rfl rfl (by omega) (by omega) .head (hF _) (zsub (.cons _ <| List.nil_sublist _)) <| dp rfl rfl rfl rfl (ix so_104 rfl rfl (by rw [ej]; omega) (by rw [ej]; omega)) <| dstR (k := (j - 1)) (u := (Srt.mvl z j i j)) rfl rfl rfl rfl hK sz_170 rfl rfl (by rw [ej]; omega) (by omega) .head (hF _) (zsub (.cons _ <| List.nil_sublist _)) <| dend <| xq_in <| xq_then <| ?_
        refine xc_region <| xp rfl (mv rfl) <| xp rfl (bin rfl rfl bk_sub) <| xp rfl (asg rfl) <| xl_nil <| xq_roundP (j - 1) (⟨by omega, by omega, fun k k1 k2 => by rcases Nat.lt_or_eq_of_le k1 with h | h; exact hlt k (by omega) k2; subst h; exact hl⟩) (by omega) (sc (iw (m := ((j - 1 : Nat) : Int)) (by omega) (by omega) (by omega) rfl) <| sc rfl <| sc rfl <| sc rfl <| sc rfl <| sc rfl <| sn) (fun W hW => by rw [← Srt.mvl_succ z (k := j - 1) (by omega), show j - 1 + 1 = j by omega, ← Srt.swp_upd]; exact hW)
      ·
        have hl : ltI cf (z i) (z (j - 1)) = false := by rw [hyj, hyj1] at hc2; exact hc2
        refine xc_exit <| xq_then_exit <| xq_then_exit <| xq_in_hit <| xq_in <| xq_then <| xc_region <| xp rfl (mv rfl) <| xp rfl (bin rfl rfl bk_add) <| xp rfl (asg rfl) <| xl_nil <| xq_roundP (i + 1, Srt.mvl z j i) (⟨by simp only; omega, .inl (by simp only; omega), hre.trans (Srt.Re.mvl z haj hji (by omega)), ins_on hO haj hji hon hlt (fun _ => hl)⟩) (by simp only; omega) (sc (by dsimp only; exact iw (by omega) (by omega) (by omega) rfl) <| sc rfl <| sc rfl <| sc rfl <| sc rfl <| sn) (fun W hW => hW)
    ·
      refine xc_draw (canon := [(0, .p), (1, .p), (2, .p), (3, .p), (4, .p), (5, .p), (6, .p), (7, .p), (8, .p), (9, .p), (10, .p), (11, .p), (12, .p), (13, .p), (14, .p), (15, .p), (16, .p)]) (Z := HP _ [_]) mixed_ rfl (akp <| akp <| akp <| akp <| akp <| akp <| akp <| akp <| akp <| akp <| akp <| akp <| akp <| akp <| akp <| akp <| akp <| ak0) (zsub (.cons_cons _ <| List.nil_sublist _)) ?_
      refine dp rfl rfl rfl rfl (mv rfl) <| dp rfl rfl rfl rfl (mv rfl) <| dp rfl rfl rfl rfl (bin rfl rfl bk_gtr) <| dp rfl rfl rfl rfl (mv rfl) <| dpF rfl rfl rfl rfl rfl rfl (decide_eq_false he) <| dpF rfl rfl rfl rfl rfl rfl (decide_eq_false he) <| dpF rfl rfl rfl rfl rfl rfl (decide_eq_false he) <| dpF rfl rfl rfl rfl rfl rfl (decide_eq_false he) <| dpF rfl rfl rfl rfl rfl rfl (decide_eq_false he) <| dpF rfl rfl rfl rfl rfl rfl (decide_eq_false he) <| dpF rfl rfl rfl rfl rfl rfl (decide_eq_false he) <| dpF rfl rfl rfl rfl rfl rfl (decide_eq_false he) <| dpF rfl rfl rfl rfl rfl rfl (decide_eq_false he) <| dpF rfl rfl rfl rfl rfl rfl (decide_eq_false he) <| dpF rfl rfl rfl rfl rfl rfl (decide_eq_false he) <| dpF rfl rfl rfl rfl rfl rfl (decide_eq_false he) <| dp rfl rfl rfl rfl (pickF rfl (decide_eq_false he) rfl) <| dend <| xq_then <| xc_cond rfl (fun hc3 => ?_) (fun hc3 => ?_)
      ·
        cases hc3
      ·
        refine xc_exit <| xq_then_exit <| xq_then_exit <| xq_in_hit <| xq_in <| xq_then <| xc_region <| xp rfl (mv rfl) <| xp rfl (bin rfl rfl bk_add) <| xp rfl (asg rfl) <| xl_nil <| xq_roundP (i + 1, Srt.mvl z j i) (⟨by simp only; omega, .inl (by simp only; omega), hre.trans (Srt.Re.mvl z haj hji (by omega)), ins_on hO haj hji hon hlt (fun h => absurd h (by omega))⟩) (by simp only; omega) (sc (by dsimp only; exact iw (by omega) (by omega) (by omega) rfl) <| sc rfl <| sc rfl <| sc rfl <| sc rfl <| sn) (fun W hW => hW)
  ·
    refine xc_exit <| xq_then_exit <| xq_then_exit <| xq_in_hit <| leave0 (.inr rfl) rfl  fun W hW => (⟨z, rfl, ⟨hre, hon.sub (Nat.le_refl _) (by have h := of_decide_eq_false hc1; omega)⟩, hW⟩)

theorem mid64 {i j : Nat} (h : i + j ≤ 9223372036854775807) : IntKind.i64.wrap ((IntKind.u64.wrap (IntKind.i64.wrap ((i : Int) + j))).fdiv (2 ^ (min (1 : Int).toNat IntKind.u64.bits))) = (((i + j) / 2 : Nat) : Int) := by
  have e1 : IntKind.i64.wrap ((i : Int) + j) = ((i + j : Nat) : Int) := w64 (by omega) h
  rw [e1, wrapU64, Nat.mod_eq_of_lt (by omega), show (min (1 : Int).toNat IntKind.u64.bits) = 1 from rfl, fdivNat]
  exact w64 (by simp) (by omega)
theorem Srt.mvr_here {α : Type} (x : Nat → α) {a k : Nat} (h : a ≤ k) : Srt.mvr x a k k = x a := by
  simp only [Srt.mvr, Srt.rot]; rw [if_pos (by omega), if_neg (by omega)]; congr 1; omega
theorem Srt.rot_id {α : Type} (x : Nat → α) {s m e : Nat} (h : s = m ∨ m = e) : Srt.rot x s m e = x := by
  funext k; simp only [Srt.rot]
  rcases h with rfl | rfl
  · by_cases h1 : s ≤ k ∧ k < e
    · rw [if_pos h1, if_pos (by omega)]; congr 1; omega
    · rw [if_neg h1]
  · by_cases h1 : s ≤ k ∧ k < m
    · rw [if_pos h1, if_neg (by omega)]; congr 1; omega
    · rw [if_neg h1]
theorem ltOf1 (hO : Srt.SWO (ltI cf)) {x y z : α} (h1 : ltI cf z x = true) (h2 : ltI cf z y = false) : ltI cf y x = true := by
  cases h : ltI cf y x with
  | true => rfl
  | false => rw [hO.trans _ _ _ h h2] at h1; cases h1
theorem ltOf2 (hO : Srt.SWO (ltI cf)) {x y z : α} (h1 : ltI cf z x = true) (h2 : ltI cf y x = false) : ltI cf z y = true := by
  cases h : ltI cf z y with
  | true => rfl
  | false => rw [hO.trans _ _ _ h2 h] at h1; cases h1
def SymOK (enc : α → List Value) (cf : α → α → Int) (f : Nat) : Prop := ∀ (w : World) (blk N c : Nat) (x : Nat → α) (a m b : Nat) (ai mi bi : Int), b - a ≤ f → ai = (a : Nat) → mi = (m : Nat) → bi = (b : Nat) → N ≤ 1000000 → a < m → m < b → b ≤ N → Srt.On (ltI cf) x a m → Srt.On (ltI cf) x m b →
  RetM Tryz.prog w 268 [SL blk N c, .int .i64 ai, .int .i64 mi, .int .i64 bi, F169] [cellR blk 170 (fl enc N x)] (fun _ : Nat → α => .tuple #[]) (fun y => Srt.Re a b x y ∧ Srt.On (ltI cf) y a b) (fun y => [cellR blk 170 (fl enc N y)])

theorem sym_step (hK : ∀ x, (enc x).length = 3) (hF : ∀ x, (enc x).all flat1 = true) (hC : CmpOK enc cf) (hO : Srt.SWO (ltI cf)) {f : Nat} (ih : SymOK enc cf f) : SymOK enc cf (f + 1) := by
  intro w blk N c x a m b ai mi bi hf ea em eb hN h1 h2 h3 hu hv
  subst ea; subst em; subst eb
  intro w0 Fr0 W hB hW
  refine begin_at Tryz.func268 rfl rfl rfl hW ?_
  refine xc_seq <| xc_seq <| xc_region <| xp rfl (mv rfl) <| xp rfl (mv rfl) <| xp rfl (bin rfl rfl bk_sub) <| xp rfl (bin rfl rfl bk_eql) <| xl_nil <| xq_then <| xc_cond rfl (fun hc1 => ?_) (fun hc1 => ?_)
  ·
    have hm : m = a + 1 := by have h := eq_of_beq hc1; rw [wrap64 (by omega) (by omega)] at h; omega
    refine xc_seq <| xc_region <| xp rfl (mv rfl) <| xp rfl (asg rfl) <| xl_nil <| xq_then <| ?_
    refine xc_seq <| xc_region <| xp rfl (mv rfl) <| xp rfl (asg rfl) <| xl_nil <| xq_then <| xc_seq <| xc_block <| xc_loopP (σ := Nat × Nat) (fun q => [(10, .int .i64 q.1), (11, .int .i64 q.2), (0, _), (1, _), (4, _)]) (fun q => m ≤ q.1 ∧ q.1 ≤ q.2 ∧ q.2 ≤ b ∧ (∀ k, m ≤ k → k < q.1 → ltI cf (x k) (x a) = true) ∧ ∀ k, q.2 ≤ k → k < b → ltI cf (x k) (x a) = false) (fun q => HP w0 (cellR blk 170 (fl enc N x) :: Fr0)) (fun q => q.2 - q.1) (m, b) ⟨Nat.le_refl _, by simp only; omega, Nat.le_refl _, fun k k1 k2 => by simp only at k2; omega, fun k k1 k2 => by simp only at k1; omega⟩ (sc rfl <| sc rfl <| sc rfl <| sc rfl <| sc rfl <| sn) (fun W hW => hW) fun q ⟨hmi, hij, hjb, hlo, hhi⟩ => ?_
    obtain ⟨i, j⟩ := q
    simp only at hmi hij hjb hlo hhi
    dsimp only
    refine xc_seq <| xc_seq <| xc_region <| xp rfl (mv rfl) <| xp rfl (mv rfl) <| xp rfl (bin rfl rfl bk_lss) <| xl_nil <| xq_then <| xc_cond rfl (fun hc2 => ?_) (fun hc2 => ?_)
    ·
      have hij2 : i < j := by have h := of_decide_eq_true hc2; omega
      have eh := mid64 (i := i) (j := j) (by omega)
      refine xc_skip <| xq_then <| xc_block <| xc_seq <| xc_region <| xp rfl (mv rfl) <| xp rfl (mv rfl) <| xp rfl (bin rfl rfl bk_add) <| xp rfl (cv rfl (cvi Tryz.underlying3 Tryz.underlying56)) <| xp rfl (bin rfl rfl (bk_shr (by decide))) <| xp rfl (cv rfl (cvi Tryz.underlying56 Tryz.underlying3)) <| xp rfl (asg rfl) <| xl_nil <| xq_then <| ?_
      refine xc_seq <| xc_draw (canon := [(0, .p), (1, .p), (2, .p), (3, .p), (4, .p), (5, .p), (6, .p), (7, .p), (8, .p), (9, .p), (10, .p)]) (Z := HP _ [_]) mixed_ rfl (akp <| akp <| akp <| akp <| akp <| akp <| akp <| akp <| akp <| akp <| akp <| ak0) (zsub (.cons_cons _ <| List.nil_sublist _)) ?_
      refine dp rfl rfl rfl rfl (mv rfl) <| dp rfl rfl rfl rfl (mv rfl) <| dp rfl rfl rfl rfl (mv rfl) <| dp rfl rfl rfl rfl (ix so_104 rfl rfl (by rw [eh]; omega) (by rw [eh]; omega)) <| dp rfl rfl rfl rfl (ldR (i := ((i + j) / 2)) hK kd_170 rfl (by rw [eh]; omega) (by omega) .head) <| dp rfl rfl rfl rfl (mv rfl) <| dp rfl rfl rfl rfl (mv rfl) <| dp rfl rfl rfl rfl (ix so_104 rfl rfl (by omega) (by omega)) <| dp rfl rfl rfl rfl (ldR (i := a) hK kd_170 rfl (by omega) (by omega) .head) <| dq rfl rfl rfl rfl rfl Tryz.call169 rfl rfl (fun W hW => (hC _ _ W)) <| dp rfl rfl rfl rfl (bin rfl rfl bk_lss) <| dend <| xq_then <| xc_cond rfl (fun hc3 => ?_) (fun hc3 => ?_)
      ·
        have hl : ltI cf (x ((i + j) / 2)) (x a) = true := hc3
        refine xc_region <| xp rfl (mv rfl) <| xp rfl (bin rfl rfl bk_add) <| xp rfl (asg rfl) <| xl_nil <| xq_in <| xq_roundP ((i + j) / 2 + 1, j) (⟨by simp only; omega, by simp only; omega, hjb, fun k k1 k2 => (Nat.lt_or_ge k i).elim (fun h => hlo k k1 h) (fun h => ltOf1 hO hl (hv.le hO k1 (show k ≤ (i + j) / 2 by simp only at k2; omega) (by omega))), hhi⟩) (by simp only; omega) (sc (by first | exact rfl | (dsimp only; exact iw (by rw [eh]; omega) (by omega) (by omega) rfl)) <| sc (by first | exact rfl | (dsimp only; exact Env.as (congrArg (Value.int .i64) eh) rfl)) <| sc rfl <| sc rfl <| sc rfl <| sn) (fun W hW => hW)
      ·
        have hl : ltI cf (x ((i + j) / 2)) (x a) = false := hc3
        refine xc_region <| xp rfl (mv rfl) <| xp rfl (asg rfl) <| xl_nil <| xq_in <| xq_roundP (i, (i + j) / 2) (⟨hmi, by simp only; omega, by simp only; omega, hlo, fun k k1 k2 => hO.trans _ _ _ hl (hv.le hO (by omega) k1 k2)⟩) (by simp only; omega) (sc (by first | exact rfl | (dsimp only; exact iw (by rw [eh]; omega) (by omega) (by omega) rfl)) <| sc (by first | exact rfl | (dsimp only; exact Env.as (congrArg (Value.int .i64) eh) rfl)) <| sc rfl <| sc rfl <| sc rfl <| sn) (fun W hW => hW)
    ·
      obtain rfl : i = j := by have h := of_decide_eq_false hc2; omega
      have e1 : IntKind.i64.wrap ((i : Int) - 1) = ((i - 1 : Nat) : Int) := w64 (by omega) (by omega)
      refine xc_exit <| xq_then_exit <| xq_then_exit <| xq_in_hit <| xq_then <| xc_seq <| xc_seq <| xc_region <| xp rfl (mv rfl) <| xp rfl (asg rfl) <| xl_nil <| xq_then <| xc_block <| xc_loopP (σ := Nat) (fun k => [(13, .int .i64 k), (0, _), (10, _)]) (fun k => a ≤ k ∧ k ≤ i - 1) (fun k => HP w0 (cellR blk 170 (fl enc N (Srt.mvr x a k)) :: Fr0)) (fun k => i - k) a ⟨Nat.le_refl _, by omega⟩ (sc rfl <| sc rfl <| sc rfl <| sn) (fun W hW => by rw [Srt.mvr_zero]; exact hW) fun k ⟨hak, hki⟩ => ?_
      refine xc_seq <| xc_seq <| xc_region <| xp rfl (mv rfl) <| xp rfl (mv rfl) <| xp rfl (bin rfl rfl bk_sub) <| xp rfl (bin rfl rfl bk_lss) <| xl_nil <| xq_then <| xc_cond rfl (fun hc4 => ?_) (fun hc4 => ?_)
      ·
        have hk : k < i - 1 := by have h := of_decide_eq_true hc4; rw [e1] at h; omega
        have e2 : IntKind.i64.wrap ((k : Int) + 1) = ((k + 1 : Nat) : Int) := w64 (by omega) (by omega)
        refine xc_skip <| xq_then <| xc_seq <| xc_block <| xc_draw (canon := [(0, .p), (1, .p), (2, .p), (3, .p), (4, .p), (5, .p), (6, .p), (7, .p), (8, .p), (9, .l), (10, .p), (11, .p), (12, .p), (13, .l), (14, .p), (15, .x), (16, .p), (17, .x)]) (Z := HP _ []) mixed_ rfl (akp <| akp <| akp <| akp <| akp <| akp <| akp <| akp <| akp <| akl <| akp <| akp <| akp <| akl <| akp <| akx <| akp <| akx <| ak0) (zsub (.cons _ <| List.nil_sublist _)) ?_
        refine dp rfl rfl rfl rfl (mv rfl) <| dp rfl rfl rfl rfl (mv rfl) <| dp rfl rfl rfl rfl (mv rfl) <| dp rfl rfl rfl rfl (mv rfl) <| dp rfl rfl rfl rfl (bin rfl rfl bk_add) <| dp rfl rfl rfl rfl (mv rfl) <| dp rfl rfl rfl rfl (mv rfl) <| dp rfl rfl rfl rfl (bin rfl rfl bk_add) <| dp rfl rfl rfl rfl (ix so_104 rfl rfl (by rw [e2]; omega) (by rw [e2]; omega)) <| dl rfl rfl rfl rfl (ldR (i := (k + 1)) hK kd_170 rfl (by rw [e2]; omega) (by omega) .head) <| dp rfl rfl rfl rfl (mv rfl) <| dp rfl rfl rfl rfl (mv rfl) <| dp rfl rfl rfl rfl (ix so_104 rfl rfl (by omega) (by omega)) <| dl rfl rfl rfl rfl (ldR (i := k) hK kd_170 rfl (by omega) (by omega) .head) <| dp rfl rfl rfl rfl (ix so_104 rfl rfl (by omega) (by omega)) <| dstR (k := k) (u := (Srt.mvr x a k (k + 1))) rfl rfl rfl rfl hK sz_170 rfl rfl (by omega) (by omega) .head (hF _) (zsub (.cons _ <| List.nil_sublist _)) <| dp rfl rfl rfl rfl (ix so_104 rfl rfl (by rw [e2]; omega) (by rw [e2]; omega)) <| dstR (k := (k + 1)) (u := (Srt.mvr x a k k)) rfl rfl rfl rfl hK sz_170 rfl rfl (by rw [e2]; omega) (by omega) .head (hF _) (zsub (.cons _ <| List.nil_sublist _)) <| dend <| xq_in <| xq_then <| ?_
        refine xc_region <| xp rfl (mv rfl) <| xp rfl (bin rfl rfl bk_add) <| xp rfl (asg rfl) <| xl_nil <| xq_roundP (k + 1) (⟨by omega, by omega⟩) (by omega) (sc (iw (by omega) (by omega) (by omega) rfl) <| sc rfl <| sc rfl <| sn) (fun W hW => by rw [← Srt.mvr_succ x hak, ← Srt.swp_upd]; exact hW)
      ·
        obtain rfl : k = i - 1 := by have h := of_decide_eq_false hc4; rw [e1] at h; omega
        refine xc_exit <| xq_then_exit <| xq_then_exit <| xq_in_hit <| xq_then <| xc_ret <| xq_then_ret <| leave0 (.inl rfl) rfl  fun W hW => (⟨Srt.mvr x a (i - 1), rfl, ⟨Srt.Re.mvr x (Nat.le_refl _) (by omega) (by omega), Srt.mvr_on hO (by omega) hjb (hm ▸ hv) (fun k k1 k2 => hlo k (by omega) k2) hhi⟩, hW⟩)
  ·
    refine xc_skip <| xq_then <| xc_seq <| xc_seq <| xc_region <| xp rfl (mv rfl) <| xp rfl (mv rfl) <| xp rfl (bin rfl rfl bk_sub) <| xp rfl (bin rfl rfl bk_eql) <| xl_nil <| xq_then <| xc_cond rfl (fun hc5 => ?_) (fun hc5 => ?_)
    ·
      have hb : b = m + 1 := by have h := eq_of_beq hc5; rw [wrap64 (by omega) (by omega)] at h; omega
      refine xc_seq <| xc_region <| xp rfl (mv rfl) <| xp rfl (asg rfl) <| xl_nil <| xq_then <| ?_
      refine xc_seq <| xc_region <| xp rfl (mv rfl) <| xp rfl (asg rfl) <| xl_nil <| xq_then <| xc_seq <| xc_block <| xc_loopP (σ := Nat × Nat) (fun q => [(14, .int .i64 q.1), (15, .int .i64 q.2), (0, _), (2, _), (4, _)]) (fun q => a ≤ q.1 ∧ q.1 ≤ q.2 ∧ q.2 ≤ m ∧ (∀ k, a ≤ k → k < q.1 → ltI cf (x m) (x k) = false) ∧ ∀ k, q.2 ≤ k → k < m → ltI cf (x m) (x k) = true) (fun q => HP w0 (cellR blk 170 (fl enc N x) :: Fr0)) (fun q => q.2 - q.1) (a, m) ⟨Nat.le_refl _, by simp only; omega, Nat.le_refl _, fun k k1 k2 => by simp only at k2; omega, fun k k1 k2 => by simp only at k1; omega⟩ (sc rfl <| sc rfl <| sc rfl <| sc rfl <| sc rfl <| sn) (fun W hW => hW) fun q ⟨hai, hij, hjm, hlo, hhi⟩ => ?_
      obtain ⟨i, j⟩ := q
      simp only at hai hij hjm hlo hhi
      dsimp only
      refine xc_seq <| xc_seq <| xc_region <| xp rfl (mv rfl) <| xp rfl (mv rfl) <| xp rfl (bin rfl rfl bk_lss) <| xl_nil <| xq_then <| xc_cond rfl (fun hc6 => ?_) (fun hc6 => ?_)
      ·
        have hij2 : i < j := by have h := of_decide_eq_true hc6; omega
        have eh := mid64 (i := i) (j := j) (by omega)
        refine xc_skip <| xq_then <| xc_block <| xc_seq <| xc_region <| xp rfl (mv rfl) <| xp rfl (mv rfl) <| xp rfl (bin rfl rfl bk_add) <| xp rfl (cv rfl (cvi Tryz.underlying3 Tryz.underlying56)) <| xp rfl (bin rfl rfl (bk_shr (by decide))) <| xp rfl (cv rfl (cvi Tryz.underlying56 Tryz.underlying3)) <| xp rfl (asg rfl) <| xl_nil <| xq_then <| ?_
        refine xc_seq <| xc_draw (canon := [(0, .p), (1, .p), (2, .p), (3, .p), (4, .p), (5, .p), (6, .p), (7, .p), (8, .p), (9, .p), (10, .p), (11, .p)]) (Z := HP _ [_]) mixed_ rfl (akp <| akp <| akp <| akp <| akp <| akp <| akp <| akp <| akp <| akp <| akp <| akp <| ak0) (zsub (.cons_cons _ <| List.nil_sublist _)) ?_
        refine dp rfl rfl rfl rfl (mv rfl) <| dp rfl rfl rfl rfl (mv rfl) <| dp rfl rfl rfl rfl (mv rfl) <| dp rfl rfl rfl rfl (ix so_104 rfl rfl (by omega) (by omega)) <| dp rfl rfl rfl rfl (ldR (i := m) hK kd_170 rfl (by omega) (by omega) .head) <| dp rfl rfl rfl rfl (mv rfl) <| dp rfl rfl rfl rfl (mv rfl) <| dp rfl rfl rfl rfl (ix so_104 rfl rfl (by rw [eh]; omega) (by rw [eh]; omega)) <| dp rfl rfl rfl rfl (ldR (i := ((i + j) / 2)) hK kd_170 rfl (by rw [eh]; omega) (by omega) .head) <| dq rfl rfl rfl rfl rfl Tryz.call169 rfl rfl (fun W hW => (hC _ _ W)) <| dp rfl rfl rfl rfl (bin rfl rfl bk_lss) <| dp rfl rfl rfl rfl (un rfl uk_not) <| dend <| xq_then <| xc_cond rfl (fun hc7 => ?_) (fun hc7 => ?_)
        ·
          have hl : ltI cf (x m) (x ((i + j) / 2)) = false := by simpa using hc7
          refine xc_region <| xp rfl (mv rfl) <| xp rfl (bin rfl rfl bk_add) <| xp rfl (asg rfl) <| xl_nil <| xq_in <| xq_roundP ((i + j) / 2 + 1, j) (⟨by simp only; omega, by simp only; omega, hjm, fun k k1 k2 => (Nat.lt_or_ge k i).elim (fun h => hlo k k1 h) (fun h => hO.trans _ _ _ (hu.le hO k1 (show k ≤ (i + j) / 2 by simp only at k2; omega) (by omega)) hl), hhi⟩) (by simp only; omega) (sc (by first | exact rfl | (dsimp only; exact iw (by rw [eh]; omega) (by omega) (by omega) rfl)) <| sc (by first | exact rfl | (dsimp only; exact Env.as (congrArg (Value.int .i64) eh) rfl)) <| sc rfl <| sc rfl <| sc rfl <| sn) (fun W hW => hW)
        ·
          have hl : ltI cf (x m) (x ((i + j) / 2)) = true := by simpa using hc7
          refine xc_region <| xp rfl (mv rfl) <| xp rfl (asg rfl) <| xl_nil <| xq_in <| xq_roundP (i, (i + j) / 2) (⟨hai, by simp only; omega, by simp only; omega, hlo, fun k k1 k2 => ltOf2 hO hl (hu.le hO (by omega) k1 k2)⟩) (by simp only; omega) (sc (by first | exact rfl | (dsimp only; exact iw (by rw [eh]; omega) (by omega) (by omega) rfl)) <| sc (by first | exact rfl | (dsimp only; exact Env.as (congrArg (Value.int .i64) eh) rfl)) <| sc rfl <| sc rfl <| sc rfl <| sn) (fun W hW => hW)
      ·
        obtain rfl : i = j := by have h := of_decide_eq_false hc6; omega
        refine xc_exit <| xq_then_exit <| xq_then_exit <| xq_in_hit <| xq_then <| xc_seq <| xc_seq <| xc_region <| xp rfl (mv rfl) <| xp rfl (asg rfl) <| xl_nil <| xq_then <| xc_block <| xc_loopP (σ := Nat) (fun k => [(17, .int .i64 k), (0, _), (14, _)]) (fun k => i ≤ k ∧ k ≤ m) (fun k => HP w0 (cellR blk 170 (fl enc N (Srt.mvl x k m)) :: Fr0)) (fun k => k) m ⟨by omega, Nat.le_refl _⟩ (sc rfl <| sc rfl <| sc rfl <| sn) (fun W hW => by rw [Srt.mvl_zero]; exact hW) fun k ⟨hik, hkm⟩ => ?_
        refine xc_seq <| xc_seq <| xc_region <| xp rfl (mv rfl) <| xp rfl (mv rfl) <| xp rfl (bin rfl rfl bk_gtr) <| xl_nil <| xq_then <| xc_cond rfl (fun hc8 => ?_) (fun hc8 => ?_)
        ·
          have hk : i < k := by have h := of_decide_eq_true hc8; omega
          have e1 : IntKind.i64.wrap ((k : Int) - 1) = ((k - 1 : Nat) : Int) := w64 (by omega) (by omega)
          refine xc_skip <| xq_then <| xc_seq <| xc_block <| xc_draw (canon := [(0, .p), (1, .p), (2, .p), (3, .p), (4, .p), (5, .p), (6, .p), (7, .p), (8, .p), (9, .l), (10, .p), (11, .p), (12, .p), (13, .l), (14, .p), (15, .x), (16, .p), (17, .x)]) (Z := HP _ []) mixed_ rfl (akp <| akp <| akp <| akp <| akp <| akp <| akp <| akp <| akp <| akl <| akp <| akp <| akp <| akl <| akp <| akx <| akp <| akx <| ak0) (zsub (.cons _ <| List.nil_sublist _)) ?_
          refine dp rfl rfl rfl rfl (mv rfl) <| dp rfl rfl rfl rfl (mv rfl) <| dp rfl rfl rfl rfl (mv rfl) <| dp rfl rfl rfl rfl (mv rfl) <| dp rfl rfl rfl rfl (bin rfl rfl bk_sub) <| dp rfl rfl rfl rfl (mv rfl) <| dp rfl rfl rfl rfl (mv rfl) <| dp rfl rfl rfl rfl (bin rfl rfl bk_sub) <| dp rfl rfl rfl rfl (ix so_104 rfl rfl (by rw [e1]; omega) (by rw [e1]; omega)) <| dl rfl rfl rfl rfl (ldR (i := (k - 1)) hK kd_170 rfl (by rw [e1]; omega) (by omega) .head) <| dp rfl rfl rfl rfl (mv rfl) <| dp rfl rfl rfl rfl (mv rfl) <| dp rfl rfl rfl rfl (ix so_104 rfl rfl (by omega) (by omega)) <| dl rfl rfl rfl rfl (ldR (i := k) hK kd_170 rfl (by omega) (by omega) .head) <| dp rfl rfl rfl rfl (ix so_104 rfl rfl (by omega) (by omega)) <| dstR (k := k) (u := (Srt.mvl x k m (k - 1))) rfl rfl rfl rfl hK sz_170 rfl rfl (by omega) (by omega) .head (hF _) (zsub (.cons _ <| List.nil_sublist _)) <| dp rfl rfl rfl rfl (ix so_104 rfl rfl (by rw [e1]; omega) (by rw [e1]; omega)) <| dstR (k := (k - 1)) (u := (Srt.mvl x k m k)) rfl rfl rfl rfl hK sz_170 rfl rfl (by rw [e1]; omega) (by omega) .head (hF _) (zsub (.cons _ <| List.nil_sublist _)) <| dend <| xq_in <| xq_then <| ?_
          refine xc_region <| xp rfl (mv rfl) <| xp rfl (bin rfl rfl bk_sub) <| xp rfl (asg rfl) <| xl_nil <| xq_roundP (k - 1) (⟨by omega, by omega⟩) (by omega) (sc (iw (m := ((k - 1 : Nat) : Int)) (by omega) (by omega) (by omega) rfl) <| sc rfl <| sc rfl <| sn) (fun W hW => by rw [← Srt.mvl_succ x (k := k - 1) (by omega), show k - 1 + 1 = k by omega, ← Srt.swp_upd]; exact hW)
        ·
          obtain rfl : k = i := by have h := of_decide_eq_false hc8; omega
          refine xc_exit <| xq_then_exit <| xq_then_exit <| xq_in_hit <| xq_then <| xc_ret <| xq_then_ret <| leave0 (.inl rfl) rfl  fun W hW => (⟨Srt.mvl x k m, rfl, ⟨Srt.Re.mvl x hai hkm (by omega), by rw [hb]; exact Srt.mvl_on hO hai hkm hu hlo hhi⟩, hW⟩)
    ·
      have hb1 : b ≠ m + 1 := fun h => by have h5 := beq_eq_false_iff_ne.1 hc5; rw [wrap64 (by omega) (by omega)] at h5; omega
      have ha1 : m ≠ a + 1 := fun h => by have h5 := beq_eq_false_iff_ne.1 hc1; rw [wrap64 (by omega) (by omega)] at h5; omega
      have emid := mid64 (i := a) (j := b) (by omega)
      have en : IntKind.i64.wrap (IntKind.i64.wrap ((IntKind.u64.wrap (IntKind.i64.wrap ((a : Int) + b))).fdiv (2 ^ (min (1 : Int).toNat IntKind.u64.bits))) + m) = (((a + b) / 2 + m : Nat) : Int) := w64 (by rw [emid]; omega) (by omega)
      refine xc_skip <| xq_then <| xc_seq <| xc_region <| xp rfl (mv rfl) <| xp rfl (mv rfl) <| xp rfl (bin rfl rfl bk_add) <| xp rfl (cv rfl (cvi Tryz.underlying3 Tryz.underlying56)) <| xp rfl (bin rfl rfl (bk_shr (by decide))) <| xp rfl (cv rfl (cvi Tryz.underlying56 Tryz.underlying3)) <| xp rfl (asg rfl) <| xl_nil <| xq_then <| ?_
      refine xc_seq <| xc_region <| xp rfl (mv rfl) <| xp rfl (mv rfl) <| xp rfl (bin rfl rfl bk_add) <| xp rfl (asg rfl) <| xl_nil <| xq_then <| ?_
      refine xc_seq <| xc_region <| xp rfl (asg rfl) <| xp rfl (asg rfl) <| xl_nil <| xq_then <| xc_joinP (σ := Nat × Nat) (fun q => [(0, SL blk N c), (1, .int .i64 a), (2, .int .i64 m), (3, .int .i64 b), (4, F169), (18, .int .i64 (((a + b) / 2 : Nat) : Int)), (19, .int .i64 (((a + b) / 2 + m : Nat) : Int)), (20, .int .i64 q.1), (21, .int .i64 q.2)]) (fun q => (m > (a + b) / 2 ∧ q.1 = (a + b) / 2 + m - b ∧ q.2 = (a + b) / 2) ∨ (m ≤ (a + b) / 2 ∧ q.1 = a ∧ q.2 = m)) (fun q => HP w0 (cellR blk 170 (fl enc N x) :: Fr0)) ?_ (fun q hs => ?_)
      ·
        refine xc_seq <| xc_region <| xp rfl (mv rfl) <| xp rfl (mv rfl) <| xp rfl (bin rfl rfl bk_gtr) <| xl_nil <| xq_then <| xc_cond rfl (fun hc9 => ?_) (fun hc9 => ?_)
        ·
          have h9 : m > (a + b) / 2 := by have h := of_decide_eq_true hc9; rw [emid] at h; omega
          refine xc_seq <| xc_region <| xp rfl (mv rfl) <| xp rfl (mv rfl) <| xp rfl (bin rfl rfl bk_sub) <| xp rfl (asg rfl) <| xl_nil <| xq_then <| ?_
          refine xc_region <| xp rfl (mv rfl) <| xp rfl (asg rfl) <| xl_nil <| xq_joinP ((a + b) / 2 + m - b, (a + b) / 2) (.inl ⟨h9, rfl, rfl⟩) (sc rfl <| sc rfl <| sc rfl <| sc rfl <| sc rfl <| sc (Env.as (congrArg (Value.int .i64) emid) rfl) <| sc (iw (by rw [emid]; omega) (by omega) (by omega) rfl) <| sc (by first | exact rfl | (dsimp only; exact iw (by rw [en]; omega) (by omega) (by omega) rfl)) <| sc (by first | exact rfl | (dsimp only; exact Env.as (congrArg (Value.int .i64) emid) rfl)) <| sn) (fun W hW => hW)
        ·
          have h9 : m ≤ (a + b) / 2 := by have h := of_decide_eq_false hc9; rw [emid] at h; omega
          refine xc_seq <| xc_region <| xp rfl (mv rfl) <| xp rfl (asg rfl) <| xl_nil <| xq_then <| ?_
          refine xc_region <| xp rfl (mv rfl) <| xp rfl (asg rfl) <| xl_nil <| xq_joinP (a, m) (.inr ⟨h9, rfl, rfl⟩) (sc rfl <| sc rfl <| sc rfl <| sc rfl <| sc rfl <| sc (Env.as (congrArg (Value.int .i64) emid) rfl) <| sc (iw (by rw [emid]; omega) (by omega) (by omega) rfl) <| sc (by first | exact rfl | (dsimp only; exact iw (by rw [en]; omega) (by omega) (by omega) rfl)) <| sc (by first | exact rfl | (dsimp only; exact Env.as (congrArg (Value.int .i64) emid) rfl)) <| sn) (fun W hW => hW)
      ·
        obtain ⟨s0, r0⟩ := q
        simp only at hs
        dsimp only
        refine xc_seq <| xc_region <| xp rfl (mv rfl) <| xp rfl (bin rfl rfl bk_sub) <| xp rfl (asg rfl) <| xl_nil <| xq_then <| xc_seq <| xc_block <| xc_loopP (σ := Nat × Nat) (fun q => [(20, .int .i64 q.1), (21, .int .i64 q.2), (22, .int .i64 (((a + b) / 2 + m - 1 : Nat) : Int)), (0, _), (1, _), (2, _), (3, _), (4, _), (18, _), (19, _)]) (fun q => s0 ≤ q.1 ∧ q.1 ≤ q.2 ∧ q.2 ≤ r0 ∧ (s0 < q.1 → ltI cf (x ((a + b) / 2 + m - 1 - (q.1 - 1))) (x (q.1 - 1)) = false) ∧ (q.2 < r0 → ltI cf (x ((a + b) / 2 + m - 1 - q.2)) (x q.2) = true)) (fun q => HP w0 (cellR blk 170 (fl enc N x) :: Fr0)) (fun q => q.2 - q.1) (s0, r0) ⟨Nat.le_refl _, by simp only; omega, Nat.le_refl _, fun h => absurd h (Nat.lt_irrefl _), fun h => absurd h (Nat.lt_irrefl _)⟩ (sc rfl <| sc rfl <| sc (iw (by omega) (by omega) (by omega) rfl) <| sc rfl <| sc rfl <| sc rfl <| sc rfl <| sc rfl <| sc rfl <| sc rfl <| sn) (fun W hW => hW) fun q ⟨hss, hsr, hrr, hlo, hhi⟩ => ?_
        obtain ⟨st, rr⟩ := q
        simp only at hss hsr hrr hlo hhi
        dsimp only
        refine xc_seq <| xc_seq <| xc_region <| xp rfl (mv rfl) <| xp rfl (mv rfl) <| xp rfl (bin rfl rfl bk_lss) <| xl_nil <| xq_then <| xc_cond rfl (fun hc10 => ?_) (fun hc10 => ?_)
        ·
          have hst : st < rr := by have h := of_decide_eq_true hc10; omega
          have eh := mid64 (i := st) (j := rr) (by omega)
          have epc : IntKind.i64.wrap ((((a + b) / 2 + m - 1 : Nat) : Int) - IntKind.i64.wrap ((IntKind.u64.wrap (IntKind.i64.wrap ((st : Int) + rr))).fdiv (2 ^ (min (1 : Int).toNat IntKind.u64.bits)))) = (((a + b) / 2 + m - 1 - (st + rr) / 2 : Nat) : Int) := w64 (by rw [eh]; omega) (by omega)
          refine xc_skip <| xq_then <| xc_block <| xc_seq <| xc_region <| xp rfl (mv rfl) <| xp rfl (mv rfl) <| xp rfl (bin rfl rfl bk_add) <| xp rfl (cv rfl (cvi Tryz.underlying3 Tryz.underlying56)) <| xp rfl (bin rfl rfl (bk_shr (by decide))) <| xp rfl (cv rfl (cvi Tryz.underlying56 Tryz.underlying3)) <| xp rfl (asg rfl) <| xl_nil <| xq_then <| ?_
          refine xc_seq <| xc_draw (canon := [(0, .p), (1, .p), (2, .p), (3, .p), (4, .p), (5, .p), (6, .p), (7, .p), (8, .p), (9, .p), (10, .p), (11, .p), (12, .p), (13, .p)]) (Z := HP _ [_]) mixed_ rfl (akp <| akp <| akp <| akp <| akp <| akp <| akp <| akp <| akp <| akp <| akp <| akp <| akp <| akp <| ak0) (zsub (.cons_cons _ <| List.nil_sublist _)) ?_
          refine dp rfl rfl rfl rfl (mv rfl) <| dp rfl rfl rfl rfl (mv rfl) <| dp rfl rfl rfl rfl (mv rfl) <| dp rfl rfl rfl rfl (mv rfl) <| dp rfl rfl rfl rfl (bin rfl rfl bk_sub) <| dp rfl rfl rfl rfl (ix so_104 rfl rfl (by rw [epc]; omega) (by rw [epc]; omega)) <| dp rfl rfl rfl rfl (ldR (i := ((a + b) / 2 + m - 1 - (st + rr) / 2)) hK kd_170 rfl (by rw [epc]; omega) (by omega) .head) <| dp rfl rfl rfl rfl (mv rfl) <| dp rfl rfl rfl rfl (mv rfl) <| dp rfl rfl rfl rfl (ix so_104 rfl rfl (by rw [eh]; omega) (by rw [eh]; omega)) <| dp rfl rfl rfl rfl (ldR (i := ((st + rr) / 2)) hK kd_170 rfl (by rw [eh]; omega) (by omega) .head) <| dq rfl rfl rfl rfl rfl Tryz.call169 rfl rfl (fun W hW => (hC _ _ W)) <| dp rfl rfl rfl rfl (bin rfl rfl bk_lss) <| dp rfl rfl rfl rfl (un rfl uk_not) <| dend <| xq_then <| xc_cond rfl (fun hc11 => ?_) (fun hc11 => ?_)
          ·
            have hl : ltI cf (x ((a + b) / 2 + m - 1 - (st + rr) / 2)) (x ((st + rr) / 2)) = false := by simpa using hc11
            refine xc_region <| xp rfl (mv rfl) <| xp rfl (bin rfl rfl bk_add) <| xp rfl (asg rfl) <| xl_nil <| xq_in <| xq_roundP ((st + rr) / 2 + 1, rr) (⟨by simp only; omega, by simp only; omega, hrr, fun _ => hl, hhi⟩) (by simp only; omega) (sc (by first | exact rfl | (dsimp only; exact iw (by rw [eh]; omega) (by omega) (by omega) rfl)) <| sc (by first | exact rfl | (dsimp only; exact Env.as (congrArg (Value.int .i64) eh) rfl)) <| sc rfl <| sc rfl <| sc rfl <| sc rfl <| sc rfl <| sc rfl <| sc rfl <| sc rfl <| sn) (fun W hW => hW)
          ·
            have hl : ltI cf (x ((a + b) / 2 + m - 1 - (st + rr) / 2)) (x ((st + rr) / 2)) = true := by simpa using hc11
            refine xc_region <| xp rfl (mv rfl) <| xp rfl (asg rfl) <| xl_nil <| xq_in <| xq_roundP (st, (st + rr) / 2) (⟨hss, by simp only; omega, by simp only; omega, hlo, fun _ => hl⟩) (by simp only; omega) (sc (by first | exact rfl | (dsimp only; exact iw (by rw [eh]; omega) (by omega) (by omega) rfl)) <| sc (by first | exact rfl | (dsimp only; exact Env.as (congrArg (Value.int .i64) eh) rfl)) <| sc rfl <| sc rfl <| sc rfl <| sc rfl <| sc rfl <| sc rfl <| sc rfl <| sc rfl <| sn) (fun W hW => hW)
        ·
          obtain rfl : st = rr := by have h := of_decide_eq_false hc10; omega
          have hsp : Srt.Split (ltI cf) x a m b ((a + b) / 2) st := Srt.Split.of hO h1 h2 hu hv hs hss hrr hlo hhi
          have g1 := hsp.lo
          have g2 := hsp.hi
          have g3 := hsp.e1
          have g4 := hsp.e2
          have hL := hsp.left hO hu hv
          have een : IntKind.i64.wrap ((((a + b) / 2 + m : Nat) : Int) - st) = (((a + b) / 2 + m - st : Nat) : Int) := w64 (by omega) (by omega)
          refine xc_exit <| xq_then_exit <| xq_then_exit <| xq_in_hit <| xq_then <| xc_seq <| xc_region <| xp rfl (mv rfl) <| xp rfl (mv rfl) <| xp rfl (bin rfl rfl bk_sub) <| xp rfl (asg rfl) <| xl_nil <| xq_then <| xc_joinP (σ := Unit) (fun _ => [(0, SL blk N c), (1, .int .i64 a), (3, .int .i64 b), (4, F169), (18, .int .i64 (((a + b) / 2 : Nat) : Int)), (20, .int .i64 st), (24, .int .i64 (((a + b) / 2 + m - st : Nat) : Int))]) (fun _ => True) (fun _ => HP w0 (cellR blk 170 (fl enc N (Srt.rot x st m ((a + b) / 2 + m - st))) :: Fr0)) ?_ (fun _ _ => ?_)
          ·
            refine xc_seq <| xc_region <| xp rfl (mv rfl) <| xp rfl (mv rfl) <| xp rfl (bin rfl rfl bk_lss) <| xp rfl (mv rfl) <| xl_and 4 185 (fun hg12 => xgT rfl rfl rfl hg12 <| xp rfl (mv rfl) <| xgT rfl rfl rfl hg12 <| xp rfl (mv rfl) <| xgT rfl rfl rfl hg12 <| xp rfl (bin rfl rfl bk_lss) <| xp rfl (pickT rfl hg12 rfl) <| xl_nil <| xq_and_yes hg12 (.kc rfl <| .kc rfl <| .kc rfl .kn) (fun _ h => h)) (fun hg12 => xgF rfl rfl rfl hg12 <| xgF rfl rfl rfl hg12 <| xgF rfl rfl rfl hg12 <| xp rfl (pickF rfl hg12 rfl) <| xl_nil <| xq_and_no hg12 (.kc rfl <| .kc rfl <| .kc rfl .kn) (fun _ h => h)) <| xl_nil <| xq_then <| xc_cond rfl (fun hc13 => ?_) (fun hc13 => ?_)
            ·
              have g5 : st < m ∧ m < (a + b) / 2 + m - st := by rw [een] at hc13; simp only [Bool.and_eq_true, decide_eq_true_eq] at hc13; omega
              refine xc_region <| xp rfl (mv rfl) <| xp rfl (mv rfl) <| xp rfl (mv rfl) <| xp rfl (mv rfl) <| xp rfl (mv rfl) <| xm rfl Tryz.call295 rfl rfl (.tc .head <| .tn) (rot_okI hK hF rfl rfl een hN g5.1 g5.2 (by omega)) fun _ _ => xl_nil <| xq_joinP () trivial (sc rfl <| sc rfl <| sc rfl <| sc rfl <| sc rfl <| sc rfl <| sc (Env.as (congrArg (Value.int .i64) een) rfl) <| sn) (fun W hW => hW)
            ·
              have g5 : st = m ∨ m = (a + b) / 2 + m - st := by rw [een] at hc13; simp only [Bool.and_eq_false_iff, decide_eq_false_iff_not] at hc13; omega
              refine xc_skip <| xq_joinP () trivial (sc rfl <| sc rfl <| sc rfl <| sc rfl <| sc rfl <| sc rfl <| sc (Env.as (congrArg (Value.int .i64) een) rfl) <| sn) (fun W hW => by rw [Srt.rot_id x g5]; exact hW)
          ·
            refine xc_joinP (σ := Nat → α) (fun z1 => [(0, SL blk N c), (3, .int .i64 b), (4, F169), (18, .int .i64 (((a + b) / 2 : Nat) : Int)), (24, .int .i64 (((a + b) / 2 + m - st : Nat) : Int))]) (fun z1 => Srt.Re a ((a + b) / 2) (Srt.rot x st m ((a + b) / 2 + m - st)) z1 ∧ Srt.On (ltI cf) z1 a ((a + b) / 2)) (fun z1 => HP w0 (cellR blk 170 (fl enc N z1) :: Fr0)) ?_ (fun z1 ⟨hr1, ho1⟩ => ?_)
            ·
              refine xc_seq <| xc_region <| xp rfl (mv rfl) <| xp rfl (mv rfl) <| xp rfl (bin rfl rfl bk_lss) <| xp rfl (mv rfl) <| xl_and 4 199 (fun hg14 => xgT rfl rfl rfl hg14 <| xp rfl (mv rfl) <| xgT rfl rfl rfl hg14 <| xp rfl (mv rfl) <| xgT rfl rfl rfl hg14 <| xp rfl (bin rfl rfl bk_lss) <| xp rfl (pickT rfl hg14 rfl) <| xl_nil <| xq_and_yes hg14 (.kc rfl <| .kc rfl <| .kc rfl .kn) (fun _ h => h)) (fun hg14 => xgF rfl rfl rfl hg14 <| xgF rfl rfl rfl hg14 <| xgF rfl rfl rfl hg14 <| xp rfl (pickF rfl hg14 rfl) <| xl_nil <| xq_and_no hg14 (.kc rfl <| .kc rfl <| .kc rfl .kn) (fun _ h => h)) <| xl_nil <| xq_then <| xc_cond rfl (fun hc15 => ?_) (fun hc15 => ?_)
              ·
                have g6 : a < st ∧ st < (a + b) / 2 := by simp only [Bool.and_eq_true, decide_eq_true_eq] at hc15; omega
                refine xc_region <| xp rfl (mv rfl) <| xp rfl (mv rfl) <| xp rfl (mv rfl) <| xp rfl (mv rfl) <| xp rfl (mv rfl) <| xm rfl Tryz.call268 rfl rfl (.tc .head <| .tn) (ih _ _ _ _ _ _ _ _ _ _ _ (by omega) rfl rfl rfl hN g6.1 g6.2 (by omega) hL.1 hL.2.1) fun z1 ⟨hr1, ho1⟩ => xl_nil <| xq_joinP z1 (⟨hr1, ho1⟩) (sc rfl <| sc rfl <| sc rfl <| sc rfl <| sc rfl <| sn) (fun W hW => hW)
              ·
                have g6 : Srt.On (ltI cf) (Srt.rot x st m ((a + b) / 2 + m - st)) a ((a + b) / 2) := by
                  simp only [Bool.and_eq_false_iff, decide_eq_false_iff_not] at hc15
                  rcases (show st = a ∨ st = (a + b) / 2 by omega) with h | h
                  · exact hL.2.1.sub (by omega) (Nat.le_refl _)
                  · exact hL.1.sub (Nat.le_refl _) (by omega)
                refine xc_skip <| xq_joinP (Srt.rot x st m ((a + b) / 2 + m - st)) (⟨Srt.Re.refl _ _ _, g6⟩) (sc rfl <| sc rfl <| sc rfl <| sc rfl <| sc rfl <| sn) (fun W hW => hW)
            ·
              refine xc_seq <| xc_region <| xp rfl (mv rfl) <| xp rfl (mv rfl) <| xp rfl (bin rfl rfl bk_lss) <| xp rfl (mv rfl) <| xl_and 4 213 (fun hg16 => xgT rfl rfl rfl hg16 <| xp rfl (mv rfl) <| xgT rfl rfl rfl hg16 <| xp rfl (mv rfl) <| xgT rfl rfl rfl hg16 <| xp rfl (bin rfl rfl bk_lss) <| xp rfl (pickT rfl hg16 rfl) <| xl_nil <| xq_and_yes hg16 (.kc rfl <| .kc rfl <| .kc rfl .kn) (fun _ h => h)) (fun hg16 => xgF rfl rfl rfl hg16 <| xgF rfl rfl rfl hg16 <| xgF rfl rfl rfl hg16 <| xp rfl (pickF rfl hg16 rfl) <| xl_nil <| xq_and_no hg16 (.kc rfl <| .kc rfl <| .kc rfl .kn) (fun _ h => h)) <| xl_nil <| xq_then <| xc_cond rfl (fun hc17 => ?_) (fun hc17 => ?_)
              ·
                have g7 : (a + b) / 2 < (a + b) / 2 + m - st ∧ (a + b) / 2 + m - st < b := by simp only [Bool.and_eq_true, decide_eq_true_eq] at hc17; omega
                refine xc_region <| xp rfl (mv rfl) <| xp rfl (mv rfl) <| xp rfl (mv rfl) <| xp rfl (mv rfl) <| xp rfl (mv rfl) <| xm rfl Tryz.call268 rfl rfl (.tc .head <| .tn) (ih _ _ _ _ _ _ _ _ _ _ _ (by omega) rfl rfl rfl hN g7.1 g7.2 h3 (hL.2.2.1.congr fun k k1 k2 => hr1.out (.inr k1)) (hL.2.2.2.congr fun k k1 k2 => hr1.out (.inr (by omega)))) fun z2 ⟨hr2, ho2⟩ => xl_nil <| leave0 (.inr rfl) rfl  fun W hW => (⟨z2, rfl, ⟨((Srt.Re.rot x g1 g2.2 g3 g4).trans (hr1.wide (Nat.le_refl _) (by omega))).trans (hr2.wide (by omega) (Nat.le_refl _)), hsp.done hO h1 h2 (by omega) (by omega) hu hv hr1 ho1 hr2 ho2⟩, hW⟩)
              ·
                have g7 : Srt.On (ltI cf) z1 ((a + b) / 2) b := by
                  simp only [Bool.and_eq_false_iff, decide_eq_false_iff_not] at hc17
                  rcases (show (a + b) / 2 + m - st = (a + b) / 2 ∨ (a + b) / 2 + m - st = b by omega) with h | h
                  · exact (hL.2.2.2.congr fun k k1 k2 => hr1.out (.inr (by omega))).sub (by omega) (Nat.le_refl _)
                  · exact (hL.2.2.1.congr fun k k1 k2 => hr1.out (.inr k1)).sub (Nat.le_refl _) (by omega)
                refine xc_skip <| leave0 (.inr rfl) rfl  fun W hW => (⟨z1, rfl, ⟨(Srt.Re.rot x g1 g2.2 g3 g4).trans (hr1.wide (Nat.le_refl _) (by omega)), hsp.done hO h1 h2 (by omega) (by omega) hu hv hr1 ho1 (Srt.Re.refl _ _ _) g7⟩, hW⟩)

theorem sym_all (hK : ∀ x, (enc x).length = 3) (hF : ∀ x, (enc x).all flat1 = true) (hC : CmpOK enc cf) (hO : Srt.SWO (ltI cf)) : ∀ f, SymOK enc cf f
  | 0 => fun w blk N c x a m b ai mi bi hf _ _ _ _ h1 h2 => by omega
  | f + 1 => sym_step hK hF hC hO (sym_all hK hF hC hO f)
theorem sym_okI {w : World} (hK : ∀ x, (enc x).length = 3) (hF : ∀ x, (enc x).all flat1 = true) (hC : CmpOK enc cf) (hO : Srt.SWO (ltI cf)) {blk N c : Nat} {x : Nat → α} {a m b : Nat} {ai mi bi : Int} (ea : ai = (a : Nat)) (em : mi = (m : Nat)) (eb : bi = (b : Nat)) (hN : N ≤ 1000000) (h1 : a < m) (h2 : m < b) (h3 : b ≤ N) (hu : Srt.On (ltI cf) x a m) (hv : Srt.On (ltI cf) x m b) :
  RetM Tryz.prog w 268 [SL blk N c, .int .i64 ai, .int .i64 mi, .int .i64 bi, F169] [cellR blk 170 (fl enc N x)] (fun _ : Nat → α => .tuple #[]) (fun y => Srt.Re a b x y ∧ Srt.On (ltI cf) y a b) (fun y => [cellR blk 170 (fl enc N y)]) :=
  sym_all hK hF hC hO (b - a) w blk N c x a m b ai mi bi (Nat.le_refl _) ea em eb hN h1 h2 h3 hu hv
/-- In order, block by block: those ahead of a; those of half the size from a on. -/
def Done (cf : α → α → Int) (y : Nat → α) (s a : Nat) : Prop := s ∣ a ∧ ∀ c, s ∣ c → c + s ≤ a → Srt.On (ltI cf) y c (c + s)
def Chunk (cf : α → α → Int) (y : Nat → α) (s a N : Nat) : Prop := ∀ c, s ∣ c → a ≤ c → Srt.On (ltI cf) y c (min (c + s) N)
theorem Done.zero (y : Nat → α) {s : Nat} (hs : 0 < s) : Done cf y s 0 := ⟨Nat.dvd_zero _, fun c _ h => by omega⟩
theorem dvd_gap {s c a : Nat} (h1 : s ∣ c) (h2 : s ∣ a) (h : c < a) : c + s ≤ a := by
  have h3 := Nat.le_of_dvd (by omega) (Nat.dvd_sub h2 h1)
  omega
theorem Done.step {y z : Nat → α} {s a : Nat} (hd : Done cf y s a) (hr : Srt.Re a (a + s) y z) (ho : Srt.On (ltI cf) z a (a + s)) : Done cf z s (a + s) := by
  refine ⟨Nat.dvd_add hd.1 (Nat.dvd_refl _), fun c hc h => ?_⟩
  rcases Nat.lt_or_ge c a with h1 | h1
  · have h2 := dvd_gap hc hd.1 h1
    exact (hd.2 c hc h2).congr fun k k1 k2 => hr.out (.inl (by omega))
  · obtain rfl : c = a := by omega
    exact ho
theorem Done.last {y z : Nat → α} {s a N : Nat} (hs : 0 < s) (hd : Done cf y s a) (hN : N < a + s) (hr : Srt.Re a N y z) (ho : Srt.On (ltI cf) z a N) : Chunk cf z s 0 N := fun c hc _ => by
  rcases Nat.lt_or_ge c a with h1 | h1
  · have h2 := dvd_gap hc hd.1 h1
    exact ((hd.2 c hc h2).congr fun k k1 k2 => hr.out (.inl (by omega))).sub (Nat.le_refl _) (Nat.min_le_left _ _)
  · rcases Nat.lt_or_eq_of_le h1 with h2 | h2
    · have h3 := dvd_gap hd.1 hc h2
      exact Srt.On.small (by omega)
    · subst h2; exact ho.sub (Nat.le_refl _) (Nat.min_le_right _ _)
theorem Chunk.step {y z : Nat → α} {s a b N : Nat} (hk : Chunk cf y s a N) (hab : a ≤ b) (hr : Srt.Re a b y z) : Chunk cf z s b N := fun c hc h =>
  (hk c hc (by omega)).congr fun k k1 k2 => hr.out (.inr (by omega))
theorem half_dvd {s a : Nat} (h : 2 * s ∣ a) : s ∣ a := Nat.dvd_trans (Nat.dvd_mul_left s 2) h
theorem Chunk.all {y : Nat → α} {s N : Nat} (hk : Chunk cf y s 0 N) (h : N ≤ s) : Srt.On (ltI cf) y 0 N := (hk 0 (Nat.dvd_zero _) (Nat.le_refl _)).sub (Nat.le_refl _) (by omega)

theorem stab_ok {w : World} (hK : ∀ x, (enc x).length = 3) (hF : ∀ x, (enc x).all flat1 = true) (hC : CmpOK enc cf) (hO : Srt.SWO (ltI cf)) {blk N c : Nat} {x : Nat → α} (hN : N ≤ 1000000) :
  RetM Tryz.prog w 227 [SL blk N c, .int .i64 N, F169] [cellR blk 170 (fl enc N x)] (fun _ : Nat → α => .tuple #[]) (fun y => Srt.Re 0 N x y ∧ Srt.On (ltI cf) y 0 N) (fun y => [cellR blk 170 (fl enc N y)]) := by
  intro w0 Fr0 W hB hW
  refine begin_at Tryz.func227 rfl rfl rfl hW ?_
  refine xc_seq <| xc_region <| xp rfl (asg rfl) <| xl_nil <| xq_then <| ?_
  -- SEQ 3
  refine xc_seq <| xc_region <| xp rfl (mv rfl) <| xp rfl (asg rfl) <| xp rfl (asg rfl) <| xl_nil <| xq_then <| xc_seq <| xc_block <| xc_loopP (σ := Nat × (Nat → α)) (fun q => [(7, .int .i64 q.1), (8, .int .i64 ((q.1 + 20 : Nat) : Int)), (0, _), (1, _), (2, _), (6, _)]) (fun q => q.1 ≤ N ∧ Srt.Re 0 N x q.2 ∧ Done cf q.2 20 q.1) (fun q => HP w0 (cellR blk 170 (fl enc N q.2) :: Fr0)) (fun q => N - q.1) (0, x) ⟨Nat.zero_le _, Srt.Re.refl _ _ _, Done.zero x (by decide)⟩ (sc rfl <| sc rfl <| sc rfl <| sc rfl <| sc rfl <| sc rfl <| sn) (fun W hW => hW) fun q ⟨haN, hre, hdn⟩ => ?_
  obtain ⟨a, y⟩ := q
  simp only at haN hre hdn
  dsimp only
  -- SEQ 4
  refine xc_seq <| xc_seq <| xc_region <| xp rfl (mv rfl) <| xp rfl (mv rfl) <| xp rfl (bin rfl rfl bk_leq) <| xl_nil <| xq_then <| xc_cond rfl (fun hc1 => ?_) (fun hc1 => ?_)
  ·
    have hle : a + 20 ≤ N := by have h := of_decide_eq_true hc1; omega
    refine xc_skip <| xq_then <| xc_block <| xc_seq <| xc_region <| xp rfl (mv rfl) <| xp rfl (mv rfl) <| xp rfl (mv rfl) <| xp rfl (mv rfl) <| xm rfl Tryz.call267 rfl rfl (.tc .head <| .tn) (ins_okI hK hF hC hO rfl rfl hN (by omega) (by omega)) fun y1 ⟨hr1, ho1⟩ => xl_nil <| xq_then <| ?_
    refine xc_seq <| xc_region <| xp rfl (mv rfl) <| xp rfl (asg rfl) <| xl_nil <| xq_then <| ?_
    refine xc_region <| xp rfl (mv rfl) <| xp rfl (mv rfl) <| xp rfl (bin rfl rfl bk_add) <| xp rfl (asg rfl) <| xl_nil <| xq_in <| xq_roundP (a + 20, y1) (⟨hle, hre.trans (hr1.wide (Nat.zero_le _) hle), hdn.step hr1 ho1⟩) (by simp only; omega) (sc rfl <| sc (by first | exact rfl | (dsimp only; exact iw (by omega) (by omega) (by omega) rfl)) <| sc rfl <| sc rfl <| sc rfl <| sc rfl <| sn) (fun W hW => hW)
  ·
    have hlt : N < a + 20 := by have h := of_decide_eq_false hc1; omega
    refine xc_exit <| xq_then_exit <| xq_then_exit <| xq_in_hit <| xq_then <| xc_seq <| xc_region <| xp rfl (mv rfl) <| xp rfl (mv rfl) <| xp rfl (mv rfl) <| xp rfl (mv rfl) <| xm rfl Tryz.call267 rfl rfl (.tc .head <| .tn) (ins_okI hK hF hC hO rfl rfl hN (by omega) (by omega)) fun y1 ⟨hr1, ho1⟩ => xl_nil <| xq_then <| xc_block <| xc_loopP (σ := Nat × (Nat → α)) (fun q => [(6, .int .i64 q.1), (0, _), (1, _), (2, _)]) (fun q => 0 < q.1 ∧ q.1 ≤ 4000000 ∧ Srt.Re 0 N x q.2 ∧ Chunk cf q.2 q.1 0 N) (fun q => HP w0 (cellR blk 170 (fl enc N q.2) :: Fr0)) (fun q => N - q.1) (20, y1) ⟨by simp only; omega, by simp only; omega, hre.trans (hr1.wide (Nat.zero_le _) (Nat.le_refl _)), Done.last (by omega) hdn hlt hr1 ho1⟩ (sc rfl <| sc rfl <| sc rfl <| sc rfl <| sn) (fun W hW => hW) fun q ⟨hs0, hsb, hre, hck⟩ => ?_
    obtain ⟨s, y⟩ := q
    simp only at hs0 hsb hre hck
    dsimp only
    -- SEQ 9
    refine xc_seq <| xc_seq <| xc_region <| xp rfl (mv rfl) <| xp rfl (mv rfl) <| xp rfl (bin rfl rfl bk_lss) <| xl_nil <| xq_then <| xc_cond rfl (fun hc2 => ?_) (fun hc2 => ?_)
    ·
      have hsN : s < N := by have h := of_decide_eq_true hc2; omega
      -- SEQ 12
      refine xc_skip <| xq_then <| xc_block <| xc_seq <| xc_region <| xp rfl (mv rfl) <| xp rfl (bin rfl rfl bk_mul) <| xp rfl (asg rfl) <| xp rfl (asg rfl) <| xl_nil <| xq_then <| xc_seq <| xc_block <| xc_loopP (σ := Nat × (Nat → α)) (fun q => [(7, .int .i64 q.1), (8, .int .i64 ((q.1 + 2 * s : Nat) : Int)), (0, _), (1, _), (2, _), (6, _)]) (fun q => q.1 ≤ N ∧ Srt.Re 0 N x q.2 ∧ Done cf q.2 (2 * s) q.1 ∧ Chunk cf q.2 s q.1 N) (fun q => HP w0 (cellR blk 170 (fl enc N q.2) :: Fr0)) (fun q => N - q.1) (0, y) ⟨Nat.zero_le _, hre, Done.zero y (by omega), hck⟩ (sc rfl <| sc (iw (by omega) (by omega) (by omega) rfl) <| sc rfl <| sc rfl <| sc rfl <| sc rfl <| sn) (fun W hW => hW) fun q ⟨haN, hre2, hdn2, hck2⟩ => ?_
      obtain ⟨a, z⟩ := q
      simp only at haN hre2 hdn2 hck2
      dsimp only
      have ha1 := half_dvd hdn2.1
      have e1 : IntKind.i64.wrap ((a : Int) + s) = ((a + s : Nat) : Int) := w64 (by omega) (by omega)
      have e2 : IntKind.i64.wrap (2 * (s : Int)) = ((2 * s : Nat) : Int) := w64 (by omega) (by omega)
      -- SEQ 13
      refine xc_seq <| xc_seq <| xc_region <| xp rfl (mv rfl) <| xp rfl (mv rfl) <| xp rfl (bin rfl rfl bk_leq) <| xl_nil <| xq_then <| xc_cond rfl (fun hc3 => ?_) (fun hc3 => ?_)
      ·
        have hle : a + 2 * s ≤ N := by have h := of_decide_eq_true hc3; omega
        have o1 : Srt.On (ltI cf) z a (a + s) := (hck2 a ha1 (Nat.le_refl _)).sub (Nat.le_refl _) (by omega)
        have o2 : Srt.On (ltI cf) z (a + s) (a + 2 * s) := (hck2 (a + s) (Nat.dvd_add ha1 (Nat.dvd_refl _)) (by omega)).sub (Nat.le_refl _) (by omega)
        refine xc_skip <| xq_then <| xc_block <| xc_seq <| xc_region <| xp rfl (mv rfl) <| xp rfl (mv rfl) <| xp rfl (mv rfl) <| xp rfl (mv rfl) <| xp rfl (bin rfl rfl bk_add) <| xp rfl (mv rfl) <| xp rfl (mv rfl) <| xm rfl Tryz.call268 rfl rfl (.tc .head <| .tn) (sym_okI hK hF hC hO rfl e1 rfl hN (by omega) (by omega) (by omega) o1 o2) fun z1 ⟨hr1, ho1⟩ => xl_nil <| xq_then <| ?_
        refine xc_seq <| xc_region <| xp rfl (mv rfl) <| xp rfl (asg rfl) <| xl_nil <| xq_then <| ?_
        refine xc_region <| xp rfl (mv rfl) <| xp rfl (mv rfl) <| xp rfl (bin rfl rfl bk_mul) <| xp rfl (bin rfl rfl bk_add) <| xp rfl (asg rfl) <| xl_nil <| xq_in <| xq_roundP (a + 2 * s, z1) (⟨hle, hre2.trans (hr1.wide (Nat.zero_le _) hle), hdn2.step hr1 ho1, hck2.step (by omega) hr1⟩) (by simp only; omega) (sc rfl <| sc (by first | exact rfl | (dsimp only; exact iw (by rw [e2]; omega) (by omega) (by omega) rfl)) <| sc rfl <| sc rfl <| sc rfl <| sc rfl <| sn) (fun W hW => hW)
      ·
        have hlt : N < a + 2 * s := by have h := of_decide_eq_false hc3; omega
        -- SEQ 17
        refine xc_exit <| xq_then_exit <| xq_then_exit <| xq_in_hit <| xq_then <| xc_seq <| xc_seq <| xc_region <| xp rfl (mv rfl) <| xp rfl (mv rfl) <| xp rfl (bin rfl rfl bk_add) <| xp rfl (asg rfl) <| xl_nil <| xq_then <| ?_
        refine xc_seq <| xc_region <| xp rfl (mv rfl) <| xp rfl (mv rfl) <| xp rfl (bin rfl rfl bk_lss) <| xl_nil <| xq_then <| xc_cond rfl (fun hc4 => ?_) (fun hc4 => ?_)
        ·
          have hm : a + s < N := by have h := of_decide_eq_true hc4; rw [e1] at h; omega
          have o1 : Srt.On (ltI cf) z a (a + s) := (hck2 a ha1 (Nat.le_refl _)).sub (Nat.le_refl _) (by omega)
          have o2 : Srt.On (ltI cf) z (a + s) N := (hck2 (a + s) (Nat.dvd_add ha1 (Nat.dvd_refl _)) (by omega)).sub (Nat.le_refl _) (by omega)
          refine xc_region <| xp rfl (mv rfl) <| xp rfl (mv rfl) <| xp rfl (mv rfl) <| xp rfl (mv rfl) <| xp rfl (mv rfl) <| xm rfl Tryz.call268 rfl rfl (.tc .head <| .tn) (sym_okI hK hF hC hO rfl e1 rfl hN (by omega) (by omega) (Nat.le_refl _) o1 o2) fun z1 ⟨hr1, ho1⟩ => xl_nil <| xq_then <| ?_
          refine xc_region <| xp rfl (mv rfl) <| xp rfl (bin rfl rfl bk_mul) <| xp rfl (asg rfl) <| xl_nil <| xq_in <| xq_roundP (2 * s, z1) (⟨by simp only; omega, by simp only; omega, hre2.trans (hr1.wide (Nat.zero_le _) (Nat.le_refl _)), Done.last (by omega) hdn2 hlt hr1 ho1⟩) (by simp only; omega) (sc (by dsimp only; exact iw (by omega) (by omega) (by omega) rfl) <| sc rfl <| sc rfl <| sc rfl <| sn) (fun W hW => hW)
        ·
          have hm : N ≤ a + s := by have h := of_decide_eq_false hc4; rw [e1] at h; omega
          have o1 : Srt.On (ltI cf) z a N := (hck2 a ha1 (Nat.le_refl _)).sub (Nat.le_refl _) (by omega)
          refine xc_skip <| xq_then <| xc_region <| xp rfl (mv rfl) <| xp rfl (bin rfl rfl bk_mul) <| xp rfl (asg rfl) <| xl_nil <| xq_in <| xq_roundP (2 * s, z) (⟨by simp only; omega, by simp only; omega, hre2, Done.last (by omega) hdn2 hlt (Srt.Re.refl _ _ _) o1⟩) (by simp only; omega) (sc (by dsimp only; exact iw (by omega) (by omega) (by omega) rfl) <| sc rfl <| sc rfl <| sc rfl <| sn) (fun W hW => hW)
    ·
      have hsN : N ≤ s := by have h := of_decide_eq_false hc2; omega
      refine xc_exit <| xq_then_exit <| xq_then_exit <| xq_in_hit <| leave0 (.inr rfl) rfl  fun W hW => (⟨y, rfl, ⟨hre, hck.all hsN⟩, hW⟩)

theorem sstab_ok {w : World} (hK : ∀ x, (enc x).length = 3) (hF : ∀ x, (enc x).all flat1 = true) (hC : CmpOK enc cf) (hO : Srt.SWO (ltI cf)) {blk N c : Nat} {x : Nat → α} (hN : N ≤ 1000000) :
  RetM Tryz.prog w 168 [SL blk N c, F169] [cellR blk 170 (fl enc N x)] (fun _ : Nat → α => .tuple #[]) (fun y => Srt.Re 0 N x y ∧ Srt.On (ltI cf) y 0 N) (fun y => [cellR blk 170 (fl enc N y)]) := by
  intro w0 Fr0 W hB hW
  refine begin_at Tryz.func168 rfl rfl rfl hW ?_
  refine xc_region <| xp rfl (mv rfl) <| xp rfl (mv rfl) <| xp rfl (lenv Tryz.underlying104 rfl) <| xp rfl (mv rfl) <| xm rfl Tryz.call227 rfl rfl (.tc .head <| .tn) (stab_ok hK hF hC hO hN) fun y hy => xl_nil <| leave0 (.inr rfl) rfl  fun W hW => (⟨y, rfl, hy, hW⟩)

end Go.Eng
end
section
namespace Go.Eng
open Go Go.RowKit Go.Proofs
set_option linter.unusedVariables false
set_option linter.unusedSimpArgs false
set_option maxRecDepth 4000
theorem bk_sgtr {P : Program} {T : TypeId} {x y : Operand} {s t : ByteArray} : BinOK P .gtr T x y (.string s) (.string t) (.bool (idLt t s)) := fun w => by
  have h1 := idLt_bytes s t
  simp only [eqGuard, binOp, Op.stringOp]
  simp only [h1]
  have key : (!(idLt s t || s.toList == t.toList)) = idLt t s := by
    cases h2 : idLt t s with
    | true =>
      have h3 := idLt_asymm h2
      have h4 : (s.toList == t.toList) = false := by
        cases h5 : s.toList == t.toList with
        | false => rfl
        | true => rw [beq_id.1 h5, idLt_irrefl] at h2; cases h2
      rw [h3, h4]; rfl
    | false =>
      cases h3 : idLt s t with
      | true => rfl
      | false => rw [idLt_tri h3 h2]; simp
  simp [← key]
def cmpI (a b : ByteArray) : Int := if idLt a b then -1 else if idLt b a then 1 else 0
theorem cmpI_lt (a b : ByteArray) : decide (cmpI a b < 0) = idLt a b := by
  unfold cmpI; cases h : idLt a b with
  | true => rfl
  | false => cases h2 : idLt b a <;> simp

theorem isnan_ok (s : ByteArray) (w : World) : RetV Tryz.prog 177 [.string s] w (.bool false) := by
  refine begin_ Tryz.func177 rfl rfl rfl ?_
  refine xc_seq <| xc_region <| xp rfl (asg rfl) <| xl_nil <| xq_then <| ?_
  refine xc_seq <| xc_region <| xp rfl (mv rfl) <| xp rfl (mv rfl) <| xp rfl (bin rfl rfl bk_sneq) <| xp rfl (asg rfl) <| xl_nil <| xq_then <| xc_ret <| leave1 (.inl rfl) rfl (.tmp rfl) fun W hW => (⟨by simp, hW.below⟩)

theorem cmpstr_ok (a b : ByteArray) (w : World) : RetV Tryz.prog 98 [.string a, .string b] w (.int .i64 (cmpI a b)) := by
  refine begin_ Tryz.func98 rfl rfl rfl ?_
  refine xc_seq <| xc_region <| xp rfl (asg rfl) <| xl_nil <| xq_then <| ?_
  refine xc_seq <| xc_region <| xp rfl (mv rfl) <| xv rfl Tryz.call177 rfl rfl (fun W hW => (isnan_ok a W)) <| xp rfl (asg rfl) <| xl_nil <| xq_then <| ?_
  refine xc_seq <| xc_region <| xp rfl (mv rfl) <| xv rfl Tryz.call177 rfl rfl (fun W hW => (isnan_ok b W)) <| xp rfl (asg rfl) <| xl_nil <| xq_then <| ?_
  refine xc_seq <| xc_seq <| xc_region <| xp rfl (mv rfl) <| xl_nil <| xq_then <| xc_cond rfl (fun hc1 => ?_) (fun hc1 => ?_)
  ·
    cases hc1
  ·
    refine xc_skip <| xq_then <| xc_seq <| xc_seq <| xc_region <| xp rfl (mv rfl) <| xl_nil <| xq_then <| xc_cond rfl (fun hc2 => ?_) (fun hc2 => ?_)
    ·
      cases hc2
    ·
      refine xc_skip <| xq_then <| xc_seq <| xc_seq <| xc_region <| xp rfl (mv rfl) <| xp rfl (mv rfl) <| xp rfl (bin rfl rfl bk_slss) <| xl_nil <| xq_then <| xc_cond rfl (fun hc3 => ?_) (fun hc3 => ?_)
      ·
        have h4 : idLt a b = true := by rw [← idLt_bytes]; exact hc3
        refine xc_seq <| xc_region <| xp rfl (asg rfl) <| xl_nil <| xq_then <| xc_ret <| xq_then_ret <| leave1 (.inl rfl) rfl (.tmp rfl) fun W hW => (⟨by simp [cmpI, h4], hW.below⟩)
      ·
        have h4 : idLt a b = false := by rw [← idLt_bytes]; exact hc3
        refine xc_skip <| xq_then <| xc_seq <| xc_seq <| xc_region <| xp rfl (mv rfl) <| xp rfl (mv rfl) <| xp rfl (bin rfl rfl bk_sgtr) <| xl_nil <| xq_then <| xc_cond rfl (fun hc4 => ?_) (fun hc4 => ?_)
        ·
          refine xc_seq <| xc_region <| xp rfl (asg rfl) <| xl_nil <| xq_then <| xc_ret <| xq_then_ret <| leave1 (.inl rfl) rfl (.tmp rfl) fun W hW => (⟨by simp [cmpI, h4, hc4], hW.below⟩)
        ·
          refine xc_skip <| xq_then <| xc_seq <| xc_region <| xp rfl (asg rfl) <| xl_nil <| xq_then <| xc_ret <| leave1 (.inl rfl) rfl (.tmp rfl) fun W hW => (⟨by simp [cmpI, h4, hc4], hW.below⟩)

theorem cmprow_ok : CmpOK Rw.c (fun x y => cmpI x.id y.id) := by
  intro x y w
  refine begin_ Tryz.func169 rfl rfl rfl ?_
  refine xc_seq <| xc_region <| xe rfl (bx rfl rfl) fun b1 _ => xe rfl (bx rfl rfl) fun b2 _ => xp rfl (asg rfl) <| xl_nil <| xq_then <| ?_
  refine xc_seq <| xc_region <| xp rfl (fa fa_170_0 rfl) <| xp rfl (ld kd_9 rfl (.tail .head) rfl) <| xp rfl (fa fa_170_0 rfl) <| xp rfl (ld kd_9 rfl .head rfl) <| xv rfl Tryz.call98 rfl rfl (fun W hW => (cmpstr_ok _ _ W)) <| xp rfl (asg rfl) <| xl_nil <| xq_then <| xc_ret <| leave1 (.inl rfl) rfl (.tmp rfl) fun W hW => (⟨rfl, hW.below⟩)

theorem rwK : ∀ x : Rw, (Rw.c x).length = 3 := fun _ => rfl
theorem rwF : ∀ x : Rw, (Rw.c x).all flat1 = true := fun _ => rfl
theorem rwO : Srt.SWO (ltI (fun x y : Rw => cmpI x.id y.id)) := by
  have e : ltI (fun x y : Rw => cmpI x.id y.id) = fun x y => idLt x.id y.id := by funext x y; exact cmpI_lt _ _
  rw [e]; exact swo_of Rw.id
theorem splice_all {vs us : List Value} (h : vs.length = us.length) : splice vs 0 us = us := by
  have := splice_app us [] vs [] h
  simpa using this
theorem zeros_len (z : List Value) (n : Nat) : (zeros z n).length = n * z.length := by
  induction n with
  | zero => simp [zeros]
  | succ n ih => simp only [zeros, List.replicate_succ, List.flatten_cons, List.length_append] at ih ⊢; rw [ih, Nat.add_mul]; omega

theorem rsort_ok {A : Option Addr} {l : List Rw} {c : Nat} {w : World} (hr : rowOf w 3 Rw.c A l) (hl : l.length ≤ 100000) (hn : (l.map Rw.id).Nodup) :
  Ret Tryz.prog 86 [.slice A l.length c] w (fun b : Nat => .slice (some ⟨b, 0, none⟩) l.length l.length) (fun _ => True) (fun b => [cellR b 170 ((byKey Rw.id l).flatMap Rw.c)]) := by
  have hfl : (l.flatMap Rw.c).length = l.length * 3 := length_flatMap_enc rwK l
  refine begin_ Tryz.func86 rfl rfl rfl ?_
  refine xc_seq <| xc_region <| xp rfl (asg rfl) <| xl_nil <| xq_then <| ?_
  refine xc_seq <| xc_region <| xp rfl (mv rfl) <| xp rfl (lenv Tryz.underlying104 rfl) <| xe rfl (mk mk_104 rfl rfl (by omega) (by omega) (by omega) (by omega)) fun b1 _ => xp rfl (asg rfl) <| xl_nil <| xq_then <| ?_
  refine xc_seq <| xc_region <| xp rfl (mv rfl) <| xp rfl (mv rfl) <| xe rfl (cp so_104 rfl rfl rfl (fun W hW => hr.up hW) rfl .head (by rw [zeros_len]; simp) (fun u hu => by obtain ⟨x, _, h⟩ := List.mem_flatMap.1 hu; exact List.all_eq_true.1 (rwF x) u h) _) fun _ _ => xl_nil <| xq_then <| ?_
  refine xc_seq <| xc_toH (HP w [cellR b1 170 (fl Rw.c l.length (fun i => l.getD i rw0))]) (fun W hW => by rw [splice_all (by rw [zeros_len, List.length_take, hfl]; simp), List.take_of_length_le (by rw [hfl]; simp)] at hW; rw [fl, row_of_list]; exact hW) ?_
  refine xc_region <| xp rfl (mv rfl) <| xm rfl Tryz.call168 rfl rfl (.tc .head <| .tn) (sstab_ok rwK rwF cmprow_ok rwO (by omega)) fun y ⟨hre, hon⟩ => xl_nil <| xq_then <| ?_
  refine xc_seq <| xc_region <| xp rfl (mv rfl) <| xp rfl (asg rfl) <| xl_nil <| xq_then <| xc_ret <| leave1 (.inl rfl) rfl (.tmp rfl) fun W hW => (⟨b1, rfl, trivial, by
      simp only [Int.toNat_natCast] at hre hon hW
      have hp := hre.perm
      rw [row_of_list] at hp
      have hs := hon.pairwise
      have he := byKey_eq hn hp (hs.imp fun h => by rw [← cmpI_lt]; exact h)
      rw [fl, he] at hW; exact hW⟩)

end Go.Eng
end
section
namespace Go.Eng
open Go Go.RowKit Go.Proofs Go.Maps
set_option linter.unusedVariables false
set_option linter.unusedSimpArgs false
set_option maxRecDepth 4000
/-! # The ledger -/
def gId (rows : List Rw) : Lit → Int
  | .string bs => ((rows.filter fun r => decide (r.id.data.toList = bs)).length : Int)
  | _ => 0
abbrev kId (s : ByteArray) : Lit := .string s.data.toList
def hasR (rows : List Rw) (id : ByteArray) : Bool := rows.any fun r => r.id.toList == id.toList
theorem hasR_iff {rows : List Rw} {id : ByteArray} : hasR rows id = true ↔ ∃ r ∈ rows, r.id = id := by
  simp only [hasR, List.any_eq_true]
  constructor
  · rintro ⟨a, h1, h2⟩; exact ⟨a, h1, beq_id.1 h2⟩
  · rintro ⟨a, h1, h2⟩; exact ⟨a, h1, beq_id.2 h2⟩
theorem dataList_inj {a b : ByteArray} (h : a.data.toList = b.data.toList) : a = b := by
  rw [← ByteArray.toList_eq, ← ByteArray.toList_eq] at h; exact toList_inj h
theorem gId_le (rows : List Rw) (l : Lit) : 0 ≤ gId rows l ∧ gId rows l ≤ rows.length := by
  cases l <;> simp only [gId]
  case string bs => exact ⟨by omega, by exact_mod_cast List.length_filter_le _ _⟩
  all_goals omega
theorem gId_pos (rows : List Rw) (id : ByteArray) : decide (0 < gId rows (kId id)) = hasR rows id := by
  rw [Bool.eq_iff_iff, decide_eq_true_eq, hasR_iff]
  simp only [gId, kId]
  constructor
  · intro h
    obtain ⟨r, hr⟩ := List.exists_mem_of_length_pos (by exact_mod_cast h)
    rw [List.mem_filter, decide_eq_true_eq] at hr
    exact ⟨r, hr.1, dataList_inj hr.2⟩
  · rintro ⟨r, hr, rfl⟩
    have := List.length_pos_of_mem (List.mem_filter.2 ⟨hr, by simp⟩ : r ∈ rows.filter fun x => decide (x.id.data.toList = r.id.data.toList))
    omega
theorem gId_put (rows : List Rw) (r : Rw) : mput (gId rows) (kId r.id) (gId rows (kId r.id) + 1) = gId (rows ++ [r]) := by
  funext l
  by_cases h : l = kId r.id
  · subst h; rw [mput_same]; simp [gId, kId]
  · rw [mput_other h]
    cases l <;> simp only [gId]
    case string bs =>
      have : ¬ r.id.data.toList = bs := fun e => h (by rw [← e])
      simp [this]
theorem gId_nil : gId [] = fun _ => 0 := by funext l; cases l <;> rfl
theorem key_id {s : ByteArray} (h : s.size ≤ 1048576) : keyOf Tryz.prog 9 (.string s) = some (kId s) := WideMaps.keyOf_string_mk Tryz.underlying9 (by simp only [maxLen]; omega)
abbrev bookR (bb mb most : Nat) (A : Option Addr) (c : Nat) (rows : List Rw) (tot m : Nat) : List Res :=
  [cellR bb 177 [.int .i64 most, .slice A rows.length c, .map (some mb), hiV tot, loV tot], ownR 170 3 (.slice A rows.length c) rows.length (rows.flatMap Rw.c), mapR Tryz.prog 9 3 .i64 mb m (gId rows)]
def putE (most : Nat) (rows : List Rw) (tot : Nat) (r : Rw) : Int := if rows.length = most then 111 else if hasR rows r.id then 110 else if tot + r.amt < BB then 0 else 112

theorem opened_ok (h : Int) (w : World) : Ret Tryz.prog 82 [.int .i64 h] w (fun s : Option (Nat × Nat) => match s with | none => .tuple #[.pointer none, .int .i64 120] | some (bb, _) => .tuple #[.pointer (some ⟨bb, 0, none⟩), .int .i64 0])
  (fun s => s.isSome = highF h) (fun s => match s with | none => [] | some (bb, mb) => bookR bb mb (2 ^ h.toNat) none 0 [] 0 0) := by
  refine begin_ Tryz.func82 rfl rfl rfl ?_
  refine xc_seq <| xc_region <| xp rfl (asg rfl) <| xp rfl (asg rfl) <| xl_nil <| xq_then <| ?_
  refine xc_seq <| xc_seq <| xc_region <| xp rfl (mv rfl) <| xp rfl (bin rfl rfl bk_lss) <| xp rfl (mv rfl) <| xl_or 3 9 (fun hg1 => xgT rfl rfl rfl hg1 <| xp rfl (mv rfl) <| xgT rfl rfl rfl hg1 <| xp rfl (bin rfl rfl bk_gtr) <| xp rfl (pickF rfl hg1 rfl) <| xl_nil <| xq_or_yes hg1 (.kc rfl <| .kc rfl .kn) (fun _ h => h)) (fun hg1 => xgF rfl rfl rfl hg1 <| xgF rfl rfl rfl hg1 <| xp rfl (pickT rfl hg1 rfl) <| xl_nil <| xq_or_no hg1 (.kc rfl <| .kc rfl .kn) (fun _ h => h)) <| xl_nil <| xq_then <| xc_cond rfl (fun hc2 => ?_) (fun hc2 => ?_)
  ·
    have hh : highF h = false := by simp only [Bool.or_eq_true, decide_eq_true_eq] at hc2; simp only [highF, Bool.and_eq_false_iff, decide_eq_false_iff_not]; omega
    refine xc_seq <| xc_region <| xp rfl (asg rfl) <| xp rfl (asg rfl) <| xl_nil <| xq_then <| xc_ret <| xq_then_ret <| leave2 (.inl rfl) rfl (.tmp rfl) (.tmp rfl) fun W hW => (⟨none, rfl, by simpa using hh.symm, HP.of_below hW.below⟩)
  ·
    have hh : 0 ≤ h ∧ h ≤ 10 := by simp only [Bool.or_eq_false_iff, decide_eq_false_iff_not] at hc2; omega
    have hh2 : highF h = true := by simp only [highF, Bool.and_eq_true, decide_eq_true_eq]; exact hh
    have hp : IntKind.i64.wrap (1 * 2 ^ (min h.toNat IntKind.i64.bits)) = ((2 ^ h.toNat : Nat) : Int) := by
      have hl : h.toNat ≤ 10 := by omega
      have h2 : 2 ^ h.toNat ≤ 2 ^ 10 := Nat.pow_le_pow_right (by decide) hl
      rw [show min h.toNat IntKind.i64.bits = h.toNat from Nat.min_eq_left (by simp only [IntKind.bits]; omega)]
      exact w64 (by simp) (by omega)
    refine xc_skip <| xq_then <| xc_seq <| xc_region <| xp rfl (mv rfl) <| xp rfl (bin rfl rfl (bk_shl hh.1)) <| xe rfl (mkm 9 3 .i64) fun b1 _ => xp rfl (bd rfl bd_177_0_2) <| xe rfl (bx rfl rfl) fun b2 _ => xp rfl (asg rfl) <| xp rfl (asg rfl) <| xl_nil <| xq_then <| xc_ret <| leave2 (.inl rfl) rfl (.tmp rfl) (.tmp rfl) fun W hW => (⟨some (b2, b1), rfl, by simpa using hh2.symm, by
      rw [hp] at hW
      refine (((ownR_nil w W 170 3 hW).perm (.swap _ _ _)).perm ?_)
      rw [show (fun _ : Lit => (0 : Int)) = gId [] from gId_nil.symm]
      exact .refl _⟩)

theorem put1_ok {w : World} {b1 bb : Nat} {z : Int} {A : Option Addr} {n c : Nat} {vs : List Value} (h1 : Cells w b1 0 [.pointer (some ⟨bb, 0, none⟩)]) (hb : Cells w bb 0 (.int .i64 z :: .slice A n c :: vs)) : RetV Tryz.prog 165 [.pointer (some ⟨b1, 0, none⟩)] w (.bool ((n : Int) == z)) := by
  refine begin_ Tryz.func165 rfl rfl rfl ?_
  refine xc_seq <| xc_region <| xp rfl (asg rfl) <| xl_nil <| xq_then <| ?_
  refine xc_seq <| xc_draw (canon := [(0, .p), (1, .p), (2, .p), (3, .p), (4, .p), (5, .p), (6, .p), (7, .p), (8, .p), (9, .p), (10, .x)]) (Z := HP _ []) mixed_ rfl (akp <| akp <| akp <| akp <| akp <| akp <| akp <| akp <| akp <| akp <| akx <| ak0) (zsub (List.nil_sublist _)) ?_
  refine dp rfl rfl rfl rfl (ldc kd_161 rfl (vs := _) (fun W hW => h1.below hW.below) rfl) <| dp rfl rfl rfl rfl (nc rfl) <| dp rfl rfl rfl rfl (fa fa_177_1 rfl) <| dp rfl rfl rfl rfl (ldc kd_104 rfl (vs := _) (fun W hW => hold_cells (o := 1) hb hW.below) rfl) <| dp rfl rfl rfl rfl (lenv Tryz.underlying104 rfl) <| dp rfl rfl rfl rfl (ldc kd_161 rfl (vs := _) (fun W hW => h1.below hW.below) rfl) <| dp rfl rfl rfl rfl (nc rfl) <| dp rfl rfl rfl rfl (fa fa_177_0 rfl) <| dp rfl rfl rfl rfl (ldc kd_3 rfl (vs := _) (fun W hW => hold_cells (o := 0) hb hW.below) rfl) <| dp rfl rfl rfl rfl (bin rfl rfl bk_eql) <| das rfl rfl rfl rfl (asg rfl) (zsub (List.nil_sublist _)) <| dend <| xq_then <| xc_ret <| leave1 (.inl rfl) rfl (.tmp rfl) fun W hW => (⟨rfl, hW.below⟩)

theorem put2_ok {w : World} {b1 b2 bb mb m : Nat} {u v : Value} {vs us : List Value} {g : Lit → Int} {id : ByteArray} (hs : id.size ≤ 1048576) (h1 : Cells w b1 0 [.pointer (some ⟨bb, 0, none⟩)]) (hb : Cells w bb 0 (u :: v :: .map (some mb) :: vs)) (h2 : Cells w b2 0 (.string id :: us)) (hm : (mapR Tryz.prog 9 3 .i64 mb m g).ok w) :
  RetV Tryz.prog 166 [.pointer (some ⟨b1, 0, none⟩), .pointer (some ⟨b2, 0, none⟩)] w (.bool (decide (0 < g (kId id)))) := by
  refine begin_ Tryz.func166 rfl rfl rfl ?_
  refine xc_seq <| xc_region <| xp rfl (asg rfl) <| xl_nil <| xq_then <| ?_
  refine xc_seq <| xc_draw (canon := [(0, .p), (1, .p), (2, .p), (3, .p), (4, .p), (5, .p), (6, .x), (7, .p), (8, .x)]) (Z := HP _ []) mixed_ rfl (akp <| akp <| akp <| akp <| akp <| akp <| akx <| akp <| akx <| ak0) (zsub (List.nil_sublist _)) ?_
  refine dp rfl rfl rfl rfl (ldc kd_161 rfl (vs := _) (fun W hW => h1.below hW.below) rfl) <| dp rfl rfl rfl rfl (nc rfl) <| dp rfl rfl rfl rfl (fa fa_177_2 rfl) <| dp rfl rfl rfl rfl (ldc kd_175 rfl (vs := _) (fun W hW => hold_cells (o := 2) hb hW.below) rfl) <| dp rfl rfl rfl rfl (fa fa_170_0 rfl) <| dp rfl rfl rfl rfl (ldc kd_9 rfl (vs := _) (fun W hW => hold_cells (o := 0) h2 hW.below) rfl) <| das rfl rfl rfl rfl (mlkF mt_175 rfl rfl (key_id hs) (fun W hW => mapR_below hm hW.below)) (zsub (List.nil_sublist _)) <| dp rfl rfl rfl rfl (bin rfl rfl bk_gtr) <| das rfl rfl rfl rfl (asg rfl) (zsub (List.nil_sublist _)) <| dend <| xq_then <| xc_ret <| leave1 (.inl rfl) rfl (.tmp rfl) fun W hW => (⟨rfl, hW.below⟩)

theorem put3_ok {w : World} {b4 : Nat} {e : Int} (h : Cells w b4 0 [.int .i64 e]) : RetV Tryz.prog 167 [.pointer (some ⟨b4, 0, none⟩)] w (.bool (e != 0)) := by
  refine begin_ Tryz.func167 rfl rfl rfl ?_
  refine xc_seq <| xc_region <| xp rfl (asg rfl) <| xl_nil <| xq_then <| ?_
  refine xc_seq <| xc_region <| xp rfl (ldc kd_30 rfl (vs := _) (fun W hW => h.below hW.below) rfl) <| xp rfl (bin rfl rfl bk_neq) <| xp rfl (asg rfl) <| xl_nil <| xq_then <| xc_ret <| leave1 (.inl rfl) rfl (.tmp rfl) fun W hW => (⟨rfl, hW.below⟩)

theorem wf_wrap (z : Int) : (Lit.int .i64 (IntKind.i64.wrap z)).wf = true := by
  simp [Lit.wf, IntKind.wrap, IntKind.min, IntKind.max, IntKind.bits, IntKind.signed]; omega

theorem put_ok {w : World} {bb mb most c tot m : Nat} {A : Option Addr} {rows : List Rw} {r : Rw} (hr : r.id.size ≤ 1048576) (ha : r.amt < BB) (ht : tot < BB) (hn : rows.length ≤ 100000) (hmm : m ≤ 100000) :
  RetM Tryz.prog w 85 [.pointer (some ⟨bb, 0, none⟩), r.V] (bookR bb mb most A c rows tot m) (fun _ : Option (Option Addr × Nat) => .int .i64 (putE most rows tot r)) (fun s => s.isSome = (putE most rows tot r == 0))
    (fun s => match s with | none => [] | some q => bookR bb mb most q.1 q.2 (rows ++ [r]) (tot + r.amt) (m + 1)) := by
  intro w0 Fr0 W hB hW
  have hgl := gId_le rows (kId r.id)
  refine begin_at Tryz.func85 rfl rfl rfl hW ?_
  refine xc_seq <| xc_region <| xe rfl (bx rfl rfl) fun b1 _ => xe rfl (bx rfl rfl) fun b2 _ => xp rfl (asg rfl) <| xl_nil <| xq_then <| ?_
  refine xc_seq <| xc_draw (canon := [(0, .p), (1, .p), (2, .p), (3, .p), (4, .p), (5, .p), (6, .x), (7, .p), (8, .p), (9, .p), (10, .a), (11, .a), (12, .x), (13, .x)]) (Z := HP _ [cellR b2 _ _, cellR b1 _ _, _, _, _]) mixed_ rfl (akp <| akp <| akp <| akp <| akp <| akp <| akx <| akp <| akp <| akp <| aka rfl rfl rfl rfl rfl zo_35 <| aka rfl rfl rfl rfl rfl zo_30 <| akx <| akx <| ak0) (zsub (.cons_cons _ <| .cons_cons _ <| .cons_cons _ <| .cons_cons _ <| .cons_cons _ <| List.nil_sublist _)) ?_
  refine dp rfl rfl rfl rfl (ld kd_161 rfl (.tail .head) rfl) <| dp rfl rfl rfl rfl (nc rfl) <| dp rfl rfl rfl rfl (fa fa_177_3 rfl) <| dp rfl rfl rfl rfl (ld kd_35 rfl (.tail <| .tail .head) rfl) <| dp rfl rfl rfl rfl (fa fa_170_1 rfl) <| dp rfl rfl rfl rfl (ld kd_35 rfl .head rfl) <| dv rfl rfl rfl (.inl rfl) rfl Tryz.call26 rfl rfl (fun W hW => (add_ok _ _ ht ha W)) (zsub (.cons_cons _ <| .cons_cons _ <| .cons_cons _ <| .cons_cons _ <| .cons_cons _ <| List.nil_sublist _)) <| dp rfl rfl rfl rfl (mv rfl) <| dp rfl rfl rfl rfl (ext rfl rfl) <| dp rfl rfl rfl rfl (ext rfl rfl) <| da rfl rfl rfl rfl rfl zo_35 fun b3 => da rfl rfl rfl rfl rfl zo_30 fun b4 => dst_ rfl rfl rfl rfl sz_35 rfl rfl rfl rfl (.tail .head) rfl rfl (zsub (.cons _ <| .cons _ <| .cons_cons _ <| .cons_cons _ <| .cons_cons _ <| .cons_cons _ <| .cons_cons _ <| List.nil_sublist _)) <| dst_ rfl rfl rfl rfl sz_30 rfl rfl rfl rfl .head rfl rfl (zsub (.cons _ <| .cons _ <| .cons_cons _ <| .cons_cons _ <| .cons_cons _ <| .cons_cons _ <| .cons_cons _ <| List.nil_sublist _)) <| dend <| xq_then <| ?_
  refine xc_seq <| xc_seq <| xc_region <| xp rfl (mf rfl rfl) <| xp rfl (bd rfl bd_276_0_1) <| xp rfl (mf rfl rfl) <| xp rfl (bd rfl bd_276_0_1) <| xp rfl (mf rfl rfl) <| xp rfl (bd rfl bd_276_0_1) <| xp rfl (bd rfl bd_277_0_1_2) <| xp rfl (mv rfl) <| xl_nil <| xq_then <| xc_block <| xc_loopP (σ := Nat) (fun k => [(26, .int .i64 k), (2, _), (3, _), (5, _), (25, _)]) (fun k => k ≤ 3 ∧ (1 ≤ k → rows.length ≠ most) ∧ (2 ≤ k → hasR rows r.id = false) ∧ (3 ≤ k → tot + r.amt < BB)) (fun k => HP w0 (cellR b4 30 [.int .i64 (if tot + r.amt < BB then 0 else 10)] :: cellR b3 35 (uc (if tot + r.amt < BB then tot + r.amt else 0)) :: cellR b2 170 r.c :: cellR b1 161 [.pointer (some ⟨bb, 0, none⟩)] :: (bookR bb mb most A c rows tot m ++ Fr0))) (fun k => 3 - k) 0 ⟨by omega, fun h => absurd h (by omega), fun h => absurd h (by omega), fun h => absurd h (by omega)⟩ (sc rfl <| sc rfl <| sc rfl <| sc rfl <| sc rfl <| sn) (fun W hW => hW) fun k ⟨hk, hk1, hk2, hk3⟩ => ?_
  refine xc_seq <| xc_region <| xp rfl (bin rfl rfl bk_lss) <| xl_nil <| xq_then <| xc_seq <| xc_cond rfl (fun hc1 => ?_) (fun hc1 => ?_)
  ·
    obtain rfl | rfl | rfl : k = 0 ∨ k = 1 ∨ k = 2 := by have h := of_decide_eq_true hc1; omega
    ·
      refine xc_skip <| xq_then <| xc_seq <| xc_block <| xc_seq <| xc_region <| xp rfl (ixvA Tryz.underlying277 Tryz.isAgg276 Tryz.sizeOf276 rfl rfl (by decide) (by decide) rfl) <| xe rfl (al zo_276) fun b5 _ => xs (st sz_276 rfl rfl rfl rfl .head rfl rfl) <| xl_nil <| xq_then <| ?_
      refine xc_seq <| xc_region <| xp rfl (fa fa_276_0 rfl) <| xp rfl (ld kd_24 rfl .head rfl) <| xvC rfl Tryz.call165 rfl rfl (fun W hW => (put1_ok (cells_of hW (.tail <| .tail <| .tail <| .tail .head)) (cells_of hW (.tail <| .tail <| .tail <| .tail <| .tail .head)))) <| xl_nil <| xq_then <| xc_cond rfl (fun hc2 => ?_) (fun hc2 => ?_)
      ·
        have e1 : rows.length = most := by have h := eq_of_beq hc2; omega
        refine xc_seq <| xc_region <| xp rfl (fa fa_276_1 rfl) <| xp rfl (ld kd_30 rfl .head rfl) <| xp rfl (asg rfl) <| xl_nil <| xq_then <| xc_ret <| xq_in_ret <| xq_then_ret <| xq_then_ret <| xq_in_ret <| xq_then_ret <| leave1 (.inl rfl) rfl (.tmp rfl) fun W hW => (⟨none, by simp [putE, e1], by simp [putE, e1], hW.sub (.cons _ <| .cons _ <| .cons _ <| .cons _ <| .cons _ <| .cons _ <| .cons _ <| .cons _ <| .refl _)⟩)
      ·
        refine xc_skip <| xq_in <| xq_then <| xc_region <| xp rfl (bin rfl rfl bk_add) <| xp rfl (mv rfl) <| xl_nil <| xq_roundP 1 (⟨by omega, fun _ => by have h := beq_eq_false_iff_ne.1 hc2; omega, fun h => absurd h (by omega), fun h => absurd h (by omega)⟩) (by omega) (sc (by first | exact rfl | exact iw (by omega) (by omega) (by omega) rfl) <| sc rfl <| sc rfl <| sc rfl <| sc rfl <| sn) (fun W hW => hW.sub (.cons _ <| .refl _))
    ·
      refine xc_skip <| xq_then <| xc_seq <| xc_block <| xc_seq <| xc_region <| xp rfl (ixvA Tryz.underlying277 Tryz.isAgg276 Tryz.sizeOf276 rfl rfl (by decide) (by decide) rfl) <| xe rfl (al zo_276) fun b6 _ => xs (st sz_276 rfl rfl rfl rfl .head rfl rfl) <| xl_nil <| xq_then <| ?_
      refine xc_seq <| xc_region <| xp rfl (fa fa_276_0 rfl) <| xp rfl (ld kd_24 rfl .head rfl) <| xvC rfl Tryz.call166 rfl rfl (fun W hW => (put2_ok hr (cells_of hW (.tail <| .tail <| .tail <| .tail .head)) (cells_of hW (.tail <| .tail <| .tail <| .tail <| .tail .head)) (cells_of hW (.tail <| .tail <| .tail .head)) (map_of hW (.tail <| .tail <| .tail <| .tail <| .tail <| .tail <| .tail .head)))) <| xl_nil <| xq_then <| xc_cond rfl (fun hc3 => ?_) (fun hc3 => ?_)
      ·
        have e1 := hk1 (by omega)
        have e2 : hasR rows r.id = true := by rw [← gId_pos]; exact hc3
        refine xc_seq <| xc_region <| xp rfl (fa fa_276_1 rfl) <| xp rfl (ld kd_30 rfl .head rfl) <| xp rfl (asg rfl) <| xl_nil <| xq_then <| xc_ret <| xq_in_ret <| xq_then_ret <| xq_then_ret <| xq_in_ret <| xq_then_ret <| leave1 (.inl rfl) rfl (.tmp rfl) fun W hW => (⟨none, by simp [putE, e1, e2], by simp [putE, e1, e2], hW.sub (.cons _ <| .cons _ <| .cons _ <| .cons _ <| .cons _ <| .cons _ <| .cons _ <| .cons _ <| .refl _)⟩)
      ·
        refine xc_skip <| xq_in <| xq_then <| xc_region <| xp rfl (bin rfl rfl bk_add) <| xp rfl (mv rfl) <| xl_nil <| xq_roundP 2 (⟨by omega, fun _ => hk1 (by omega), fun _ => by rw [← gId_pos]; exact hc3, fun h => absurd h (by omega)⟩) (by omega) (sc (by first | exact rfl | exact iw (by omega) (by omega) (by omega) rfl) <| sc rfl <| sc rfl <| sc rfl <| sc rfl <| sn) (fun W hW => hW.sub (.cons _ <| .refl _))
    ·
      refine xc_skip <| xq_then <| xc_seq <| xc_block <| xc_seq <| xc_region <| xp rfl (ixvA Tryz.underlying277 Tryz.isAgg276 Tryz.sizeOf276 rfl rfl (by decide) (by decide) rfl) <| xe rfl (al zo_276) fun b7 _ => xs (st sz_276 rfl rfl rfl rfl .head rfl rfl) <| xl_nil <| xq_then <| ?_
      refine xc_seq <| xc_region <| xp rfl (fa fa_276_0 rfl) <| xp rfl (ld kd_24 rfl .head rfl) <| xvC rfl Tryz.call167 rfl rfl (fun W hW => (put3_ok (cells_of hW (.tail .head)))) <| xl_nil <| xq_then <| xc_cond rfl (fun hc4 => ?_) (fun hc4 => ?_)
      ·
        have e1 := hk1 (by omega)
        have e2 := hk2 (by omega)
        have e3 : ¬ tot + r.amt < BB := fun h => by rw [if_pos h] at hc4; exact absurd hc4 (by decide)
        refine xc_seq <| xc_region <| xp rfl (fa fa_276_1 rfl) <| xp rfl (ld kd_30 rfl .head rfl) <| xp rfl (asg rfl) <| xl_nil <| xq_then <| xc_ret <| xq_in_ret <| xq_then_ret <| xq_then_ret <| xq_in_ret <| xq_then_ret <| leave1 (.inl rfl) rfl (.tmp rfl) fun W hW => (⟨none, by simp [putE, e1, e2, e3], by simp [putE, e1, e2, e3], hW.sub (.cons _ <| .cons _ <| .cons _ <| .cons _ <| .cons _ <| .cons _ <| .cons _ <| .cons _ <| .refl _)⟩)
      ·
        refine xc_skip <| xq_in <| xq_then <| xc_region <| xp rfl (bin rfl rfl bk_add) <| xp rfl (mv rfl) <| xl_nil <| xq_roundP 3 (⟨by omega, fun _ => hk1 (by omega), fun _ => hk2 (by omega), fun _ => Classical.byContradiction fun h => by rw [if_neg h] at hc4; exact absurd hc4 (by decide)⟩) (by omega) (sc (by first | exact rfl | exact iw (by omega) (by omega) (by omega) rfl) <| sc rfl <| sc rfl <| sc rfl <| sc rfl <| sn) (fun W hW => hW.sub (.cons _ <| .refl _))
  ·
    obtain rfl : k = 3 := by have h := of_decide_eq_false hc1; omega
    have e1 := hk1 (by omega)
    have e2 := hk2 (by omega)
    have e3 := hk3 (by omega)
    refine xc_exit <| xq_then_exit <| xq_then_exit <| xq_in_hit <| xq_then <| xc_seq <| xc_draw (canon := [(0, .p), (1, .p), (2, .p), (3, .p), (4, .l), (5, .p), (6, .y), (7, .x), (8, .p), (9, .p), (10, .x)]) (Z := HP _ [cellR b4 _ _, cellR b3 _ _, cellR b2 _ _, cellR b1 _ _, _]) mixed_ rfl (akp <| akp <| akp <| akp <| akl <| akp <| aky <| akx <| akp <| akp <| akx <| ak0) (zsub (.cons_cons _ <| .cons_cons _ <| .cons_cons _ <| .cons_cons _ <| .cons _ <| .cons _ <| .cons_cons _ <| List.nil_sublist _)) ?_
    refine dp rfl rfl rfl rfl (ld kd_161 rfl (.tail <| .tail <| .tail .head) rfl) <| dp rfl rfl rfl rfl (ld kd_161 rfl (.tail <| .tail <| .tail .head) rfl) <| dp rfl rfl rfl rfl (nc rfl) <| dp rfl rfl rfl rfl (fa fa_177_1 rfl) <| dl rfl rfl rfl rfl (ld kd_104 rfl (.tail <| .tail <| .tail <| .tail .head) rfl) <| dp rfl rfl rfl rfl (ld kd_170 rfl (.tail <| .tail .head) rfl) <| dey rfl rfl rfl (.inl rfl) (fun Fr => bs rfl bs_104_1) (fun _ => (zsub (.cons _ <| .cons_cons _ <| .cons_cons _ <| .cons_cons _ <| .cons_cons _ <| .cons _ <| .cons _ <| .cons_cons _ <| List.nil_sublist _))) fun b8 _ => dap rfl rfl rfl rfl rfl mo_104 rfl rfl (.tail <| .tail <| .tail <| .tail <| .tail <| .tail .head) rfl (nwF .head) (by simp [Value.oneCell']) (by simp only [maxLen]; omega) (by omega) (fun _ => (zsub (.cons _ <| .cons_cons _ <| .cons_cons _ <| .cons_cons _ <| .cons_cons _ <| .cons _ <| .cons _ <| .cons_cons _ <| List.nil_sublist _))) fun s1 _ => dp rfl rfl rfl rfl (nc rfl) <| dp rfl rfl rfl rfl (fa fa_177_1 rfl) <| dst_ rfl rfl rfl rfl sz_104 rfl rfl rfl rfl (.tail <| .tail <| .tail <| .tail <| .tail .head) rfl rfl (zsub (.cons _ <| .cons_cons _ <| .cons_cons _ <| .cons_cons _ <| .cons_cons _ <| .cons _ <| .cons _ <| .cons_cons _ <| List.nil_sublist _)) <| dend <| xq_then <| ?_
    refine xc_seq <| xc_draw (canon := [(0, .p), (1, .p), (2, .p), (3, .p), (4, .p), (5, .p), (6, .x), (7, .p), (8, .x)]) (Z := HP _ [cellR b8 _ _, cellR b4 _ _, cellR b3 _ _, cellR b2 _ _, cellR b1 _ _, _, _]) mixed_ rfl (akp <| akp <| akp <| akp <| akp <| akp <| akx <| akp <| akx <| ak0) (zsub (.cons_cons _ <| .cons_cons _ <| .cons_cons _ <| .cons_cons _ <| .cons_cons _ <| .cons_cons _ <| .cons_cons _ <| .cons _ <| List.nil_sublist _)) ?_
    refine dp rfl rfl rfl rfl (ld kd_161 rfl (.tail <| .tail <| .tail <| .tail .head) rfl) <| dp rfl rfl rfl rfl (nc rfl) <| dp rfl rfl rfl rfl (fa fa_177_2 rfl) <| dp rfl rfl rfl rfl (ld kd_175 rfl (.tail <| .tail <| .tail <| .tail <| .tail .head) rfl) <| dp rfl rfl rfl rfl (fa fa_170_0 rfl) <| dp rfl rfl rfl rfl (ld kd_9 rfl (.tail <| .tail <| .tail .head) rfl) <| das rfl rfl rfl rfl (mlk mt_175 rfl rfl (key_id hr) (.tail <| .tail <| .tail <| .tail <| .tail <| .tail <| .tail .head)) (zsub (.cons_cons _ <| .cons_cons _ <| .cons_cons _ <| .cons_cons _ <| .cons_cons _ <| .cons_cons _ <| .cons_cons _ <| .cons _ <| List.nil_sublist _)) <| dp rfl rfl rfl rfl (bin rfl rfl bk_add) <| dmu rfl rfl rfl rfl mt_175 rfl rfl rfl (key_id hr) (wf_wrap _) (by simp only [maxLen]; omega) (.tail <| .tail <| .tail <| .tail <| .tail <| .tail <| .tail .head) (zsub (.cons_cons _ <| .cons_cons _ <| .cons_cons _ <| .cons_cons _ <| .cons_cons _ <| .cons_cons _ <| .cons_cons _ <| .cons _ <| List.nil_sublist _)) <| dend <| xq_then <| ?_
    refine xc_seq <| xc_region <| xp rfl (ld kd_161 rfl (.tail <| .tail <| .tail <| .tail .head) rfl) <| xp rfl (ld kd_35 rfl (.tail <| .tail .head) rfl) <| xp rfl (nc rfl) <| xp rfl (fa fa_177_3 rfl) <| xs (st sz_35 rfl rfl rfl rfl (.tail <| .tail <| .tail <| .tail <| .tail .head) rfl rfl) <| xl_nil <| xq_then <| ?_
    refine xc_seq <| xc_region <| xp rfl (asg rfl) <| xl_nil <| xq_then <| xc_ret <| leave1 (.inl rfl) rfl (.tmp rfl) fun W hW => (⟨some s1, by simp [putE, e1, e2, e3], by simp [putE, e1, e2, e3], by
      rw [wrap64 (by omega) (by omega), gId_put] at hW
      simp only [if_pos e3] at hW
      have h := hW.sub (.cons _ <| .cons _ <| .cons _ <| .cons _ <| .cons _ <| .refl _)
      simp only [bookR, List.length_append, List.length_cons, List.length_nil, List.flatMap_append, List.flatMap_cons, List.flatMap_nil, List.append_nil]; exact h⟩)

end Go.Eng
end
section
namespace Go.Eng
open Go Go.RowKit Go.Proofs Go.Maps
set_option linter.unusedVariables false
set_option linter.unusedSimpArgs false
set_option maxRecDepth 4000
/-! # Import -/
noncomputable def impGo (most : Nat) : List Ln → List Rw → Nat → Option (Nat × Int) × List Rw
  | [], rows, _ => (none, rows)
  | l :: ls, rows, tot =>
    bif lnE l == 0 && lnIs l then (if putE most rows tot (lnF l) = 0 then impGo most ls (rows ++ [lnF l]) (tot + (lnF l).amt) else (some (l.num, putE most rows tot (lnF l)), []))
    else bif lnE l != 0 then (some (l.num, lnE l), []) else impGo most ls rows tot
noncomputable def impF (text : ByteArray) (h : Nat) : Option (Nat × Int) × List Rw := impGo (2 ^ h) (linesF text) [] 0
structure BookOK (most : Nat) (rows : List Rw) (tot : Nat) : Prop where
  len : rows.length ≤ most
  nodup : (rows.map Rw.id).Nodup
  ids : ∀ r ∈ rows, mayIdF r.id = true ∧ r.id.size ≤ 4096
  sum : (rows.map Rw.amt).sum = tot
  lt : tot < BB
theorem BookOK.nil (most : Nat) : BookOK most [] 0 := ⟨Nat.zero_le _, by simp, by simp, rfl, by decide⟩
theorem lnF_ok {l : Ln} (h : (lnE l == 0 && lnIs l) = true) (hs : l.text.size ≤ 4096) : mayIdF (lnF l).id = true ∧ (lnF l).id.size ≤ 4096 ∧ (lnF l).amt < BB := by
  simp only [Bool.and_eq_true] at h
  have h2 := h.2
  unfold lnIs at h2
  unfold lnF
  cases hw : wrongF l.text != 0 with
  | true => rw [hw] at h2; exact absurd h2 (by simp)
  | false =>
    rw [hw] at h2
    simp only [cond_false] at h2 ⊢
    cases hk : kindF l.text != 2 with
    | true => rw [hk] at h2; exact absurd h2 (by simp)
    | false =>
      rw [hk] at h2
      simp only [cond_false] at h2 ⊢
      unfold rowE at h2
      unfold rowF
      have hsz := (sp_sizes (t := l.text)).1
      cases h3 : spM l.text with
      | false => rw [h3] at h2; exact absurd h2 (by simp)
      | true =>
        rw [h3] at h2
        cases h4 : mayIdF (spA l.text) with
        | false => rw [h4] at h2; exact absurd h2 (by simp)
        | true =>
          rw [h4] at h2
          cases h5 : decE (spB l.text) != 0 with
          | true => rw [h5] at h2; exact absurd h2 (by simp)
          | false =>
            refine ⟨h4, Nat.le_trans hsz hs, ?_⟩
            show decN (spB l.text) < BB
            unfold decN
            split
            · decide
            · split
              · assumption
              · decide
theorem BookOK.put {most tot : Nat} {rows : List Rw} {r : Rw} (hb : BookOK most rows tot) (h1 : mayIdF r.id = true ∧ r.id.size ≤ 4096) (h : putE most rows tot r = 0) : BookOK most (rows ++ [r]) (tot + r.amt) := by
  have key : rows.length ≠ most ∧ hasR rows r.id = false ∧ tot + r.amt < BB := by
    unfold putE at h
    split at h
    · exact absurd h (by decide)
    · split at h
      · exact absurd h (by decide)
      · split at h
        · exact ⟨by assumption, by simpa using ‹¬ hasR rows r.id = true›, by assumption⟩
        · exact absurd h (by decide)
  obtain ⟨k1, k2, k3⟩ := key
  refine ⟨by simp only [List.length_append, List.length_cons, List.length_nil]; have := hb.len; omega, ?_, fun x hx => ?_, ?_, k3⟩
  · rw [List.map_append, List.nodup_append]
    refine ⟨hb.nodup, by simp, fun a ha b hb' e => ?_⟩
    simp only [List.map_cons, List.map_nil, List.mem_singleton] at hb'
    subst hb'; subst e
    obtain ⟨x, hx, e⟩ := List.mem_map.1 ha
    have : hasR rows r.id = true := hasR_iff.2 ⟨x, hx, e⟩
    rw [k2] at this; cases this
  · rcases List.mem_append.1 hx with hx | hx
    · exact hb.ids x hx
    · simp only [List.mem_singleton] at hx; subst hx; exact h1
  · rw [List.map_append, List.sum_append, hb.sum]; simp
theorem linesN_facts : ∀ (f n : Nat) (t : ByteArray), (linesN f n t).length ≤ f + 1 ∧ ∀ l ∈ linesN f n t, l.text.size ≤ t.size
  | 0, n, t => ⟨by simp [linesN], fun l hl => by simp only [linesN, List.mem_singleton] at hl; subst hl; exact (cut_sizes (t := t)).1⟩
  | f + 1, n, t => by
    have hc := cut_sizes (t := t)
    cases hm : cutM t with
    | false =>
      simp only [linesN, hm, cond_false]
      exact ⟨by simp, fun l hl => by simp only [List.mem_singleton] at hl; subst hl; exact hc.1⟩
    | true =>
      obtain ⟨k1, k2⟩ := linesN_facts f (n + 1) (cutB t)
      have := hc.2 hm
      simp only [linesN, hm, cond_true]
      refine ⟨by simp; omega, fun l hl => ?_⟩
      rcases List.mem_cons.1 hl with rfl | hl
      · exact hc.1
      · have := k2 l hl; omega
structure BookSt (most : Nat) (pre : List Ln) (rows : List Rw) (tot m : Nat) : Prop where
  go : ∀ post, impGo most (pre ++ post) [] 0 = impGo most post rows tot
  ok : BookOK most rows tot
  mle : m ≤ pre.length
  rle : rows.length ≤ pre.length
theorem BookSt.nil (most : Nat) : BookSt most [] [] 0 0 := ⟨fun _ => rfl, BookOK.nil most, Nat.le_refl _, Nat.le_refl _⟩
theorem BookSt.put {most tot m : Nat} {pre : List Ln} {rows : List Rw} {x : Ln} (h : BookSt most pre rows tot m) (h1 : (lnE x == 0 && lnIs x) = true) (hs : x.text.size ≤ 4096) (hp : putE most rows tot (lnF x) = 0) : BookSt most (pre ++ [x]) (rows ++ [lnF x]) (tot + (lnF x).amt) (m + 1) := by
  obtain ⟨k1, k2, k3⟩ := lnF_ok h1 hs
  refine ⟨fun post => ?_, h.ok.put ⟨k1, k2⟩ hp, by simp; exact h.mle, by simp; exact h.rle⟩
  rw [List.append_assoc, h.go]
  simp only [List.cons_append, List.nil_append, impGo, h1, cond_true, if_pos hp]
theorem BookSt.bad {most tot m : Nat} {pre : List Ln} {rows : List Rw} {x : Ln} (h : BookSt most pre rows tot m) (h1 : (lnE x == 0 && lnIs x) = true) (hp : ¬ putE most rows tot (lnF x) = 0) (post : List Ln) : impGo most (pre ++ [x] ++ post) [] 0 = (some (x.num, putE most rows tot (lnF x)), []) := by
  rw [List.append_assoc, h.go]
  simp only [List.cons_append, List.nil_append, impGo, h1, cond_true, if_neg hp]
theorem BookSt.skip {most tot m : Nat} {pre : List Ln} {rows : List Rw} {x : Ln} (h : BookSt most pre rows tot m) (h1 : (lnE x == 0 && lnIs x) = false) (h2 : (lnE x != 0) = false) : BookSt most (pre ++ [x]) rows tot m := by
  refine ⟨fun post => ?_, h.ok, by simp; have := h.mle; omega, by simp; have := h.rle; omega⟩
  rw [List.append_assoc, h.go]
  simp only [List.cons_append, List.nil_append, impGo, h1, cond_false, h2]
theorem BookSt.err {most tot m : Nat} {pre : List Ln} {rows : List Rw} {x : Ln} (h : BookSt most pre rows tot m) (h1 : (lnE x == 0 && lnIs x) = false) (h2 : (lnE x != 0) = true) (post : List Ln) : impGo most (pre ++ [x] ++ post) [] 0 = (some (x.num, lnE x), []) := by
  rw [List.append_assoc, h.go]
  simp only [List.cons_append, List.nil_append, impGo, h1, cond_false, h2, cond_true]
theorem opened_fine {h : Nat} (hh : h ≤ 10) (w : World) : Ret Tryz.prog 82 [.int .i64 h] w (fun s : Nat × Nat => .tuple #[.pointer (some ⟨s.1, 0, none⟩), .int .i64 0]) (fun _ => True) (fun s => bookR s.1 s.2 (2 ^ h) none 0 [] 0 0) :=
  (opened_ok (h : Int) w).mono fun e W' ⟨s, h1, h2, h3⟩ => by
    have hf : highF (h : Int) = true := by simp [highF]; omega
    rw [hf] at h2
    cases s with
    | none => simp at h2
    | some q => exact ⟨q, h1, trivial, by simpa using h3⟩
theorem put_fine {w : World} {bb mb most c tot m : Nat} {A : Option Addr} {rows : List Rw} {r : Rw} (hr : r.id.size ≤ 1048576) (ha : r.amt < BB) (ht : tot < BB) (hn : rows.length ≤ 100000) (hmm : m ≤ 100000) (hp : putE most rows tot r = 0) :
    RetM Tryz.prog w 85 [.pointer (some ⟨bb, 0, none⟩), r.V] (bookR bb mb most A c rows tot m) (fun _ : Option Addr × Nat => .int .i64 0) (fun _ => True) (fun q => bookR bb mb most q.1 q.2 (rows ++ [r]) (tot + r.amt) (m + 1)) := fun w0 Fr W hB hW =>
  (put_ok hr ha ht hn hmm w0 Fr W hB hW).mono fun e W' ⟨s, h1, h2, h3⟩ => by
    rw [hp] at h1 h2
    cases s with
    | none => simp at h2
    | some q => exact ⟨q, h1, trivial, h3⟩
theorem put_bad {w : World} {bb mb most c tot m : Nat} {A : Option Addr} {rows : List Rw} {r : Rw} (hr : r.id.size ≤ 1048576) (ha : r.amt < BB) (ht : tot < BB) (hn : rows.length ≤ 100000) (hmm : m ≤ 100000) (hp : ¬ putE most rows tot r = 0) :
    RetM Tryz.prog w 85 [.pointer (some ⟨bb, 0, none⟩), r.V] (bookR bb mb most A c rows tot m) (fun _ : Unit => .int .i64 (putE most rows tot r)) (fun _ => True) (fun _ => []) := fun w0 Fr W hB hW =>
  (put_ok hr ha ht hn hmm w0 Fr W hB hW).mono fun e W' ⟨s, h1, h2, h3⟩ => by
    cases s with
    | none => exact ⟨(), h1, trivial, h3⟩
    | some q => simp at h2; exact absurd h2 hp
theorem impF_ok {text : ByteArray} {h : Nat} {rows : List Rw} {tot m : Nat} (hb : BookSt (2 ^ h) (linesF text) rows tot m) : impF text h = (none, rows) ∧ RowsOK h (byKey Rw.id rows) := by
  refine ⟨by have := hb.go []; rw [List.append_nil] at this; exact this, byKey_asc hb.ok.nodup, fun a ha => hb.ok.ids a ((byKey_perm _ _).mem_iff.1 ha), by rw [(byKey_perm _ _).length_eq]; exact hb.ok.len, ?_⟩
  rw [((byKey_perm Rw.id rows).map Rw.amt).sum_nat, hb.ok.sum]; exact hb.ok.lt

noncomputable def impV (text : ByteArray) (h : Nat) (b : Nat) : Value := match (impF text h).1 with
  | some (ln, e) => .tuple #[.slice none 0 0, .int .i64 ln, .int .i64 e]
  | none => .tuple #[.slice (some ⟨b, 0, none⟩) (impF text h).2.length (impF text h).2.length, .int .i64 0, .int .i64 0]
noncomputable def impR (text : ByteArray) (h : Nat) (b : Nat) : List Res := match (impF text h).1 with
  | some _ => []
  | none => [cellR b 170 ((byKey Rw.id (impF text h).2).flatMap Rw.c)]
theorem HP.m3 {w0 W : World} {a b c x y d : Res} {R : List Res} (h : HP w0 (a :: b :: c :: x :: y :: d :: R) W) : HP w0 (d :: a :: b :: c :: R) W :=
  (h.sub (.cons_cons _ <| .cons_cons _ <| .cons_cons _ <| .cons _ <| .cons _ <| .refl _)).perm (List.perm_middle (l₁ := [a, b, c]) (l₂ := R))

theorem import_ok {w : World} (hG : Glob w) {text : ByteArray} {h : Nat} (hh : h ≤ 10) (ht : text.size ≤ 4096) : Ret Tryz.prog 44 [.string text, .int .i64 h] w (impV text h) (fun _ => True) (impR text h) := by
  have h2 : 2 ^ h ≤ 2 ^ 10 := Nat.pow_le_pow_right (by decide) hh
  obtain ⟨hll, hls⟩ := linesN_facts text.size 1 text
  refine begin_m Tryz.func44 rfl rfl rfl ?_
  refine xc_seq <| xc_region <| xe rfl (al zo_104) fun b1 _ => xe rfl (al zo_3) fun b2 _ => xe rfl (al zo_30) fun b3 _ => xl_nil <| xq_then <| ?_
  refine xc_seq <| xc_region <| xp rfl (mv rfl) <| xr rfl Tryz.call82 rfl rfl (fun W hW => (opened_fine hh W)) fun bk _ => xp rfl (mv rfl) <| xp rfl (ext rfl rfl) <| xp rfl (ext rfl rfl) <| xe rfl (al zo_161) fun b4 _ => xs (st sz_161 rfl rfl rfl rfl .head rfl rfl) <| xp rfl (asg rfl) <| xl_nil <| xq_then <| ?_
  refine xc_seq <| xc_block <| xc_seq <| xc_region <| xp rfl (mv rfl) <| xp rfl (bin rfl rfl bk_neq) <| xp rfl (asg rfl) <| xl_nil <| xq_then <| xc_cond rfl (fun hc1 => ?_) (fun hc1 => ?_)
  ·
    exact absurd hc1 (by decide)
  ·
    refine xc_seq <| xc_region <| xp rfl (mv rfl) <| xp rfl (lens Tryz.underlying9 rfl) <| xp rfl (bin rfl rfl bk_gtr) <| xp rfl (asg rfl) <| xl_nil <| xq_then <| xc_cond rfl (fun hc2 => ?_) (fun hc2 => ?_)
    ·
      exfalso; have h := of_decide_eq_true hc2; omega
    ·
      refine xc_skip <| xq_in <| xq_then <| xc_seq <| xc_seq <| xc_region <| xp rfl (mv rfl) <| xr rfl Tryz.call83 rfl rfl (fun W hW => (each_ok text W)) fun sb _ => xl_nil <| xq_then <| xc_block <| ?_
      -- RANGE 1 f=('Operand.tmp', '27') params=[28] res=['sb', 'b4', 'bb', 'row', 'map', 'b3', 'b2', 'b1']
      refine xc_range (pl := [28]) (It := ([cellR sb 9 [.string text]])) (all := (linesF text)) (encs := encL) (fun pre L => (∃ (rows : List Rw) (tot : Nat) (A : Option Addr) (c m : Nat), BookSt (2 ^ h) pre rows tot m ∧ L = cellR b4 161 [.pointer (some ⟨bk.1, 0, none⟩)] :: (bookR bk.1 bk.2 (2 ^ h) A c rows tot m ++ [cellR b3 30 [.int .i64 0], cellR b2 3 [.int .i64 0], cellR b1 104 [.slice none 0 0]]))) (fun c pre L => (c = .ret ∧ ∃ (ln : Nat) (e : Int), (∀ post, impGo (2 ^ h) (pre ++ post) [] 0 = (some (ln, e), [])) ∧ L = [cellR b4 161 [.pointer (some ⟨bk.1, 0, none⟩)], cellR b3 30 [.int .i64 e], cellR b2 3 [.int .i64 ln], cellR b1 104 [.slice none 0 0]])) Tryz.call160 rfl (fun _ => rfl) rfl (each_iter hG (by omega)) (⟨[], 0, none, 0, 0, BookSt.nil _, rfl⟩) (fun l pre post x L Fr hall hJ => ?_) (fun b L hJ => ?_) (fun b c pre post L hall hJ => ?_)
      ·
        obtain ⟨rows, tot, A, c, m, hst, rfl⟩ := hJ
        have hxm : x ∈ linesF text := by rw [hall]; simp
        have hxs : x.text.size ≤ 4096 := by have := hls x hxm; omega
        have hpl : pre.length ≤ text.size + 1 := by have h3 : (linesF text).length ≤ text.size + 1 := hll; rw [hall] at h3; simp at h3; omega
        have hm1 := hst.mle
        have hr1 := hst.rle
        have hlt := hst.ok.lt
        refine xc_region <| xe rfl (al zo_168) fun b5 _ => xs (st sz_168 rfl rfl rfl rfl .head rfl rfl) <| xl_nil <| xq_rnd (L1 := _ :: _) fun Fr => ?_
        refine xc_block <| xc_seq <| xc_region <| xp rfl (ld kd_168 rfl .head rfl) <| xv rfl Tryz.call84 rfl rfl (fun W hW => (rowof_ok (hG.up hW) (by omega))) <| xp rfl (mv rfl) <| xp rfl (ext rfl rfl) <| xp rfl (ext rfl rfl) <| xp rfl (ext rfl rfl) <| xe rfl (al zo_170) fun b6 _ => xs (st sz_170 rfl rfl rfl rfl .head rfl rfl) <| xp rfl (asg rfl) <| xp rfl (asg rfl) <| xl_nil <| xq_then <| ?_
        refine xc_seq <| xc_seq <| xc_region <| xp rfl (mv rfl) <| xp rfl (bin rfl rfl bk_eql) <| xp rfl (mv rfl) <| xl_and 2 39 (fun hg3 => xgT rfl rfl rfl hg3 <| xp rfl (mv rfl) <| xp rfl (pickT rfl hg3 rfl) <| xl_nil <| xq_and_yes hg3 (.kc rfl .kn) (fun _ h => h)) (fun hg3 => xgF rfl rfl rfl hg3 <| xp rfl (pickF rfl hg3 rfl) <| xl_nil <| xq_and_no hg3 (.kc rfl .kn) (fun _ h => h)) <| xl_nil <| xq_then <| xc_cond rfl (fun hc4 => ?_) (fun hc4 => ?_)
        ·
          have hok := lnF_ok hc4 hxs
          refine xc_em (putE (2 ^ h) rows tot (lnF x) = 0) (fun hp => ?_) (fun hp => ?_)
          ·
            refine xc_region <| xp rfl (ld kd_161 rfl (.tail <| .tail .head) rfl) <| xp rfl (ld kd_170 rfl .head rfl) <| xm rfl Tryz.call85 rfl rfl (.tc (.tail <| .tail <| .tail .head) <| .tc (.tail <| .tail <| .tail .head) <| .tc (.tail <| .tail <| .tail .head) <| .tn) (put_fine (by have := hok.2.1; omega) hok.2.2 hlt (by omega) (by omega) hp) fun q _ => xp rfl (asg rfl) <| xl_nil <| xq_then <| ?_
            refine xc_seq <| xc_region <| xp rfl (mv rfl) <| xp rfl (bin rfl rfl bk_neq) <| xl_nil <| xq_then <| xc_cond rfl (fun hc5 => ?_) (fun hc5 => ?_)
            ·
              exact absurd hc5 (by decide)
            ·
              refine xc_skip <| xq_in <| xq_bodyW (L1 := (cellR b4 161 [.pointer (some ⟨bk.1, 0, none⟩)] :: (bookR bk.1 bk.2 (2 ^ h) q.1 q.2 (rows ++ [lnF x]) (tot + (lnF x).amt) (m + 1) ++ [cellR b3 30 [.int .i64 0], cellR b2 3 [.int .i64 0], cellR b1 104 [.slice none 0 0]]))) (fun W hW => HP.m3 hW) (⟨_, _, _, _, _, hst.put hc4 hxs hp, rfl⟩)
          ·
            refine xc_region <| xp rfl (ld kd_161 rfl (.tail <| .tail .head) rfl) <| xp rfl (ld kd_170 rfl .head rfl) <| xm rfl Tryz.call85 rfl rfl (.tc (.tail <| .tail <| .tail .head) <| .tc (.tail <| .tail <| .tail .head) <| .tc (.tail <| .tail <| .tail .head) <| .tn) (put_bad (by have := hok.2.1; omega) hok.2.2 hlt (by omega) (by omega) hp) fun _ _ => xp rfl (asg rfl) <| xl_nil <| xq_then <| ?_
            refine xc_seq <| xc_region <| xp rfl (mv rfl) <| xp rfl (bin rfl rfl bk_neq) <| xl_nil <| xq_then <| xc_cond rfl (fun hc6 => ?_) (fun hc6 => ?_)
            ·
              refine xc_seq <| xc_draw (canon := [(0, .p), (1, .p), (2, .p), (3, .x), (4, .x), (5, .x)]) (Z := HP _ [cellR b6 _ _, cellR b5 _ _, cellR b4 _ _]) mixed_ rfl (akp <| akp <| akp <| akx <| akx <| akx <| ak0) (zsub (.cons_cons _ <| .cons_cons _ <| .cons_cons _ <| .cons _ <| .cons _ <| .cons _ <| List.nil_sublist _)) ?_
              refine dp rfl rfl rfl rfl (fa fa_168_0 rfl) <| dp rfl rfl rfl rfl (ld kd_3 rfl (.tail .head) rfl) <| dp rfl rfl rfl rfl (mv rfl) <| dst_ rfl rfl rfl rfl sz_104 rfl rfl rfl rfl (.tail <| .tail <| .tail <| .tail <| .tail .head) rfl rfl (zsub (.cons_cons _ <| .cons_cons _ <| .cons_cons _ <| .cons _ <| .cons _ <| .cons _ <| List.nil_sublist _)) <| dst_ rfl rfl rfl rfl sz_3 rfl rfl rfl rfl (.tail <| .tail <| .tail <| .tail .head) rfl rfl (zsub (.cons_cons _ <| .cons_cons _ <| .cons_cons _ <| .cons _ <| .cons _ <| .cons _ <| List.nil_sublist _)) <| dst_ rfl rfl rfl rfl sz_30 rfl rfl rfl rfl (.tail <| .tail <| .tail .head) rfl rfl (zsub (.cons_cons _ <| .cons_cons _ <| .cons_cons _ <| .cons _ <| .cons _ <| .cons _ <| List.nil_sublist _)) <| dend <| xq_then <| xc_ret <| xq_in_ret <| xq_body_retW (L1 := ([cellR b4 161 [.pointer (some ⟨bk.1, 0, none⟩)], cellR b3 30 [.int .i64 (putE (2 ^ h) rows tot (lnF x))], cellR b2 3 [.int .i64 x.num], cellR b1 104 [.slice none 0 0]])) (fun W hW => hW.sub (.cons _ <| .cons _ <| .refl _)) (⟨rfl, _, _, hst.bad hc4 hp, rfl⟩)
            ·
              exact absurd (bne_eq_false_iff_eq.1 hc6) hp
        ·
          refine xc_skip <| xq_then <| xc_seq <| xc_region <| xp rfl (mv rfl) <| xp rfl (bin rfl rfl bk_neq) <| xl_nil <| xq_then <| xc_cond rfl (fun hc7 => ?_) (fun hc7 => ?_)
          ·
            refine xc_seq <| xc_draw (canon := [(0, .p), (1, .p), (2, .p), (3, .x), (4, .x), (5, .x)]) (Z := HP _ [cellR b6 _ _, cellR b5 _ _, cellR b4 _ _, _, _, _]) mixed_ rfl (akp <| akp <| akp <| akx <| akx <| akx <| ak0) (zsub (.cons_cons _ <| .cons_cons _ <| .cons_cons _ <| .cons_cons _ <| .cons_cons _ <| .cons_cons _ <| .cons _ <| .cons _ <| .cons _ <| List.nil_sublist _)) ?_
            refine dp rfl rfl rfl rfl (fa fa_168_0 rfl) <| dp rfl rfl rfl rfl (ld kd_3 rfl (.tail .head) rfl) <| dp rfl rfl rfl rfl (mv rfl) <| dst_ rfl rfl rfl rfl sz_104 rfl rfl rfl rfl (.tail <| .tail <| .tail <| .tail <| .tail <| .tail <| .tail <| .tail .head) rfl rfl (zsub (.cons_cons _ <| .cons_cons _ <| .cons_cons _ <| .cons_cons _ <| .cons_cons _ <| .cons_cons _ <| .cons _ <| .cons _ <| .cons _ <| List.nil_sublist _)) <| dst_ rfl rfl rfl rfl sz_3 rfl rfl rfl rfl (.tail <| .tail <| .tail <| .tail <| .tail <| .tail <| .tail .head) rfl rfl (zsub (.cons_cons _ <| .cons_cons _ <| .cons_cons _ <| .cons_cons _ <| .cons_cons _ <| .cons_cons _ <| .cons _ <| .cons _ <| .cons _ <| List.nil_sublist _)) <| dst_ rfl rfl rfl rfl sz_30 rfl rfl rfl rfl (.tail <| .tail <| .tail <| .tail <| .tail <| .tail .head) rfl rfl (zsub (.cons_cons _ <| .cons_cons _ <| .cons_cons _ <| .cons_cons _ <| .cons_cons _ <| .cons_cons _ <| .cons _ <| .cons _ <| .cons _ <| List.nil_sublist _)) <| dend <| xq_then <| xc_ret <| xq_in_ret <| xq_body_retW (L1 := ([cellR b4 161 [.pointer (some ⟨bk.1, 0, none⟩)], cellR b3 30 [.int .i64 (lnE x)], cellR b2 3 [.int .i64 x.num], cellR b1 104 [.slice none 0 0]])) (fun W hW => hW.sub (.cons _ <| .cons _ <| .cons_cons _ <| .cons _ <| .cons _ <| .cons _ <| .refl _)) (⟨rfl, _, _, hst.err hc4 hc7, rfl⟩)
          ·
            refine xc_skip <| xq_in <| xq_bodyW (L1 := (cellR b4 161 [.pointer (some ⟨bk.1, 0, none⟩)] :: (bookR bk.1 bk.2 (2 ^ h) A c rows tot m ++ [cellR b3 30 [.int .i64 0], cellR b2 3 [.int .i64 0], cellR b1 104 [.slice none 0 0]]))) (fun W hW => hW.sub (.cons _ <| .cons _ <| .refl _)) (⟨_, _, _, _, _, hst.skip hc4 hc7, rfl⟩)
      ·
        obtain ⟨rows, tot, A, c, m, hst, rfl⟩ := hJ
        obtain ⟨himp, hro⟩ := impF_ok hst
        have hln := hst.ok.len
        refine xq_in <| xq_then <| xc_seq <| xc_region <| xp rfl (ld kd_161 rfl (.tail .head) rfl) <| xp rfl (nc rfl) <| xp rfl (fa fa_177_1 rfl) <| xp rfl (ld kd_104 rfl (.tail <| .tail .head) rfl) <| xr rfl Tryz.call86 rfl rfl (fun W hW => (rsort_ok (ownR_rowOf (hW.mem_ok (.tail <| .tail <| .tail .head))) (by omega) hst.ok.nodup)) fun rb _ => xs (st sz_104 rfl rfl rfl rfl (.tail <| .tail <| .tail <| .tail <| .tail <| .tail <| .tail <| .tail .head) rfl rfl) <| xs (st sz_3 rfl rfl rfl rfl (.tail <| .tail <| .tail <| .tail <| .tail <| .tail <| .tail .head) rfl rfl) <| xs (st sz_30 rfl rfl rfl rfl (.tail <| .tail <| .tail <| .tail <| .tail <| .tail .head) rfl rfl) <| xl_nil <| xq_then <| xc_ret <| leaveM1 (.inl rfl) (.tail .head) (rets3 rfl (.cell rfl (ld_own kd_104 (.tail <| .tail <| .tail <| .tail <| .tail <| .tail <| .tail <| .tail .head) rfl)) (.cell rfl (ld_own kd_3 (.tail <| .tail <| .tail <| .tail <| .tail <| .tail <| .tail .head) rfl)) (.cell rfl (ld_own kd_30 (.tail <| .tail <| .tail <| .tail <| .tail <| .tail .head) rfl))) fun W hW => (⟨rb, by simp only [impV, himp], trivial, by simp only [impR, himp]; exact hW.sub (.cons_cons _ <| List.nil_sublist _)⟩)
      ·
        obtain ⟨rfl, ln, e, hgo, rfl⟩ := hJ
        have himp : impF text h = (some (ln, e), []) := by have := hgo post; rw [← hall] at this; exact this
        refine xc_ret <| xq_in_ret <| xq_then_ret <| leaveM1 (.inl rfl) .head (rets3 rfl (.cell rfl (ld_own kd_104 (.tail <| .tail <| .tail <| .tail .head) rfl)) (.cell rfl (ld_own kd_3 (.tail <| .tail <| .tail .head) rfl)) (.cell rfl (ld_own kd_30 (.tail <| .tail .head) rfl))) fun W hW => (⟨0, by simp only [impV, himp], trivial, by simp only [impR, himp]; exact HP.of_below hW.below⟩)

end Go.Eng
end
