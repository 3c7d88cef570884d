/- Part 10 of the walks and plain lemmas that the claim rests on. -/
import Derived.Test.YtfdnhjfbbggmiaaGreatDoorP9
section
namespace Go.Eng
open Go Go.RowKit Go.Proofs
set_option linter.unusedVariables false
set_option linter.unusedSimpArgs false
set_option maxRecDepth 4000
abbrev strC (t : ByteArray) : List Value := [.string t]
theorem strK : ∀ t : ByteArray, (strC t).length = 1 := fun _ => rfl
def b0 : ByteArray := noneText
theorem str_at {W : World} {b off : Nat} {l : List ByteArray} (h : rowOf W 1 strC (some ⟨b, off, none⟩) l) {k : Nat} (hk : k < l.length) {o : Nat} (ho : o = off + k * 1) : Cells W b o [.string (l.getD k b0)] := by
  have e : l.getD k b0 = l[k] := by simp [List.getD_eq_getElem?_getD, hk]
  rw [e, ho]; exact (h.cells_at strK k hk : Cells W b (off + k * 1) (strC l[k]))
/-- The accounts of each snapshot of a chain. -/
noncomputable def chainL (cfg : Cfg) (h : Nat) (T : List ByteArray) : Nat → List Ac
  | 0 => placeF cfg.seed h [] (rowsOf (T.getD 0 b0) h)
  | k + 1 => placeF cfg.seed h (chainL cfg h T k) (rowsOf (T.getD (k + 1) b0) h)
theorem chain_acc {cfg : Cfg} {h : Nat} {T : List ByteArray} {n : Nat} (hr : ∀ k, k < n → RowsOK h (rowsOf (T.getD k b0) h)) : ∀ k, k < n → AccOK h cfg.seed (chainL cfg h T k)
  | 0, hk => (placeF_ok (acc_nil h cfg.seed) (hr 0 hk)).1
  | k + 1, hk => (placeF_ok (chain_acc hr k (by omega)) (hr (k + 1) hk)).1
abbrev SnapP := List Ac × SnapV
noncomputable abbrev snapP (cfg : Cfg) (h : Nat) (p : SnapP) : Res := snapR cfg h p.1 p.2
abbrev ptrP (p : SnapP) : List Value := [.pointer (some ⟨p.2.sb, 0, none⟩)]
theorem snapP_at {W : World} {cfg : Cfg} {h : Nat} {ss : List SnapP} (hW : (starR (ss.map (snapP cfg h))).ok W) (hp : ∀ p ∈ ss, SnapPhi cfg h p.1 p.2) (hh : h ≤ 10) {p : SnapP} (hm : p ∈ ss) : SnapAt W p.2.sb cfg p.1 (rootF cfg.w cfg.seed h p.1) h :=
  snapR_at (starR_ok hW (List.mem_map.2 ⟨p, hm, rfl⟩)) (hp p hm) hh
abbrev snapVal (s : SnapV) : Value := .tuple #[.pointer (some ⟨s.sb, 0, none⟩), .int .i64 0, .int .i64 0]

theorem chain1_ok {w : World} {bc bt : Nat} {cfg : Cfg} {h : Nat} {text : ByteArray} (hG : Glob w) (hbc : Cells w bc 0 cfg.c) (hbt : Cells w bt 0 [.string text]) (hc : CfgOK h cfg) (ht : text.size ≤ 4096) (he : ImpOK text h) (hr : RowsOK h (rowsOf text h)) :
  Ret Tryz.prog 80 [.pointer (some ⟨bc, 0, none⟩), .pointer (some ⟨bt, 0, none⟩)] w snapVal (SnapPhi cfg h (placeF cfg.seed h [] (rowsOf text h))) (fun s => [snapR cfg h (placeF cfg.seed h [] (rowsOf text h)) s]) := by
  refine begin_ Tryz.func80 rfl rfl rfl ?_
  refine xc_seq <| xc_region <| xp rfl (asg rfl) <| xp rfl (asg rfl) <| xp rfl (asg rfl) <| xl_nil <| xq_then <| ?_
  refine xc_seq <| xc_region <| xp rfl (ldc kd_23 rfl (vs := _) (fun W hW => hold_cells (o := 0) hbc hW.below) rfl) <| xp rfl (ldc kd_9 rfl (vs := _) (fun W hW => hold_cells (o := 0) hbt hW.below) rfl) <| xr rfl Tryz.call23 rfl rfl (fun W hW => (snew_ok (hG.up hW) hc ht he hr)) fun s hs => xp rfl (ext rfl rfl) <| xp rfl (ext rfl rfl) <| xp rfl (ext rfl rfl) <| xp rfl (asg rfl) <| xp rfl (asg rfl) <| xp rfl (asg rfl) <| xl_nil <| xq_then <| xc_ret <| leave3 (.inl rfl) rfl (.tmp rfl) (.tmp rfl) (.tmp rfl) fun W hW => (⟨s, rfl, hs, hW⟩)

theorem chain2_ok {w : World} {bo bi bt ob oo k oc sb : Nat} {cfg : Cfg} {h : Nat} {l : List Ac} {root : Nd} {text : ByteArray} (hG : Glob w) (hbo : Cells w bo 0 [.slice (some ⟨ob, oo, none⟩) k oc]) (hbi : Cells w bi 0 [.int .i64 k]) (hbt : Cells w bt 0 [.string text]) (hrow : Cells w ob (oo + (k - 1)) [.pointer (some ⟨sb, 0, none⟩)]) (hk : 0 < k) (hk2 : k ≤ 100000) (hS : SnapAt w sb cfg l root h) (hc : CfgOK h cfg) (ht : text.size ≤ 4096) (hA : AccOK h cfg.seed l) (he : ImpOK text h) (hr : RowsOK h (rowsOf text h)) :
  Ret Tryz.prog 81 [.pointer (some ⟨bo, 0, none⟩), .pointer (some ⟨bi, 0, none⟩), .pointer (some ⟨bt, 0, none⟩)] w snapVal (SnapPhi cfg h (placeF cfg.seed h l (rowsOf text h))) (fun s => [snapR cfg h (placeF cfg.seed h l (rowsOf text h)) s]) := by
  have ew : IntKind.i64.wrap ((k : Int) - 1) = ((k - 1 : Nat) : Int) := w64 (by omega) (by omega)
  refine begin_ Tryz.func81 rfl rfl rfl ?_
  refine xc_seq <| xc_region <| xp rfl (asg rfl) <| xp rfl (asg rfl) <| xp rfl (asg rfl) <| xl_nil <| xq_then <| ?_
  refine xc_seq <| xc_draw (canon := [(0, .p), (1, .p), (2, .p), (3, .p), (4, .p), (5, .p), (6, .x), (7, .p), (8, .p), (9, .p), (10, .x), (11, .x), (12, .x)]) (Z := HP _ []) mixed_ rfl (akp <| akp <| akp <| akp <| akp <| akp <| akx <| akp <| akp <| akp <| akx <| akx <| akx <| ak0) (zsub (List.nil_sublist _)) ?_
  refine dp rfl rfl rfl rfl (ldc kd_100 rfl (vs := _) (fun W hW => hold_cells (o := 0) hbo hW.below) rfl) <| dp rfl rfl rfl rfl (ldc kd_3 rfl (vs := _) (fun W hW => hold_cells (o := 0) hbi hW.below) rfl) <| dp rfl rfl rfl rfl (bin rfl rfl bk_sub) <| dp rfl rfl rfl rfl (ix so_100 rfl rfl (by rw [ew]; omega) (by rw [ew]; omega)) <| dp rfl rfl rfl rfl (ldc kd_27 rfl (vs := _) (fun W hW => cellsAt hrow hW.below (by rw [ew]; simp)) rfl) <| dp rfl rfl rfl rfl (ldc kd_9 rfl (vs := _) (fun W hW => hold_cells (o := 0) hbt hW.below) rfl) <| dr rfl rfl rfl (.inl rfl) rfl Tryz.call13 rfl rfl (fun W hW => (snext_ok (hG.up hW) (hS.below hW.below) hA hc ht he hr)) (zsub (List.nil_sublist _)) fun s hs => dp rfl rfl rfl rfl (ext rfl rfl) <| dp rfl rfl rfl rfl (ext rfl rfl) <| dp rfl rfl rfl rfl (ext rfl rfl) <| das rfl rfl rfl rfl (asg rfl) (zsub (.cons _ <| List.nil_sublist _)) <| das rfl rfl rfl rfl (asg rfl) (zsub (.cons _ <| List.nil_sublist _)) <| das rfl rfl rfl rfl (asg rfl) (zsub (.cons _ <| List.nil_sublist _)) <| dend <| xq_then <| xc_ret <| leave3 (.inl rfl) rfl (.tmp rfl) (.tmp rfl) (.tmp rfl) fun W hW => (⟨s, rfl, hs, hW⟩)

theorem chain2_bad {w : World} {bo bi bt ob oo k oc sb : Nat} {cfg : Cfg} {h : Nat} {l : List Ac} {root : Nd} {text : ByteArray} {ln : Nat} {e : Int} (hG : Glob w) (hbo : Cells w bo 0 [.slice (some ⟨ob, oo, none⟩) k oc]) (hbi : Cells w bi 0 [.int .i64 k]) (hbt : Cells w bt 0 [.string text]) (hrow : Cells w ob (oo + (k - 1)) [.pointer (some ⟨sb, 0, none⟩)]) (hk : 0 < k) (hk2 : k ≤ 100000) (hS : SnapAt w sb cfg l root h) (hc : CfgOK h cfg) (ht : text.size ≤ 4096) (he : (impF text h).1 = some (ln, e)) (he0 : e ≠ 0) :
  Ret Tryz.prog 81 [.pointer (some ⟨bo, 0, none⟩), .pointer (some ⟨bi, 0, none⟩), .pointer (some ⟨bt, 0, none⟩)] w (fun _ : Unit => .tuple #[.pointer none, .int .i64 ln, .int .i64 e]) (fun _ => True) (fun _ => []) := by
  have ew : IntKind.i64.wrap ((k : Int) - 1) = ((k - 1 : Nat) : Int) := w64 (by omega) (by omega)
  refine begin_ Tryz.func81 rfl rfl rfl ?_
  refine xc_seq <| xc_region <| xp rfl (asg rfl) <| xp rfl (asg rfl) <| xp rfl (asg rfl) <| xl_nil <| xq_then <| ?_
  refine xc_seq <| xc_draw (canon := [(0, .p), (1, .p), (2, .p), (3, .p), (4, .p), (5, .p), (6, .x), (7, .p), (8, .p), (9, .p), (10, .x), (11, .x), (12, .x)]) (Z := HP _ []) mixed_ rfl (akp <| akp <| akp <| akp <| akp <| akp <| akx <| akp <| akp <| akp <| akx <| akx <| akx <| ak0) (zsub (List.nil_sublist _)) ?_
  refine dp rfl rfl rfl rfl (ldc kd_100 rfl (vs := _) (fun W hW => hold_cells (o := 0) hbo hW.below) rfl) <| dp rfl rfl rfl rfl (ldc kd_3 rfl (vs := _) (fun W hW => hold_cells (o := 0) hbi hW.below) rfl) <| dp rfl rfl rfl rfl (bin rfl rfl bk_sub) <| dp rfl rfl rfl rfl (ix so_100 rfl rfl (by rw [ew]; omega) (by rw [ew]; omega)) <| dp rfl rfl rfl rfl (ldc kd_27 rfl (vs := _) (fun W hW => cellsAt hrow hW.below (by rw [ew]; simp)) rfl) <| dp rfl rfl rfl rfl (ldc kd_9 rfl (vs := _) (fun W hW => hold_cells (o := 0) hbt hW.below) rfl) <| dv rfl rfl rfl (.inl rfl) rfl Tryz.call13 rfl rfl (fun W hW => (next_imp (hG.up hW) (hS.below hW.below) hc ht he he0)) (zsub (List.nil_sublist _)) <| dp rfl rfl rfl rfl (ext rfl rfl) <| dp rfl rfl rfl rfl (ext rfl rfl) <| dp rfl rfl rfl rfl (ext rfl rfl) <| das rfl rfl rfl rfl (asg rfl) (zsub (List.nil_sublist _)) <| das rfl rfl rfl rfl (asg rfl) (zsub (List.nil_sublist _)) <| das rfl rfl rfl rfl (asg rfl) (zsub (List.nil_sublist _)) <| dend <| xq_then <| xc_ret <| leave3 (.inl rfl) rfl (.tmp rfl) (.tmp rfl) (.tmp rfl) fun W hW => (⟨(), rfl, trivial, hW⟩)

def sp0 : SnapP := ([], ⟨0, none, 0, ⟨0, none, 0, none, 0, []⟩⟩)
theorem chain_fst {f : Nat → List Ac} {ss : List SnapP} {k : Nat} (h : ss.map Prod.fst = (List.range k).map f) {j : Nat} (hj : j < k) : (ss.getD j sp0).1 = f j := by
  have hl : ss.length = k := by have h1 := congrArg List.length h; simpa using h1
  have h2 := congrArg (fun l => l[j]?) h
  simp only [List.getElem?_map, List.getElem?_range hj, Option.map_some] at h2
  rw [List.getElem?_eq_getElem (by omega)] at h2
  simp only [Option.map_some, Option.some.injEq] at h2
  rw [← h2]
  simp [List.getD_eq_getElem?_getD, show j < ss.length by omega]
theorem snapC_at {W : World} {cfg : Cfg} {h k j : Nat} {T : List ByteArray} {ss : List SnapP} (hW : (starR (ss.map (snapP cfg h))).ok W) (hp : ∀ p ∈ ss, SnapPhi cfg h p.1 p.2) (hh : h ≤ 10) (hfs : ss.map Prod.fst = (List.range k).map (chainL cfg h T)) (hj : j < k) :
    SnapAt W (ss.getD j sp0).2.sb cfg (chainL cfg h T j) (rootF cfg.w cfg.seed h (chainL cfg h T j)) h := by
  have hl : ss.length = k := by have h1 := congrArg List.length hfs; simpa using h1
  have h1 := snapP_at hW hp hh (getD_mem (show j < ss.length by omega) sp0)
  rw [chain_fst hfs hj] at h1
  exact h1
theorem ptr_at {W : World} {ob k oc j o : Nat} {ss : List SnapP} (h : (ownR 27 1 (.slice (some ⟨ob, 0, none⟩) k oc) k (ss.flatMap ptrP)).ok W) (hl : ss.length = k) (hj : j < k) (ho : o = j) : Cells W ob o [.pointer (some ⟨(ss.getD j sp0).2.sb, 0, none⟩)] := by
  rw [← hl] at h
  have h2 := ownR_rowOf h
  have hj2 : j < ss.length := by omega
  have h3 := h2.cells_at (K := 1) (enc := ptrP) (fun _ => rfl) j hj2
  have e : ss.getD j sp0 = ss[j] := by simp [List.getD_eq_getElem?_getD, hj2]
  rw [e, ho]
  simpa using h3

theorem chain_ok {w : World} {A : Option Addr} {c h n ln : Nat} {e : Int} {cfg : Cfg} {T : List ByteArray} (hG : Glob w) (hc : CfgOK h cfg) (hT : rowOf w 1 strC A T) (hsz : ∀ t ∈ T, t.size ≤ 4096) (hn0 : 0 < n) (hn : n < T.length) (hT2 : T.length ≤ 100000)
    (hgood : ∀ k, k < n → ImpOK (T.getD k b0) h ∧ RowsOK h (rowsOf (T.getD k b0) h)) (he : (impF (T.getD n b0) h).1 = some (ln, e)) (he0 : e ≠ 0) :
  Ret Tryz.prog 42 [cfg.V, .slice A T.length c] w (fun s : Option Addr × Nat × List SnapP => .tuple #[.slice s.1 n s.2.1, .int .i64 ln, .int .i64 e]) (fun s => s.2.2.map Prod.fst = (List.range n).map (chainL cfg h T) ∧ ∀ p ∈ s.2.2, SnapPhi cfg h p.1 p.2)
    (fun s => [ownR 27 1 (.slice s.1 n s.2.1) n (s.2.2.flatMap ptrP), starR (s.2.2.map (snapP cfg h))]) := by
  have hacc := chain_acc (cfg := cfg) (n := n) (fun k hk => (hgood k hk).2)
  obtain ⟨x0, xs0, hTc⟩ := cons_of (l := T) (by omega)
  refine begin_ Tryz.func42 rfl rfl rfl ?_
  refine xc_seq <| xc_region <| xe rfl (bx rfl rfl) fun b1 _ => xp rfl (asg rfl) <| xp rfl (asg rfl) <| xp rfl (asg rfl) <| xl_nil <| xq_then <| ?_
  refine xc_seq <| xc_region <| xe rfl (al zo_100) fun b2 _ => xl_nil <| xq_then <| ?_
  refine xc_seq <| xc_seq <| xc_region <| xp rfl (mv rfl) <| xp rfl (lenv Tryz.underlying26 rfl) <| xp rfl (mv rfl) <| xl_nil <| xq_then <| xc_block <| xc_loopP (σ := Nat × Option Addr × Nat × List SnapP) (fun q => [(16, .int .i64 q.1), (2, _), (7, _), (14, _), (15, _)]) (fun q => q.1 ≤ n ∧ q.2.2.2.map Prod.fst = (List.range q.1).map (chainL cfg h T) ∧ ∀ p ∈ q.2.2.2, SnapPhi cfg h p.1 p.2) (fun q => HP w [ownR 27 1 (.slice q.2.1 q.1 q.2.2.1) q.1 (q.2.2.2.flatMap ptrP), starR (q.2.2.2.map (snapP cfg h)), cellR b2 100 [.slice q.2.1 q.1 q.2.2.1], cellR b1 23 cfg.c]) (fun q => n + 1 - q.1) (0, none, 0, []) ⟨Nat.zero_le _, by simp, by simp⟩ (sc rfl <| sc rfl <| sc rfl <| sc rfl <| sc rfl <| sn) (fun W hW => ownR_nil _ _ _ _ (HP.star_nil hW)) fun q ⟨hk, hfs, hph⟩ => ?_
  obtain ⟨k, O, oc, ss⟩ := q
  simp only at hk hfs hph
  dsimp only
  have hsl : ss.length = k := by have h1 := congrArg List.length hfs; simpa using h1
  refine xc_seq <| xc_region <| xp rfl (bin rfl rfl bk_lss) <| xl_nil <| xq_then <| xc_seq <| xc_cond rfl (fun hc1 => ?_) (fun hc1 => ?_)
  ·
    have hk1 : k < T.length := by omega
    have htm := getD_mem hk1 b0
    obtain ⟨b, off, rfl⟩ := hT.addr (by omega)
    refine xc_skip <| xq_then <| xc_seq <| xc_block <| xc_seq <| xc_region <| xp rfl (mv rfl) <| xp rfl (ix so_26 rfl rfl (by omega) (by omega)) <| xp rfl (ldc kd_9 rfl (vs := _) (fun W hW => str_at (hT.up hW) hk1 (by simp)) rfl) <| xe rfl (al zo_3) fun b3 _ => xe rfl (al zo_9) fun b4 _ => xs (st sz_3 rfl rfl rfl rfl (.tail .head) rfl rfl) <| xs (st sz_9 rfl rfl rfl rfl .head rfl rfl) <| xl_nil <| xq_then <| ?_
    refine xc_seq <| xc_region <| xp rfl (mf rfl rfl) <| xp rfl (asg rfl) <| xl_nil <| xq_then <| ?_
    refine xc_seq <| xc_seq <| xc_region <| xp rfl (ld kd_3 rfl (.tail .head) rfl) <| xp rfl (bin rfl rfl bk_gtr) <| xl_nil <| xq_then <| xc_cond rfl (fun hc2 => ?_) (fun hc2 => ?_)
    ·
      have hk0 : 0 < k := by have h1 := of_decide_eq_true hc2; omega
      obtain ⟨k, rfl⟩ : ∃ k1, k = k1 + 1 := ⟨k - 1, by omega⟩
      refine xc_row (.tail <| .tail .head) (by omega) fun ob hob hoc => ?_
      subst hob
      refine xc_region <| xp rfl (mf rfl rfl) <| xp rfl (asg rfl) <| xl_nil <| xq_then <| ?_
      refine xc_seq <| xc_em (k + 1 < n) (fun hkn => ?_) (fun hkn => ?_)
      ·
        have hg := hgood _ hkn
        refine xc_region <| xp rfl (mv rfl) <| xrC rfl Tryz.call81 rfl rfl (fun W hW => (fun _ => chain2_ok (k := k + 1) (hG.up hW) (cells_of hW (.tail <| .tail <| .tail <| .tail <| .head)) (cells_of hW (.tail .head)) (cells_of hW .head) (ptr_at (hW.mem_ok (.tail <| .tail <| .head)) hsl (show k < k + 1 by omega) (by simp)) (by omega) (by omega) (snapC_at (hW.mem_ok (.tail <| .tail <| .tail <| .head)) hph hc.hh hfs (by omega)) hc (hsz _ htm) (hacc k (by omega)) hg.1 hg.2) ()) fun s hs => xp rfl (mv rfl) <| xp rfl (ext rfl rfl) <| xp rfl (ext rfl rfl) <| xp rfl (ext rfl rfl) <| xp rfl (asg rfl) <| xp rfl (asg rfl) <| xp rfl (asg rfl) <| xl_nil <| xq_then <| ?_
        refine xc_seq <| xc_seq <| xc_region <| xp rfl (mv rfl) <| xp rfl (bin rfl rfl bk_neq) <| xl_nil <| xq_then <| xc_cond rfl (fun hc3 => ?_) (fun hc3 => ?_)
        ·
          exact absurd hc3 (by decide)
        ·
          refine xc_skip <| xq_then <| xc_region <| xp rfl (ld kd_100 rfl (.tail <| .tail <| .tail <| .tail <| .tail .head) rfl) <| xp rfl (mv rfl) <| xe rfl (bs rfl bs_100_1) fun b5 _ => xe rfl (apS mo_100 rfl rfl (.tail <| .tail <| .tail <| .tail <| .head) rfl (nw .head) (by simp [Value.oneCell']) (by simp only [maxLen]; omega) (by omega)) fun s1 _ => xs (st sz_100 rfl rfl rfl rfl (.tail <| .tail <| .tail <| .tail <| .tail <| .tail .head) rfl rfl) <| xl_nil <| xq_in <| xq_then <| ?_
          refine xc_region <| xp rfl (bin rfl rfl bk_add) <| xp rfl (mv rfl) <| xl_nil <| xq_roundP (k + 2, s1.1, s1.2, ss ++ [(chainL cfg h T (k + 1), s)]) (⟨by omega, by rw [List.map_append, hfs, List.range_succ (n := k + 1), List.map_append]; rfl, fun p hp => by rcases List.mem_append.1 hp with hp | hp; exact hph p hp; rw [List.mem_singleton.1 hp]; exact hs⟩) (by simp only; omega) (sc (iw (by omega) (by omega) (by omega) rfl) <| sc rfl <| sc rfl <| sc rfl <| sc rfl <| sn) (fun W hW => by
          have h1 := hW.sub (.cons _ <| .cons_cons _ <| .cons _ <| .cons _ <| .refl _)
          have h3 := (star_snoc (h1.perm (Takes.perm (.tc .head <| .tc (.tail .head) <| .tn)))).swap
          simp only [List.map_append, List.map_cons, List.map_nil, List.flatMap_append, List.flatMap_cons, List.flatMap_nil, List.append_nil]
          exact h3)
      ·
        obtain rfl : n = k + 1 := by omega
        refine xc_region <| xp rfl (mv rfl) <| xrC rfl Tryz.call81 rfl rfl (fun W hW => (chain2_bad (k := k + 1) (hG.up hW) (cells_of hW (.tail <| .tail <| .tail <| .tail <| .head)) (cells_of hW (.tail .head)) (cells_of hW .head) (ptr_at (hW.mem_ok (.tail <| .tail <| .head)) hsl (show k < k + 1 by omega) (by simp)) (by omega) (by omega) (snapC_at (hW.mem_ok (.tail <| .tail <| .tail <| .head)) hph hc.hh hfs (by omega)) hc (hsz _ htm) he he0)) fun s hs => xp rfl (mv rfl) <| xp rfl (ext rfl rfl) <| xp rfl (ext rfl rfl) <| xp rfl (ext rfl rfl) <| xp rfl (asg rfl) <| xp rfl (asg rfl) <| xp rfl (asg rfl) <| xl_nil <| xq_then <| ?_
        refine xc_seq <| xc_seq <| xc_region <| xp rfl (mv rfl) <| xp rfl (bin rfl rfl bk_neq) <| xl_nil <| xq_then <| xc_cond rfl (fun hc4 => ?_) (fun hc4 => ?_)
        ·
          refine xc_seq <| xc_region <| xp rfl (ld kd_100 rfl (.tail <| .tail <| .tail <| .tail .head) rfl) <| xp rfl (mv rfl) <| xp rfl (mv rfl) <| xp rfl (asg rfl) <| xp rfl (asg rfl) <| xp rfl (asg rfl) <| xl_nil <| xq_then <| xc_ret <| xq_then_ret <| xq_in_ret <| xq_then_ret <| xq_then_ret <| xq_in_ret <| xq_then_ret <| leave3 (.inl rfl) rfl (.tmp rfl) (.tmp rfl) (.tmp rfl) fun W hW => (⟨(some ⟨ob, 0, none⟩, oc, ss), rfl, ⟨hfs, hph⟩, hW.sub (.cons _ <| .cons _ <| .cons_cons _ <| .cons_cons _ <| List.nil_sublist _)⟩)
        ·
          exfalso; exact he0 (by simpa using hc4)
    ·
      obtain rfl : k = 0 := by have h1 := of_decide_eq_false hc2; omega
      have hg := hgood 0 hn0
      obtain rfl : ss = [] := List.eq_nil_of_length_eq_zero hsl
      refine xc_skip <| xq_then <| xc_seq <| xc_region <| xp rfl (mv rfl) <| xrC rfl Tryz.call80 rfl rfl (fun W hW => (chain1_ok (hG.up hW) (cells_of hW (.tail <| .tail <| .tail <| .tail <| .tail <| .head)) (cells_of hW .head) hc (hsz _ htm) hg.1 hg.2)) fun s hs => xp rfl (mv rfl) <| xp rfl (ext rfl rfl) <| xp rfl (ext rfl rfl) <| xp rfl (ext rfl rfl) <| xp rfl (asg rfl) <| xp rfl (asg rfl) <| xp rfl (asg rfl) <| xl_nil <| xq_then <| ?_
      refine xc_seq <| xc_seq <| xc_region <| xp rfl (mv rfl) <| xp rfl (bin rfl rfl bk_neq) <| xl_nil <| xq_then <| xc_cond rfl (fun hc5 => ?_) (fun hc5 => ?_)
      ·
        exact absurd hc5 (by decide)
      ·
        refine xc_skip <| xq_then <| xc_region <| xp rfl (ld kd_100 rfl (.tail <| .tail <| .tail <| .tail <| .tail .head) rfl) <| xp rfl (mv rfl) <| xe rfl (bs rfl bs_100_1) fun b6 _ => xe rfl (apS mo_100 rfl rfl (.tail <| .tail <| .tail <| .tail <| .head) rfl (nw .head) (by simp [Value.oneCell']) (by simp only [maxLen]; omega) (by omega)) fun s2 _ => xs (st sz_100 rfl rfl rfl rfl (.tail <| .tail <| .tail <| .tail <| .tail <| .tail .head) rfl rfl) <| xl_nil <| xq_in <| xq_then <| ?_
        refine xc_region <| xp rfl (bin rfl rfl bk_add) <| xp rfl (mv rfl) <| xl_nil <| xq_roundP (1, s2.1, s2.2, [(chainL cfg h T 0, s)]) (⟨by omega, rfl, fun p hp => by rw [List.mem_singleton.1 hp]; exact hs⟩) (by simp only; omega) (sc (iw (by omega) (by omega) (by omega) rfl) <| sc rfl <| sc rfl <| sc rfl <| sc rfl <| sn) (fun W hW => by
          have h1 := hW.sub (.cons _ <| .cons_cons _ <| .cons _ <| .cons _ <| .refl _)
          have h3 := (star_snoc (h1.perm (Takes.perm (.tc .head <| .tc (.tail .head) <| .tn)))).swap
          exact h3)
  ·
    exfalso; have h1 := of_decide_eq_false hc1; omega

end Go.Eng
end
section
namespace Go.Eng
open Go Go.RowKit Go.Proofs
set_option linter.unusedVariables false
set_option linter.unusedSimpArgs false
set_option maxRecDepth 4000
def g23 (cfg : Cfg) (t : ByteArray) : Bool := (decide (6 < cfg.h) || decide (100 < (cfg.seed.size : Int))) || decide (3000 < (t.size : Int))
theorem g23_no {cfg : Cfg} {t : ByteArray} (h : g23 cfg t = false) : cfg.h ≤ 6 ∧ cfg.seed.size ≤ 100 ∧ t.size ≤ 3000 := by
  simp only [g23, Bool.or_eq_false_iff, decide_eq_false_iff_not] at h
  omega

theorem great23_ok (cfg : Cfg) (t : ByteArray) (w : World) : RetV Tryz.prog 22 [cfg.V, .string t] w (.bool (g23 cfg t)) := by
  refine begin_ Tryz.func22 rfl rfl rfl ?_
  refine xc_seq <| xc_region <| xe rfl (bx rfl rfl) fun b1 _ => xp rfl (asg rfl) <| xl_nil <| xq_then <| ?_
  refine xc_seq <| xc_region <| xp rfl (fa fa_23_0 rfl) <| xp rfl (ld kd_3 rfl .head rfl) <| xp rfl (bin rfl rfl bk_gtr) <| xp rfl (mv rfl) <| xl_or 5 13 (fun hg1 => xgT rfl rfl rfl hg1 <| xp rfl (fa fa_23_2 rfl) <| xgT rfl rfl rfl hg1 <| xp rfl (ld kd_9 rfl .head rfl) <| xgT rfl rfl rfl hg1 <| xp rfl (lens Tryz.underlying9 rfl) <| xgT rfl rfl rfl hg1 <| xp rfl (bin rfl rfl bk_gtr) <| xp rfl (pickF rfl hg1 rfl) <| xl_nil <| xq_or_yes hg1 (.kc rfl <| .kc rfl <| .kc rfl <| .kc rfl .kn) (fun _ h => h)) (fun hg1 => xgF rfl rfl rfl hg1 <| xgF rfl rfl rfl hg1 <| xgF rfl rfl rfl hg1 <| xgF rfl rfl rfl hg1 <| xp rfl (pickT rfl hg1 rfl) <| xl_nil <| xq_or_no hg1 (.kc rfl <| .kc rfl <| .kc rfl <| .kc rfl .kn) (fun _ h => h)) <| xp rfl (mv rfl) <| xl_or 4 18 (fun hg2 => xgT rfl rfl rfl hg2 <| xp rfl (mv rfl) <| xgT rfl rfl rfl hg2 <| xp rfl (lens Tryz.underlying9 rfl) <| xgT rfl rfl rfl hg2 <| xp rfl (bin rfl rfl bk_gtr) <| xp rfl (pickF rfl hg2 rfl) <| xl_nil <| xq_or_yes hg2 (.kc rfl <| .kc rfl <| .kc rfl .kn) (fun _ h => h)) (fun hg2 => xgF rfl rfl rfl hg2 <| xgF rfl rfl rfl hg2 <| xgF rfl rfl rfl hg2 <| xp rfl (pickT rfl hg2 rfl) <| xl_nil <| xq_or_no hg2 (.kc rfl <| .kc rfl <| .kc rfl .kn) (fun _ h => h)) <| xp rfl (asg rfl) <| xl_nil <| xq_then <| xc_ret <| leave1 (.inl rfl) rfl (.tmp rfl) fun W hW => (⟨rfl, hW.below⟩)

structure SmallIn (cfg : Cfg) (T : List ByteArray) : Prop where
  h : cfg.h ≤ 6
  s : cfg.seed.size ≤ 100
  t : ∀ x ∈ T, x.size ≤ 3000
theorem small_of {cfg : Cfg} {T : List ByteArray} (h : ∀ k, k < T.length → g23 cfg (T.getD k b0) = false) (h0 : g23 cfg ByteArray.empty = false) : SmallIn cfg T :=
  ⟨(g23_no h0).1, (g23_no h0).2.1, fun x hx => by
    obtain ⟨k, hk, rfl⟩ := List.getElem_of_mem hx
    have := (g23_no (h k hk)).2.2
    simpa [List.getD_eq_getElem?_getD, hk] using this⟩

theorem great24_ok {A : Option Addr} {c : Nat} {cfg : Cfg} {T : List ByteArray} {w : World} (hr : rowOf w 1 strC A T) : Ret Tryz.prog 11 [cfg.V, .slice A T.length c] w (fun b : Bool => .bool b) (fun b => b = false → SmallIn cfg T) (fun _ => []) := by
  have hsm := hr.small
  refine begin_ Tryz.func11 rfl rfl rfl ?_
  refine xc_seq <| xc_region <| xe rfl (bx rfl rfl) fun b1 _ => xp rfl (asg rfl) <| xl_nil <| xq_then <| ?_
  refine xc_seq <| xc_seq <| xc_region <| xp rfl (mv rfl) <| xp rfl (lenv Tryz.underlying26 rfl) <| xp rfl (bin rfl rfl bk_gtr) <| xl_nil <| xq_then <| xc_cond rfl (fun hc1 => ?_) (fun hc1 => ?_)
  ·
    refine xc_seq <| xc_region <| xp rfl (asg rfl) <| xl_nil <| xq_then <| xc_ret <| xq_then_ret <| leave1 (.inl rfl) rfl (.tmp rfl) fun W hW => (⟨true, rfl, fun h => absurd h (by decide), hW.sub (List.nil_sublist _)⟩)
  ·
    refine xc_skip <| xq_then <| xc_seq <| xc_seq <| xc_region <| xp rfl (asg rfl) <| xl_nil <| xq_then <| xc_block <| xc_loopP (σ := Nat) (fun k => [(5, .int .i64 k), (1, _), (2, _)]) (fun k => k ≤ T.length ∧ ∀ j, j < k → g23 cfg (T.getD j b0) = false) (fun k => HP w [cellR b1 23 cfg.c]) (fun k => T.length - k) 0 ⟨Nat.zero_le _, fun j h => absurd h (by omega)⟩ (sc rfl <| sc rfl <| sc rfl <| sn) (fun W hW => hW) fun k ⟨hk, hlo⟩ => ?_
    refine xc_seq <| xc_seq <| xc_region <| xp rfl (mv rfl) <| xp rfl (mv rfl) <| xp rfl (lenv Tryz.underlying26 rfl) <| xp rfl (bin rfl rfl bk_lss) <| xl_nil <| xq_then <| xc_cond rfl (fun hc2 => ?_) (fun hc2 => ?_)
    ·
      have hk1 : k < T.length := by have h := of_decide_eq_true hc2; omega
      obtain ⟨b, off, rfl⟩ := hr.addr (by omega)
      refine xc_skip <| xq_then <| xc_seq <| xc_block <| xc_seq <| xc_draw (canon := [(0, .p), (1, .p), (2, .p), (3, .p), (4, .p), (5, .x)]) (Z := HP _ [cellR b1 _ _]) mixed_ rfl (akp <| akp <| akp <| akp <| akp <| akx <| ak0) (zsub (.cons_cons _ <| List.nil_sublist _)) ?_
      refine dp rfl rfl rfl rfl (ld kd_23 rfl .head rfl) <| dp rfl rfl rfl rfl (mv rfl) <| dp rfl rfl rfl rfl (mv rfl) <| dp rfl rfl rfl rfl (ix so_26 rfl rfl (by omega) (by omega)) <| dp rfl rfl rfl rfl (ldc kd_9 rfl (vs := _) (fun W hW => str_at (hr.up hW) hk1 (by simp)) rfl) <| dv rfl rfl rfl (.inl rfl) rfl Tryz.call22 rfl rfl (fun W hW => (great23_ok ⟨cfg.h, cfg.w, cfg.seed⟩ _ W)) (zsub (.cons_cons _ <| List.nil_sublist _)) <| dend <| xq_then <| xc_cond rfl (fun hc3 => ?_) (fun hc3 => ?_)
      ·
        refine xc_seq <| xc_region <| xp rfl (asg rfl) <| xl_nil <| xq_then <| xc_ret <| xq_in_ret <| xq_then_ret <| xq_then_ret <| xq_in_ret <| xq_then_ret <| leave1 (.inl rfl) rfl (.tmp rfl) fun W hW => (⟨true, rfl, fun h => absurd h (by decide), hW.sub (List.nil_sublist _)⟩)
      ·
        refine xc_skip <| xq_in <| xq_then <| xc_region <| xp rfl (mv rfl) <| xp rfl (bin rfl rfl bk_add) <| xp rfl (asg rfl) <| xl_nil <| xq_roundP (k + 1) (⟨by omega, fun j hj => by rcases Nat.lt_or_eq_of_le (Nat.le_of_lt_succ hj) with h | h; exact hlo j h; subst h; exact hc3⟩) (by omega) (sc (iw (by omega) (by omega) (by omega) rfl) <| sc rfl <| sc rfl <| sn) (fun W hW => hW.sub (.refl _))
    ·
      obtain rfl : k = T.length := by have h := of_decide_eq_false hc2; omega
      refine xc_exit <| xq_then_exit <| xq_then_exit <| xq_in_hit <| xq_then <| xc_seq <| xc_region <| xp rfl (ld kd_23 rfl .head rfl) <| xv rfl Tryz.call22 rfl rfl (fun W hW => (great23_ok ⟨cfg.h, cfg.w, cfg.seed⟩ _ W)) <| xp rfl (asg rfl) <| xl_nil <| xq_then <| xc_ret <| leave1 (.inl rfl) rfl (.tmp rfl) fun W hW => (⟨_, rfl, fun h => small_of hlo h, hW.sub (List.nil_sublist _)⟩)

theorem cfg_of_e {cfg : Cfg} (h : cfgE cfg = 0) : CfgOK cfg.h.toNat cfg := by
  unfold cfgE at h
  cases h1 : (decide (cfg.h < 0) || decide (10 < cfg.h)) with
  | true => rw [h1] at h; simp at h
  | false =>
    rw [h1] at h
    simp only [cond_false] at h
    cases h2 : (decide (cfg.w < 1) || decide (32 < cfg.w)) with
    | true => rw [h2] at h; simp at h
    | false =>
      rw [h2] at h
      simp only [cond_false] at h
      cases h3 : decide (64 < (cfg.seed.size : Int)) with
      | true => rw [h3] at h; simp at h
      | false =>
        simp only [Bool.or_eq_false_iff, decide_eq_false_iff_not] at h1 h2 h3
        exact ⟨by omega, by omega, by simp [mayWidthF]; omega, by omega⟩
structure Good2 (cfg : Cfg) (h : Nat) (one other : ByteArray) : Prop where
  c : CfgOK h cfg
  i1 : ImpOK one h
  i2 : ImpOK other h
  r1 : RowsOK h (rowsOf one h)
  r2 : RowsOK h (rowsOf other h)
abbrev sndV (s : Value × Value) : Value := .tuple #[s.1, s.2, .bool false]

theorem two_a {cfg : Cfg} {one other : ByteArray} {w : World} (he0 : cfgE cfg ≠ 0) :
  Ret Tryz.prog 12 [cfg.V, .string one, .string other] w sndV (fun _ => True) (fun _ => []) := by
  refine begin_ Tryz.func12 rfl rfl rfl ?_
  refine xc_seq <| xc_region <| xe rfl (bx rfl rfl) fun b1 _ => xp rfl (asg rfl) <| xp rfl (asg rfl) <| xp rfl (asg rfl) <| xl_nil <| xq_then <| ?_
  refine xc_seq <| xc_region <| xp rfl (ld kd_23 rfl .head rfl) <| xp rfl (mv rfl) <| xv rfl Tryz.call23 rfl rfl (fun W hW => (new_cfg (cfg := ⟨_, _, _⟩) he0)) <| xp rfl (mv rfl) <| xp rfl (ext rfl rfl) <| xp rfl (ext rfl rfl) <| xp rfl (ext rfl rfl) <| xp rfl (asg rfl) <| xp rfl (asg rfl) <| xp rfl (asg rfl) <| xl_nil <| xq_then <| ?_
  refine xc_seq <| xc_seq <| xc_region <| xp rfl (mv rfl) <| xp rfl (bin rfl rfl bk_neq) <| xl_nil <| xq_then <| xc_cond rfl (fun hc1 => ?_) (fun hc1 => ?_)
  ·
    refine xc_seq <| xc_region <| xp rfl (asg rfl) <| xp rfl (asg rfl) <| xp rfl (asg rfl) <| xl_nil <| xq_then <| xc_ret <| xq_then_ret <| leave3 (.inl rfl) rfl (.tmp rfl) (.tmp rfl) (.tmp rfl) fun W hW => (⟨(.pointer none, .pointer none), rfl, trivial, hW.sub (List.nil_sublist _)⟩)
  ·
    exfalso; exact he0 (by simpa using hc1)

theorem two_b {cfg : Cfg} {one other : ByteArray} {w : World} {h ln : Nat} {e : Int} (hG : Glob w) (hc : CfgOK h cfg) (ht : one.size ≤ 4096) (he : (impF one h).1 = some (ln, e)) (he0 : e ≠ 0) :
  Ret Tryz.prog 12 [cfg.V, .string one, .string other] w sndV (fun _ => True) (fun _ => []) := by
  refine begin_ Tryz.func12 rfl rfl rfl ?_
  refine xc_seq <| xc_region <| xe rfl (bx rfl rfl) fun b1 _ => xp rfl (asg rfl) <| xp rfl (asg rfl) <| xp rfl (asg rfl) <| xl_nil <| xq_then <| ?_
  refine xc_seq <| xc_region <| xp rfl (ld kd_23 rfl .head rfl) <| xp rfl (mv rfl) <| xv rfl Tryz.call23 rfl rfl (fun W hW => (new_imp (cfg := ⟨_, _, _⟩) (hG.up hW) hc ht he he0)) <| xp rfl (mv rfl) <| xp rfl (ext rfl rfl) <| xp rfl (ext rfl rfl) <| xp rfl (ext rfl rfl) <| xp rfl (asg rfl) <| xp rfl (asg rfl) <| xp rfl (asg rfl) <| xl_nil <| xq_then <| ?_
  refine xc_seq <| xc_seq <| xc_region <| xp rfl (mv rfl) <| xp rfl (bin rfl rfl bk_neq) <| xl_nil <| xq_then <| xc_cond rfl (fun hc1 => ?_) (fun hc1 => ?_)
  ·
    refine xc_seq <| xc_region <| xp rfl (asg rfl) <| xp rfl (asg rfl) <| xp rfl (asg rfl) <| xl_nil <| xq_then <| xc_ret <| xq_then_ret <| leave3 (.inl rfl) rfl (.tmp rfl) (.tmp rfl) (.tmp rfl) fun W hW => (⟨(.pointer none, .pointer none), rfl, trivial, hW.sub (List.nil_sublist _)⟩)
  ·
    exfalso; exact he0 (by simpa using hc1)

theorem two_c {cfg : Cfg} {one other : ByteArray} {w : World} {h ln : Nat} {e : Int} (hG : Glob w) (hc : CfgOK h cfg) (ht : one.size ≤ 4096) (hi : ImpOK one h) (hr : RowsOK h (rowsOf one h)) (ht2 : other.size ≤ 4096) (he : (impF other h).1 = some (ln, e)) (he0 : e ≠ 0) :
  Ret Tryz.prog 12 [cfg.V, .string one, .string other] w sndV (fun _ => True) (fun _ => []) := by
  refine begin_ Tryz.func12 rfl rfl rfl ?_
  refine xc_seq <| xc_region <| xe rfl (bx rfl rfl) fun b1 _ => xp rfl (asg rfl) <| xp rfl (asg rfl) <| xp rfl (asg rfl) <| xl_nil <| xq_then <| ?_
  refine xc_seq <| xc_region <| xp rfl (ld kd_23 rfl .head rfl) <| xp rfl (mv rfl) <| xr rfl Tryz.call23 rfl rfl (fun W hW => (snew_ok (cfg := ⟨_, _, _⟩) (hG.up hW) hc ht hi hr)) fun s hs => xp rfl (mv rfl) <| xp rfl (ext rfl rfl) <| xp rfl (ext rfl rfl) <| xp rfl (ext rfl rfl) <| xp rfl (asg rfl) <| xp rfl (asg rfl) <| xp rfl (asg rfl) <| xl_nil <| xq_then <| ?_
  refine xc_seq <| xc_seq <| xc_region <| xp rfl (mv rfl) <| xp rfl (bin rfl rfl bk_neq) <| xl_nil <| xq_then <| xc_cond rfl (fun hc1 => ?_) (fun hc1 => ?_)
  ·
    exact absurd hc1 (by decide)
  ·
    refine xc_skip <| xq_then <| xc_seq <| xc_region <| xp rfl (mv rfl) <| xp rfl (mv rfl) <| xv rfl Tryz.call13 rfl rfl (fun W hW => (next_imp (hG.up (hW.sub (List.nil_sublist _))) (snapR_at (hW.mem_ok .head) hs hc.hh) hc ht2 he he0)) <| xp rfl (mv rfl) <| xp rfl (ext rfl rfl) <| xp rfl (ext rfl rfl) <| xp rfl (ext rfl rfl) <| xp rfl (asg rfl) <| xp rfl (asg rfl) <| xp rfl (asg rfl) <| xl_nil <| xq_then <| ?_
    refine xc_seq <| xc_region <| xp rfl (mv rfl) <| xp rfl (mv rfl) <| xp rfl (mv rfl) <| xp rfl (bin rfl rfl bk_eql) <| xp rfl (asg rfl) <| xp rfl (asg rfl) <| xp rfl (asg rfl) <| xl_nil <| xq_then <| xc_ret <| leave3 (.inl rfl) rfl (.tmp rfl) (.tmp rfl) (.tmp rfl) fun W hW => (⟨(.pointer (some ⟨s.sb, 0, none⟩), .pointer none), by rw [show (e == 0) = false from by simpa using he0]; rfl, trivial, hW.sub (List.nil_sublist _)⟩)

theorem two_ok {cfg : Cfg} {one other : ByteArray} {w : World} {h : Nat} (hG : Glob w) (hg : Good2 cfg h one other) (ht : one.size ≤ 4096) (ht2 : other.size ≤ 4096) :
  Ret Tryz.prog 12 [cfg.V, .string one, .string other] w (fun s : SnapV × SnapV => .tuple #[.pointer (some ⟨s.1.sb, 0, none⟩), .pointer (some ⟨s.2.sb, 0, none⟩), .bool true])
    (fun s => SnapPhi cfg h (placeF cfg.seed h [] (rowsOf one h)) s.1 ∧ SnapPhi cfg h (placeF cfg.seed h (placeF cfg.seed h [] (rowsOf one h)) (rowsOf other h)) s.2)
    (fun s => [snapR cfg h (placeF cfg.seed h (placeF cfg.seed h [] (rowsOf one h)) (rowsOf other h)) s.2, snapR cfg h (placeF cfg.seed h [] (rowsOf one h)) s.1]) := by
  refine begin_ Tryz.func12 rfl rfl rfl ?_
  refine xc_seq <| xc_region <| xe rfl (bx rfl rfl) fun b1 _ => xp rfl (asg rfl) <| xp rfl (asg rfl) <| xp rfl (asg rfl) <| xl_nil <| xq_then <| ?_
  refine xc_seq <| xc_region <| xp rfl (ld kd_23 rfl .head rfl) <| xp rfl (mv rfl) <| xr rfl Tryz.call23 rfl rfl (fun W hW => (snew_ok (cfg := ⟨_, _, _⟩) (hG.up hW) hg.c ht hg.i1 hg.r1)) fun s hs => xp rfl (mv rfl) <| xp rfl (ext rfl rfl) <| xp rfl (ext rfl rfl) <| xp rfl (ext rfl rfl) <| xp rfl (asg rfl) <| xp rfl (asg rfl) <| xp rfl (asg rfl) <| xl_nil <| xq_then <| ?_
  refine xc_seq <| xc_seq <| xc_region <| xp rfl (mv rfl) <| xp rfl (bin rfl rfl bk_neq) <| xl_nil <| xq_then <| xc_cond rfl (fun hc1 => ?_) (fun hc1 => ?_)
  ·
    exact absurd hc1 (by decide)
  ·
    refine xc_skip <| xq_then <| xc_seq <| xc_region <| xp rfl (mv rfl) <| xp rfl (mv rfl) <| xr rfl Tryz.call13 rfl rfl (fun W hW => (snext_ok (hG.up (hW.sub (List.nil_sublist _))) (snapR_at (hW.mem_ok .head) hs hg.c.hh) (placeF_ok (acc_nil h cfg.seed) hg.r1).1 hg.c ht2 hg.i2 hg.r2)) fun t hst => xp rfl (mv rfl) <| xp rfl (ext rfl rfl) <| xp rfl (ext rfl rfl) <| xp rfl (ext rfl rfl) <| xp rfl (asg rfl) <| xp rfl (asg rfl) <| xp rfl (asg rfl) <| xl_nil <| xq_then <| ?_
    refine xc_seq <| xc_region <| xp rfl (mv rfl) <| xp rfl (mv rfl) <| xp rfl (mv rfl) <| xp rfl (bin rfl rfl bk_eql) <| xp rfl (asg rfl) <| xp rfl (asg rfl) <| xp rfl (asg rfl) <| xl_nil <| xq_then <| xc_ret <| leave3 (.inl rfl) rfl (.tmp rfl) (.tmp rfl) (.tmp rfl) fun W hW => (⟨(s, t), rfl, ⟨hs, hst⟩, hW.sub (.cons_cons _ <| .cons_cons _ <| List.nil_sublist _)⟩)

theorem two_no {cfg : Cfg} {one other : ByteArray} {w : World} (hG : Glob w) (ht : one.size ≤ 4096) (ht2 : other.size ≤ 4096) (hn : ¬ ∃ h, Good2 cfg h one other) : Ret Tryz.prog 12 [cfg.V, .string one, .string other] w sndV (fun _ => True) (fun _ => []) := by
  by_cases h0 : cfgE cfg = 0
  · have hc := cfg_of_e h0
    rcases imp_cases (h := cfg.h.toNat) ht with ⟨ln, e, he, he0⟩ | ⟨hi, hr⟩
    · exact two_b hG hc ht he he0
    · rcases imp_cases (h := cfg.h.toNat) ht2 with ⟨ln, e, he, he0⟩ | ⟨hi2, hr2⟩
      · exact two_c hG hc ht hi hr ht2 he he0
      · exact absurd ⟨_, hc, hi, hi2, hr, hr2⟩ hn
  · exact two_a h0

end Go.Eng
end
section
namespace Go.Eng
open Go Go.RowKit Go.Proofs
set_option linter.unusedVariables false
set_option linter.unusedSimpArgs false
set_option maxRecDepth 4000
theorem chK : ∀ p : Pr, (chC p).length = 6 := fun _ => rfl
theorem ch_at {W : World} {b off : Nat} {l : List Pr} (h : rowOf W 6 chC (some ⟨b, off, none⟩) l) {k : Nat} (hk : k < l.length) {o : Nat} (ho : o = off + k * 6) : Cells W b o (chC (l.getD k pr0)) := by
  have e : l.getD k pr0 = l[k] := by simp [List.getD_eq_getElem?_getD, hk]
  rw [e, ho]; exact h.cells_at chK k hk
theorem chw_at {W : World} {b c k o : Nat} {l : List Pr} (h : (ownR 42 6 (.slice (some ⟨b, 0, none⟩) l.length c) l.length (l.flatMap chC)).ok W) (hk : k < l.length) (ho : o = 0 + k * 6 + 1) : Cells W b o [.int .u8 (prWhat (l.getD k pr0)), hiV (l.getD k pr0).a.bal, loV (l.getD k pr0).a.bal, hiV (l.getD k pr0).b.bal, loV (l.getD k pr0).b.bal] :=
  fun i u hu => by
    have h1 := ch_at (o := 0 + k * 6) (ownR_rowOf h) hk rfl (i + 1) u (by simpa using hu)
    rw [← h1, ho, show 0 + k * 6 + 1 + i = 0 + k * 6 + (i + 1) by omega]
theorem sum_of_bal {l m : List Ac} (h : l.map idBal = m.map idBal) : (l.map Ac.bal).sum = (m.map Ac.bal).sum := by
  have h2 : l.map Ac.bal = m.map Ac.bal := by have := congrArg (List.map Prod.snd) h; rw [List.map_map, List.map_map] at this; exact this
  rw [h2]

theorem ub_true {cfg : Cfg} {one other : ByteArray} {w : World} (hG : Glob w) (haw : ∀ W, Glob W → RetV Tryz.prog 10 [] W (.bool true)) : RetV Tryz.prog 3 [cfg.V, .string one, .string other] w (.bool true) := by
  refine begin_ Tryz.func3 rfl rfl rfl ?_
  -- REG 1 res []
  refine xc_seq <| xc_region <| xe rfl (bx rfl rfl) fun b1 _ => xp rfl (asg rfl) <| xl_nil <| xq_then <| ?_
  -- REG 2 res ['b1']
  refine xc_seq <| xc_seq <| xc_region <| xv rfl Tryz.call10 rfl rfl (fun W hW => (haw W (hG.up hW))) <| xp rfl (un rfl uk_not) <| xl_nil <| xq_then <| xc_cond rfl (fun hc1 => ?_) (fun hc1 => ?_)
  ·
    cases hc1
  ·
    -- REG 3 res ['b1']
    refine xc_skip <| xq_then <| xc_seq <| xc_seq <| xc_region <| xp rfl (ld kd_23 rfl .head rfl) <| xp rfl (mv rfl) <| xp rfl (mv rfl) <| xe rfl (bs rfl bs_26_2) fun b2 _ => xr rfl Tryz.call11 rfl rfl (fun W hW => (great24_ok (cfg := ⟨cfg.h, cfg.w, cfg.seed⟩) (T := [one, other]) (row_of_cell strK hW .head (by simp)))) fun g hgr => xl_nil <| xq_then <| xc_cond rfl (fun hc2 => ?_) (fun hc2 => ?_)
    ·
      -- REG 4 res ['b2', 'b1']
      refine xc_seq <| xc_region <| xp rfl (asg rfl) <| xl_nil <| xq_then <| xc_ret <| xq_then_ret <| leave1 (.inl rfl) rfl (.tmp rfl) fun W hW => (⟨rfl, hW.below⟩)
    ·
      have hsm := hgr hc2
      have hs1 : one.size ≤ 4096 := by have := hsm.t one (by simp); omega
      have hs2 : other.size ≤ 4096 := by have := hsm.t other (by simp); omega
      refine xc_skip <| xq_then <| xc_seq <| xc_em (∃ h, Good2 cfg h one other) (fun hgd => ?_) (fun hgd => ?_)
      ·
        obtain ⟨h, hg⟩ := hgd
        have pl1 := placeF_ok (acc_nil h cfg.seed) hg.r1
        have pl2 := placeF_ok pl1.1 hg.r2
        have pl3 := placeF_ok pl2.1 hg.r1
        have hag := again_same pl1.1 hg.r1 pl1.2.1
        have hbm := pl3.2.1.trans pl1.2.1.symm
        have hnb := newsF_same hbm.symm
        have hsum : (rootF cfg.w cfg.seed h (placeF cfg.seed h (placeF cfg.seed h (placeF cfg.seed h [] (rowsOf one h)) (rowsOf other h)) (rowsOf one h))).sum = (rootF cfg.w cfg.seed h (placeF cfg.seed h [] (rowsOf one h))).sum := by rw [rootF_sum pl3.1, rootF_sum pl1.1, sum_of_bal hbm]
        have hp2 := pow_small hg.c.hh
        have n1l := pl1.1.len
        have n2l := pl2.1.len
        have n3l := pl3.1.len
        have hlA : (placeF cfg.seed h [] (rowsOf one h)).length + (placeF cfg.seed h (placeF cfg.seed h (placeF cfg.seed h [] (rowsOf one h)) (rowsOf other h)) (rowsOf one h)).length ≤ 100000 := by omega
        have hlB : (placeF cfg.seed h [] (rowsOf one h)).length + (placeF cfg.seed h (placeF cfg.seed h [] (rowsOf one h)) (rowsOf other h)).length ≤ 100000 := by omega
        have hnl : (newsF (placeF cfg.seed h [] (rowsOf one h)) (placeF cfg.seed h (placeF cfg.seed h [] (rowsOf one h)) (rowsOf other h))).length ≤ 100000 := Nat.le_trans (List.length_filter_le _ _) (Nat.le_trans (mergeF_len _ _) hlB)
        -- REG 5 res ['b2', 'b1']
        refine xc_region <| xp rfl (ld kd_23 rfl (.tail .head) rfl) <| xp rfl (mv rfl) <| xp rfl (mv rfl) <| xr rfl Tryz.call12 rfl rfl (fun W hW => (two_ok (cfg := ⟨cfg.h, cfg.w, cfg.seed⟩) (hG.up hW) hg hs1 hs2)) fun q hq => xp rfl (mv rfl) <| xp rfl (ext rfl rfl) <| xp rfl (ext rfl rfl) <| xp rfl (ext rfl rfl) <| xp rfl (asg rfl) <| xp rfl (asg rfl) <| xp rfl (asg rfl) <| xl_nil <| xq_then <| ?_
        -- REG 6 res ['sB', 'sA', 'b2', 'b1']
        refine xc_seq <| xc_seq <| xc_region <| xp rfl (mv rfl) <| xp rfl (un rfl uk_not) <| xl_nil <| xq_then <| xc_cond rfl (fun hc3 => ?_) (fun hc3 => ?_)
        ·
          cases hc3
        ·
          -- REG 7 res ['sB', 'sA', 'b2', 'b1']
          refine xc_skip <| xq_then <| xc_seq <| xc_region <| xp rfl (mv rfl) <| xp rfl (mv rfl) <| xr rfl Tryz.call13 rfl rfl (fun W hW => (by have hx := snext_ok (hG.up (hW.sub (List.nil_sublist _))) (snapR_at (hW.mem_ok (.tail <| .head)) hq.1 hg.c.hh) pl1.1 hg.c hs1 hg.i1 hg.r1; rw [hag] at hx; exact hx)) fun s hs => xp rfl (mv rfl) <| xp rfl (ext rfl rfl) <| xp rfl (ext rfl rfl) <| xp rfl (ext rfl rfl) <| xp rfl (asg rfl) <| xp rfl (asg rfl) <| xp rfl (asg rfl) <| xl_nil <| xq_then <| ?_
          -- REG 8 res ['sC', 'sB', 'sA', 'b2', 'b1']
          refine xc_seq <| xc_region <| xp rfl (mv rfl) <| xp rfl (mv rfl) <| xr rfl Tryz.call13 rfl rfl (fun W hW => (snext_ok (hG.up (hW.sub (List.nil_sublist _))) (snapR_at (hW.mem_ok (.tail <| .head)) hq.2 hg.c.hh) pl2.1 hg.c hs1 hg.i1 hg.r1)) fun t ht => xp rfl (mv rfl) <| xp rfl (ext rfl rfl) <| xp rfl (ext rfl rfl) <| xp rfl (ext rfl rfl) <| xp rfl (asg rfl) <| xp rfl (asg rfl) <| xp rfl (asg rfl) <| xl_nil <| xq_then <| ?_
          -- REG 9 res ['sD', 'sC', 'sB', 'sA', 'b2', 'b1']
          refine xc_seq <| xc_seq <| xc_region <| xp rfl (mv rfl) <| xp rfl (bin rfl rfl bk_neq) <| xp rfl (mv rfl) <| xgT rfl rfl rfl (by decide) <| xp rfl (mv rfl) <| xgT rfl rfl rfl (by decide) <| xp rfl (bin rfl rfl bk_neq) <| xp rfl (pickF rfl (by decide) rfl) <| xp rfl (mv rfl) <| xgT rfl rfl rfl (by decide) <| xp rfl (mv rfl) <| xgT rfl rfl rfl (by decide) <| xv rfl Tryz.call14 rfl rfl (fun W hW => (sroot_ok (snapR_at (hW.mem_ok (.tail <| .head)) hs hg.c.hh))) <| xgT rfl rfl rfl (by decide) <| xp rfl (mv rfl) <| xgT rfl rfl rfl (by decide) <| xv rfl Tryz.call14 rfl rfl (fun W hW => (sroot_ok (snapR_at (hW.mem_ok (.tail <| .tail <| .tail <| .head)) hq.1 hg.c.hh))) <| xgT rfl rfl rfl (by decide) <| xp rfl (bin rfl rfl bk_aggneq_37) <| xp rfl (pickF rfl (by decide) rfl) <| xp rfl (mv rfl) <| xgT rfl rfl rfl (by simp) <| xp rfl (mv rfl) <| xgT rfl rfl rfl (by simp) <| xv rfl Tryz.call14 rfl rfl (fun W hW => (sroot_ok (snapR_at (hW.mem_ok .head) ht hg.c.hh))) <| xgT rfl rfl rfl (by simp) <| xp rfl (fd fd_37_1 rfl) <| xgT rfl rfl rfl (by simp) <| xp rfl (mv rfl) <| xgT rfl rfl rfl (by simp) <| xv rfl Tryz.call14 rfl rfl (fun W hW => (sroot_ok (snapR_at (hW.mem_ok (.tail <| .tail <| .tail <| .head)) hq.1 hg.c.hh))) <| xgT rfl rfl rfl (by simp) <| xp rfl (fd fd_37_1 rfl) <| xgT rfl rfl rfl (by simp) <| xp rfl (bin rfl rfl bk_aggneq_35) <| xp rfl (pickF rfl (by simp) rfl) <| xp rfl (mv rfl) <| xgT rfl rfl rfl (by rw [hsum]; simp) <| xp rfl (mv rfl) <| xgT rfl rfl rfl (by rw [hsum]; simp) <| xp rfl (mv rfl) <| xgT rfl rfl rfl (by rw [hsum]; simp) <| xr rfl Tryz.call15 rfl rfl (fun W hW => (news_ok (snapR_at (hW.mem_ok (.tail <| .tail <| .tail <| .head)) hq.1 hg.c.hh) (snapR_at (hW.mem_ok .head) ht hg.c.hh) hlA)) fun n1 _ => xgT rfl rfl rfl (by rw [hsum]; simp) <| xp rfl (lenv Tryz.underlying39 rfl) <| xgT rfl rfl rfl (by rw [hsum]; simp) <| xp rfl (bin rfl rfl bk_neq) <| xp rfl (pickF rfl (by rw [hsum]; simp) rfl) <| xl_nil <| xq_then <| xc_cond rfl (fun hc4 => ?_) (fun hc4 => ?_)
          ·
            exfalso; rw [hnb] at hc4; cases hc4
          ·
            -- REG 10 res ['n1', 'sD', 'sC', 'sB', 'sA', 'b2', 'b1']
            refine xc_skip <| xq_then <| xc_seq <| xc_region <| xp rfl (asg rfl) <| xl_nil <| xq_then <| ?_
            -- REG 11 res ['n1', 'sD', 'sC', 'sB', 'sA', 'b2', 'b1']
            refine xc_seq <| xc_region <| xp rfl (mv rfl) <| xp rfl (mv rfl) <| xr rfl Tryz.call15 rfl rfl (fun W hW => (news_ok (snapR_at (hW.mem_ok (.tail <| .tail <| .tail <| .tail <| .head)) hq.1 hg.c.hh) (snapR_at (hW.mem_ok (.tail <| .tail <| .tail <| .head)) hq.2 hg.c.hh) hlB)) fun n2 _ => xp rfl (asg rfl) <| xl_nil <| xq_then <| ?_
            -- REG 12 res ['n2', 'n1', 'sD', 'sC', 'sB', 'sA', 'b2', 'b1']
            refine xc_seq <| xc_seq <| xc_region <| xp rfl (asg rfl) <| xl_nil <| xq_then <| xc_block <| xc_loopP (σ := Nat × Bool) (fun p => [(16, .bool p.2), (18, .int .i64 p.1), (7, _), (13, _), (17, _)]) (fun p => p.1 ≤ (newsF (placeF cfg.seed h [] (rowsOf one h)) (placeF cfg.seed h (placeF cfg.seed h [] (rowsOf one h)) (rowsOf other h))).length ∧ (p.2 = false → ∀ j, j < p.1 → prWhat ((newsF (placeF cfg.seed h [] (rowsOf one h)) (placeF cfg.seed h (placeF cfg.seed h [] (rowsOf one h)) (rowsOf other h))).getD j pr0) ≠ 2)) (fun p => HP w [ownR 42 6 (.slice n2.1 (newsF (placeF cfg.seed h [] (rowsOf one h)) (placeF cfg.seed h (placeF cfg.seed h [] (rowsOf one h)) (rowsOf other h))).length n2.2) (newsF (placeF cfg.seed h [] (rowsOf one h)) (placeF cfg.seed h (placeF cfg.seed h [] (rowsOf one h)) (rowsOf other h))).length ((newsF (placeF cfg.seed h [] (rowsOf one h)) (placeF cfg.seed h (placeF cfg.seed h [] (rowsOf one h)) (rowsOf other h))).flatMap chC), snapR cfg h (placeF cfg.seed h (placeF cfg.seed h (placeF cfg.seed h [] (rowsOf one h)) (rowsOf other h)) (rowsOf one h)) t, snapR cfg h (placeF cfg.seed h [] (rowsOf one h)) q.1]) (fun p => (newsF (placeF cfg.seed h [] (rowsOf one h)) (placeF cfg.seed h (placeF cfg.seed h [] (rowsOf one h)) (rowsOf other h))).length - p.1) (0, false) ⟨Nat.zero_le _, fun _ j h => absurd h (by simp)⟩ (sc rfl <| sc rfl <| sc rfl <| sc rfl <| sc rfl <| sn) (fun W hW => hW.sub (.cons_cons _ <| .cons _ <| .cons_cons _ <| .cons _ <| .cons _ <| .cons_cons _ <| List.nil_sublist _)) fun p ⟨hk, hlo⟩ => ?_
            obtain ⟨k, g⟩ := p
            simp only at hk hlo
            dsimp only
            -- REG 13 res ['n2', 'sD', 'sA']
            refine xc_seq <| xc_seq <| xc_region <| xp rfl (mv rfl) <| xp rfl (mv rfl) <| xp rfl (lenv Tryz.underlying39 rfl) <| xp rfl (bin rfl rfl bk_lss) <| xl_nil <| xq_then <| xc_cond rfl (fun hc5 => ?_) (fun hc5 => ?_)
            ·
              have hk1 : k < (newsF (placeF cfg.seed h [] (rowsOf one h)) (placeF cfg.seed h (placeF cfg.seed h [] (rowsOf one h)) (rowsOf other h))).length := by have h1 := of_decide_eq_true hc5; omega
              refine xc_skip <| xq_then <| xc_seq <| xc_block <| xc_em (g = true) (fun hgt => ?_) (fun hgt => ?_)
              ·
                refine xc_row .head (by omega) fun nb hnb hnc => ?_
                obtain ⟨n2a, n2b⟩ := n2
                simp only at hnb
                subst hnb
                dsimp only
                -- REG 14 res ['n2', 'sD', 'sA']
                refine xc_region <| xp rfl (mv rfl) <| xp rfl (mv rfl) <| xgF rfl rfl rfl hgt <| xgF rfl rfl rfl hgt <| xgF rfl rfl rfl hgt <| xgF rfl rfl rfl hgt <| xgF rfl rfl rfl hgt <| xgF rfl rfl rfl hgt <| xp rfl (pickT rfl hgt rfl) <| xp rfl (asg rfl) <| xl_nil <| xq_in <| xq_then <| ?_
                -- REG 15 res ['n2', 'sD', 'sA']
                refine xc_region <| xp rfl (mv rfl) <| xp rfl (bin rfl rfl bk_add) <| xp rfl (asg rfl) <| xl_nil <| xq_roundP (k + 1, true) (⟨hk1, fun h => absurd h (by simp)⟩) (by simp only; omega) (sc rfl <| sc (iw (by omega) (by omega) (by omega) rfl) <| sc rfl <| sc rfl <| sc rfl <| sn) (fun W hW => hW.sub (.refl _))
              ·
                refine xc_row .head (by omega) fun nb hnb hnc => ?_
                obtain ⟨n2a, n2b⟩ := n2
                simp only at hnb
                subst hnb
                dsimp only
                -- REG 14 res ['n2', 'sD', 'sA']
                refine xc_region <| xp rfl (mv rfl) <| xp rfl (mv rfl) <| xgT rfl rfl rfl (Bool.eq_false_iff.2 hgt) <| xp rfl (mv rfl) <| xgT rfl rfl rfl (Bool.eq_false_iff.2 hgt) <| xp rfl (mv rfl) <| xgT rfl rfl rfl (Bool.eq_false_iff.2 hgt) <| xp rfl (ix so_39 rfl rfl (by omega) (by omega)) <| xgT rfl rfl rfl (Bool.eq_false_iff.2 hgt) <| xp rfl (fa fa_42_1 rfl) <| xgT rfl rfl rfl (Bool.eq_false_iff.2 hgt) <| xp rfl (ldc kd_5 rfl (vs := _) (fun W hW => chw_at (hW.mem_ok .head) hk1 (by simp)) rfl) <| xgT rfl rfl rfl (Bool.eq_false_iff.2 hgt) <| xp rfl (bin rfl rfl bk_eql) <| xp rfl (pickF rfl (Bool.eq_false_iff.2 hgt) rfl) <| xp rfl (asg rfl) <| xl_nil <| xq_in <| xq_then <| ?_
                -- REG 15 res ['n2', 'sD', 'sA']
                refine xc_region <| xp rfl (mv rfl) <| xp rfl (bin rfl rfl bk_add) <| xp rfl (asg rfl) <| xl_nil <| xq_roundP (k + 1, prWhat ((newsF (placeF cfg.seed h [] (rowsOf one h)) (placeF cfg.seed h (placeF cfg.seed h [] (rowsOf one h)) (rowsOf other h))).getD k pr0) == 2) (⟨hk1, fun h j hj => by rcases Nat.lt_or_eq_of_le (Nat.le_of_lt_succ hj) with h3 | h3; exact hlo (Bool.eq_false_iff.2 hgt) j h3; subst h3; simpa using h⟩) (by simp only; omega) (sc rfl <| sc (iw (by omega) (by omega) (by omega) rfl) <| sc rfl <| sc rfl <| sc rfl <| sn) (fun W hW => hW.sub (.refl _))
            ·
              obtain rfl : k = (newsF (placeF cfg.seed h [] (rowsOf one h)) (placeF cfg.seed h (placeF cfg.seed h [] (rowsOf one h)) (rowsOf other h))).length := by have h1 := of_decide_eq_false hc5; omega
              have hbl : g = false → (placeF cfg.seed h (placeF cfg.seed h (placeF cfg.seed h [] (rowsOf one h)) (rowsOf other h)) (rowsOf one h)) = (placeF cfg.seed h [] (rowsOf one h)) := fun hgf => back_same pl1.1 hg.r1 hg.r2 pl1.2.1 (fun p hp => by obtain ⟨j, hj, e⟩ := List.getElem_of_mem hp; have h1 := hlo hgf j hj; rw [List.getD_eq_getElem?_getD, List.getElem?_eq_getElem hj] at h1; rw [← e]; exact h1)
              refine xc_exit <| xq_then_exit <| xq_then_exit <| xq_in_hit <| xq_then <| xc_seq <| xc_em (g = true) (fun hgz => ?_) (fun hgz => ?_)
              ·
                -- REG 16 res ['n2', 'sD', 'sA']
                refine xc_region <| xp rfl (mv rfl) <| xp rfl (mv rfl) <| xgF rfl rfl rfl hgz <| xgF rfl rfl rfl hgz <| xgF rfl rfl rfl hgz <| xgF rfl rfl rfl hgz <| xgF rfl rfl rfl hgz <| xgF rfl rfl rfl hgz <| xgU rfl rfl rfl <| xgU rfl rfl rfl <| xgU rfl rfl rfl <| xgU rfl rfl rfl <| xgU rfl rfl rfl <| xgF rfl rfl rfl hgz <| xp rfl (pickT rfl hgz rfl) <| xp rfl (asg rfl) <| xl_nil <| xq_then <| xc_ret <| leave1 (.inl rfl) rfl (.tmp rfl) fun W hW => (⟨rfl, hW.below⟩)
              ·
                -- REG 16 res ['n2', 'sD', 'sA']
                refine xc_region <| xp rfl (mv rfl) <| xp rfl (mv rfl) <| xgT rfl rfl rfl (Bool.eq_false_iff.2 hgz) <| xp rfl (mv rfl) <| xgT rfl rfl rfl (Bool.eq_false_iff.2 hgz) <| xv rfl Tryz.call14 rfl rfl (fun W hW => (sroot_ok (snapR_at (hW.mem_ok (.tail <| .head)) ht hg.c.hh))) <| xgT rfl rfl rfl (Bool.eq_false_iff.2 hgz) <| xp rfl (mv rfl) <| xgT rfl rfl rfl (Bool.eq_false_iff.2 hgz) <| xv rfl Tryz.call14 rfl rfl (fun W hW => (sroot_ok (snapR_at (hW.mem_ok (.tail <| .tail <| .head)) hq.1 hg.c.hh))) <| xgT rfl rfl rfl (Bool.eq_false_iff.2 hgz) <| xp rfl (bin rfl rfl bk_aggeql_37) <| xgT rfl rfl rfl (Bool.eq_false_iff.2 hgz) <| xp rfl (mv rfl) <| xgT rfl rfl rfl (by rw [hbl (Bool.eq_false_iff.2 hgz)]; simp) <| xp rfl (mv rfl) <| xgT rfl rfl rfl (by rw [hbl (Bool.eq_false_iff.2 hgz)]; simp) <| xp rfl (mv rfl) <| xgT rfl rfl rfl (by rw [hbl (Bool.eq_false_iff.2 hgz)]; simp) <| xr rfl Tryz.call16 rfl rfl (fun W hW => (moved_ok (snapR_at (hW.mem_ok (.tail <| .tail <| .head)) hq.1 hg.c.hh) (snapR_at (hW.mem_ok (.tail <| .head)) ht hg.c.hh) hlA)) fun mv _ => xgT rfl rfl rfl (by rw [hbl (Bool.eq_false_iff.2 hgz)]; simp) <| xp rfl (lenv Tryz.underlying26 rfl) <| xgT rfl rfl rfl (by rw [hbl (Bool.eq_false_iff.2 hgz)]; simp) <| xp rfl (bin rfl rfl bk_eql) <| xgT rfl rfl rfl (Bool.eq_false_iff.2 hgz) <| xp rfl (pickT rfl (by rw [hbl (Bool.eq_false_iff.2 hgz)]; simp) rfl) <| xp rfl (pickF rfl (Bool.eq_false_iff.2 hgz) rfl) <| xp rfl (asg rfl) <| xl_nil <| xq_then <| xc_ret <| leave1 (.inl rfl) rfl (.tmp rfl) fun W hW => (⟨by rw [hbl (Bool.eq_false_iff.2 hgz), movedF_self]; rfl, hW.below⟩)
      ·
        -- REG 5 res ['b2', 'b1']
        refine xc_region <| xp rfl (ld kd_23 rfl (.tail .head) rfl) <| xp rfl (mv rfl) <| xp rfl (mv rfl) <| xr rfl Tryz.call12 rfl rfl (fun W hW => (two_no (cfg := ⟨cfg.h, cfg.w, cfg.seed⟩) (hG.up hW) hs1 hs2 hgd)) fun q hq => xp rfl (mv rfl) <| xp rfl (ext rfl rfl) <| xp rfl (ext rfl rfl) <| xp rfl (ext rfl rfl) <| xp rfl (asg rfl) <| xp rfl (asg rfl) <| xp rfl (asg rfl) <| xl_nil <| xq_then <| ?_
        -- REG 6 res ['b2', 'b1']
        refine xc_seq <| xc_seq <| xc_region <| xp rfl (mv rfl) <| xp rfl (un rfl uk_not) <| xl_nil <| xq_then <| xc_cond rfl (fun hc6 => ?_) (fun hc6 => ?_)
        ·
          -- REG 7 res ['b2', 'b1']
          refine xc_seq <| xc_region <| xp rfl (asg rfl) <| xl_nil <| xq_then <| xc_ret <| xq_then_ret <| leave1 (.inl rfl) rfl (.tmp rfl) fun W hW => (⟨rfl, hW.below⟩)
        ·
          cases hc6

end Go.Eng
end
section
namespace Go.Eng
open Go Go.RowKit Go.Proofs
set_option linter.unusedVariables false
set_option linter.unusedSimpArgs false
/-! # The chapter's example -/
def cfgA : Cfg := ⟨1, 4, ⟨#[115]⟩⟩
def tx0 : ByteArray := ⟨#[97, 32, 49, 10, 98, 32, 50]⟩
def tx1 : ByteArray := ⟨#[98, 32, 50, 10, 99, 32, 51]⟩
def tx2 : ByteArray := ⟨#[98, 32, 57, 10, 99, 32, 51]⟩
def tx3 : ByteArray := ⟨#[63]⟩
def txA : List ByteArray := [tx0, tx1, tx2, tx3]
def A_ : ByteArray := ⟨#[97]⟩
def B_ : ByteArray := ⟨#[98]⟩
def C_ : ByteArray := ⟨#[99]⟩
def Z_ : ByteArray := ⟨#[122]⟩
theorem cfgA_ok : CfgOK 1 cfgA := ⟨by decide, rfl, by decide, by decide⟩
theorem im0 : ImpOK tx0 1 := by show (impF tx0 1).1 = none; kernel_rfl
theorem im1 : ImpOK tx1 1 := by show (impF tx1 1).1 = none; kernel_rfl
theorem im2 : ImpOK tx2 1 := by show (impF tx2 1).1 = none; kernel_rfl
theorem im3 : (impF tx3 1).1 = some (1, lnE ⟨1, tx3⟩) := by kernel_rfl
theorem im3e : lnE ⟨1, tx3⟩ ≠ 0 := by
  have : (lnE ⟨1, tx3⟩ == 0) = false := by kernel_rfl
  simpa using this
theorem rq0_ : (impF tx0 1).2 = [⟨A_, 1⟩, ⟨B_, 2⟩] := by kernel_rfl
theorem rw0_ : rowsOf tx0 1 = [⟨A_, 1⟩, ⟨B_, 2⟩] := by
  rw [rowsOf, rq0_]; exact byKey_self (.cons (fun a ha => by rw [List.mem_singleton.1 ha]; show idLt A_ B_ = true; kernel_rfl) (.cons (fun a ha => by cases ha) .nil))
theorem rq1_ : (impF tx1 1).2 = [⟨B_, 2⟩, ⟨C_, 3⟩] := by kernel_rfl
theorem rw1_ : rowsOf tx1 1 = [⟨B_, 2⟩, ⟨C_, 3⟩] := by
  rw [rowsOf, rq1_]; exact byKey_self (.cons (fun a ha => by rw [List.mem_singleton.1 ha]; show idLt B_ C_ = true; kernel_rfl) (.cons (fun a ha => by cases ha) .nil))
theorem rq2_ : (impF tx2 1).2 = [⟨B_, 9⟩, ⟨C_, 3⟩] := by kernel_rfl
theorem rw2_ : rowsOf tx2 1 = [⟨B_, 9⟩, ⟨C_, 3⟩] := by
  rw [rowsOf, rq2_]; exact byKey_self (.cons (fun a ha => by rw [List.mem_singleton.1 ha]; show idLt B_ C_ = true; kernel_rfl) (.cons (fun a ha => by cases ha) .nil))
theorem rowsOK_of {t : ByteArray} {h : Nat} (ht : t.size ≤ 4096) (hi : ImpOK t h) : RowsOK h (rowsOf t h) := by
  rcases imp_cases (h := h) ht with ⟨ln, e, he, _⟩ | ⟨_, hr⟩
  · rw [ImpOK, he] at hi; cases hi
  · exact hr
theorem ro0 : RowsOK 1 (rowsOf tx0 1) := rowsOK_of (by decide) im0
theorem ro1 : RowsOK 1 (rowsOf tx1 1) := rowsOK_of (by decide) im1
theorem ro2 : RowsOK 1 (rowsOf tx2 1) := rowsOK_of (by decide) im2
theorem goodA : ∀ k, k < 3 → ImpOK (txA.getD k b0) 1 ∧ RowsOK 1 (rowsOf (txA.getD k b0) 1)
  | 0, _ => ⟨im0, ro0⟩
  | 1, _ => ⟨im1, ro1⟩
  | 2, _ => ⟨im2, ro2⟩
  | k + 3, h => absurd h (by omega)
noncomputable abbrev LA0 : List Ac := chainL cfgA 1 txA 0
noncomputable abbrev LA1 : List Ac := chainL cfgA 1 txA 1
noncomputable abbrev LA2 : List Ac := chainL cfgA 1 txA 2
theorem two_of {l : List Ac} {a b : ByteArray × Nat} (h : l.map idBal = [a, b]) : ∃ x y, l = [x, y] ∧ idBal x = a ∧ idBal y = b := by
  match l, h with
  | [x, y], h => simp only [List.map_cons, List.map_nil, List.cons.injEq] at h; exact ⟨x, y, rfl, h.1, h.2.1⟩
structure ExA (x y z y2 : Ac) : Prop where
  l0 : LA0 = [x, y]
  l1 : LA1 = [y, z]
  l2 : LA2 = [y2, z]
  x1 : x.id = A_ ∧ x.bal = 1
  y1 : y.id = B_ ∧ y.bal = 2
  z1 : z.id = C_ ∧ z.bal = 3
  w1 : y2.id = B_ ∧ y2.bal = 9
theorem ac_ext {a b : Ac} (h1 : a.id = b.id) (h2 : a.bal = b.bal) (h3 : a.salt = b.salt) (h4 : a.slot = b.slot) : a = b := by
  cases a; cases b; simp only at *; subst h1; subst h2; subst h3; subst h4; rfl
theorem exA : ∃ x y z y2, ExA x y z y2 := by
  have p0 := placeF_ok (acc_nil 1 cfgA.seed) ro0
  have p1 := placeF_ok p0.1 ro1
  have p2 := placeF_ok p1.1 ro2
  have e0 := p0.2.1.trans (congrArg (List.map idAmt) rw0_)
  have e1 := p1.2.1.trans (congrArg (List.map idAmt) rw1_)
  have e2 := p2.2.1.trans (congrArg (List.map idAmt) rw2_)
  obtain ⟨x, y, l0, hx, hy⟩ := two_of e0
  obtain ⟨y', z, l1, hy', hz⟩ := two_of e1
  obtain ⟨y2, z', l2, hy2, hz'⟩ := two_of e2
  simp only [idBal, idAmt, Prod.mk.injEq] at hx hy hy' hz hy2 hz'
  have m0 : ∀ a, a ∈ placeF cfgA.seed 1 [] (rowsOf tx0 1) ↔ a ∈ [x, y] := fun a => by rw [← l0]
  have m1 : ∀ a, a ∈ placeF cfgA.seed 1 (placeF cfgA.seed 1 [] (rowsOf tx0 1)) (rowsOf tx1 1) ↔ a ∈ [y', z] := fun a => by rw [← l1]
  have m2 : ∀ a, a ∈ placeF cfgA.seed 1 (placeF cfgA.seed 1 (placeF cfgA.seed 1 [] (rowsOf tx0 1)) (rowsOf tx1 1)) (rowsOf tx2 1) ↔ a ∈ [y2, z'] := fun a => by rw [← l2]
  have ey : y' = y := ac_ext (by rw [hy'.1, hy.1]) (by rw [hy'.2, hy.2]) (by rw [p1.1.salt y' ((m1 _).2 (by simp)), p0.1.salt y ((m0 _).2 (by simp)), hy'.1, hy.1]) (p1.2.2 y' ((m1 _).2 (by simp)) y ((m0 _).2 (by simp)) (by rw [hy'.1, hy.1]))
  have ez : z' = z := ac_ext (by rw [hz'.1, hz.1]) (by rw [hz'.2, hz.2]) (by rw [p2.1.salt z' ((m2 _).2 (by simp)), p1.1.salt z ((m1 _).2 (by simp)), hz'.1, hz.1]) (p2.2.2 z' ((m2 _).2 (by simp)) z ((m1 _).2 (by simp)) (by rw [hz'.1, hz.1]))
  subst ey; subst ez
  exact ⟨x, y', z', y2, l0, l1, l2, hx, hy, hz, hy2⟩
theorem accA (k : Nat) (hk : k < 3) : AccOK 1 cfgA.seed (chainL cfgA 1 txA k) := chain_acc (n := 3) (fun k hk => (goodA k hk).2) k hk
end Go.Eng
end
section
namespace Go.Eng
open Go Go.RowKit Go.Proofs
set_option linter.unusedVariables false
set_option linter.unusedSimpArgs false
set_option maxRecDepth 4000
theorem lt_ab : idLt A_ B_ = true := by kernel_rfl
theorem lt_bc : idLt B_ C_ = true := by kernel_rfl
theorem ne_ab : (A_.toList == B_.toList) = false := by kernel_rfl
theorem ne_bz : (B_.toList == Z_.toList) = false := by kernel_rfl
theorem ne_cz : (C_.toList == Z_.toList) = false := by kernel_rfl
theorem ne_cb : (C_.toList == B_.toList) = false := by kernel_rfl
section
variable {x y z y2 : Ac} (ex : ExA x y z y2)
  include ex
theorem ex_mg : mergeF LA0 LA1 = [⟨x, ac0, 1⟩, ⟨y, y, 3⟩, ⟨ac0, z, 2⟩] := by
  rw [ex.l0, ex.l1, mg_lt (by rw [ex.x1.1, ex.y1.1]; exact lt_ab), mg_eq rfl, mg_two, mergeF]
theorem ex_news : newsF LA0 LA1 = [⟨x, ac0, 1⟩, ⟨ac0, z, 2⟩] := by
  rw [newsF, ex_mg ex]
  have h1 : (prWhat ⟨x, ac0, 1⟩ != 4) = true := rfl
  have h2 : (prWhat ⟨y, y, 3⟩ != 4) = false := by rw [what_both, if_pos rfl]; rfl
  have h3 : (prWhat ⟨ac0, z, 2⟩ != 4) = true := rfl
  simp only [List.filter_cons, h1, h2, h3, List.filter_nil]; rfl
theorem ex_f0 : LA0.find? (isId B_) = some y := by
  rw [ex.l0]; simp [isId, ex.x1.1, ex.y1.1, ne_ab]
theorem ex_f1 : LA1.find? (isId B_) = some y := by
  rw [ex.l1]; simp [isId, ex.y1.1]
theorem ex_f2 : LA2.find? (isId B_) = some y2 := by
  rw [ex.l2]; simp [isId, ex.w1.1]
theorem ex_z1 : LA1.find? (isId Z_) = none := by
  rw [ex.l1]; simp [isId, ex.y1.1, ex.z1.1, ne_bz, ne_cz]
theorem ex_z2 : LA2.find? (isId Z_) = none := by
  rw [ex.l2]; simp [isId, ex.w1.1, ex.z1.1, ne_bz, ne_cz]
theorem ex_o1 : prWhat (ofP LA0 LA1 B_ 2) = 4 := by
  have : ofP LA0 LA1 B_ 2 = ⟨y, y, 3⟩ := by simp [ofP, findF, hasF, ex_f0 ex, ex_f1 ex]
  rw [this, what_both, if_pos rfl]
theorem ex_o2 : prWhat (ofP LA1 LA2 B_ 2) = 3 := by
  have : ofP LA1 LA2 B_ 2 = ⟨y, y2, 3⟩ := by simp [ofP, findF, hasF, ex_f1 ex, ex_f2 ex]
  rw [this, what_both, if_neg (by rw [ex.y1.2, ex.w1.2]; decide)]
theorem ex_o3 : prWhat (ofP LA1 LA2 Z_ 2) = 0 := by
  have : ofP LA1 LA2 Z_ 2 = ⟨ac0, ac0, 0⟩ := by simp [ofP, findF, hasF, ex_z1 ex, ex_z2 ex]
  rw [this]; rfl
theorem ex_sum : (rootF cfgA.w cfgA.seed 1 LA2).sum = 12 := by
  rw [rootF_sum (accA 2 (by decide))]; show ((LA2).map Ac.bal).sum = 12; rw [ex.l2]; simp [ex.w1.2, ex.z1.2]
end
theorem eq52 {a b : Ac} (e : a = b) : ((a.id.toList == b.id.toList) && ((((a.bal / 18446744073709551616 : Nat) : Int) == ((b.bal / 18446744073709551616 : Nat) : Int)) && (((a.bal % 18446744073709551616 : Nat) : Int) == ((b.bal % 18446744073709551616 : Nat) : Int))) && (a.salt.toList == b.salt.toList) && ((a.slot : Int) == (b.slot : Int))) = true := by
  subst e; simp
theorem eq42 {p : Pr} {s : ByteArray} {w k1 k2 : Int} {n m : Nat} (h1 : prId p = s) (h2 : prWhat p = w) (h3 : p.a.bal = n) (h4 : p.b.bal = m) (hn : n < 18446744073709551616) (hm : m < 18446744073709551616) (e1 : k1 = n) (e2 : k2 = m) :
    (((prId p).toList == s.toList) && (prWhat p == w) && ((((p.a.bal / 18446744073709551616 : Nat) : Int) == 0) && (((p.a.bal % 18446744073709551616 : Nat) : Int) == k1)) && ((((p.b.bal / 18446744073709551616 : Nat) : Int) == 0) && (((p.b.bal % 18446744073709551616 : Nat) : Int) == k2))) = true := by
  rw [h1, h2, h3, h4, e1, e2, Nat.div_eq_of_lt hn, Nat.mod_eq_of_lt hn, Nat.div_eq_of_lt hm, Nat.mod_eq_of_lt hm]; simp

theorem awake_ok {w : World} (hG : Glob w) : RetV Tryz.prog 10 [] w (.bool true) := by
  obtain ⟨x, y, z, y2, ex⟩ := exA
  have hnw := ex_news ex
  have a0 := accA 0 (by decide)
  have a1 := accA 1 (by decide)
  have a2 := accA 2 (by decide)
  have n0 : (LA0).length ≤ 2 := a0.len
  have n1 : (LA1).length ≤ 2 := a1.len
  have n2 : (LA2).length ≤ 2 := a2.len
  have hA0 : (LA0).length ≤ 100000 := by omega
  have hA1 : (LA1).length ≤ 100000 := by omega
  have hA2 : (LA2).length ≤ 100000 := by omega
  have hA01 : (LA0).length + (LA1).length ≤ 100000 := by omega
  have k67 := eq42 (p := (newsF LA0 LA1).getD 0 pr0) (s := A_) (w := 2) (n := 1) (m := 0) (k1 := 1) (k2 := 0) (by rw [hnw]; exact ex.x1.1) (by rw [hnw]; rfl) (by rw [hnw]; exact ex.x1.2) (by rw [hnw]; rfl) (by decide) (by decide) rfl rfl
  have k75 := eq42 (p := (newsF LA0 LA1).getD 1 pr0) (s := C_) (w := 1) (n := 0) (m := 3) (k1 := 0) (k2 := 3) (by rw [hnw]; exact ex.z1.1) (by rw [hnw]; rfl) (by rw [hnw]; rfl) (by rw [hnw]; exact ex.z1.2) (by decide) (by decide) rfl rfl
  have g1 : hasF LA1 B_ = true := by simp [hasF, ex_f1 ex]
  have g2 : findF LA1 B_ = findF LA0 B_ := by simp [findF, ex_f1 ex, ex_f0 ex]
  refine begin_ Tryz.func10 rfl rfl rfl ?_
  -- REG 1 res []
  refine xc_seq <| xc_region <| xp rfl (asg rfl) <| xl_nil <| xq_then <| ?_
  -- REG 2 res []
  refine xc_seq <| xc_region <| xp rfl (bd rfl bd_23_0_1_2) <| xe rfl (bs rfl bs_26_4) fun b1 _ => xr rfl Tryz.call42 rfl rfl (fun W hW => (chain_ok (cfg := cfgA) (T := txA) (n := 3) (h := 1) (hG.up hW) cfgA_ok (row_of_cell strK hW .head (by decide)) (by decide) (by decide) (by decide) (by decide) goodA im3 im3e)) fun q hq => xp rfl (mv rfl) <| xp rfl (ext rfl rfl) <| xp rfl (ext rfl rfl) <| xp rfl (ext rfl rfl) <| xp rfl (asg rfl) <| xp rfl (asg rfl) <| xp rfl (asg rfl) <| xl_nil <| xq_then <| ?_
  -- REG 3 res ['out', 'snaps', 'b1']
  refine xc_seq <| xc_seq <| xc_region <| xp rfl (mv rfl) <| xp rfl (bin rfl rfl bk_eql) <| xp rfl (mv rfl) <| xgT rfl rfl rfl (beq_eq_false_iff_ne.2 im3e) <| xp rfl (mv rfl) <| xgT rfl rfl rfl (beq_eq_false_iff_ne.2 im3e) <| xp rfl (bin rfl rfl bk_neq) <| xp rfl (pickF rfl (beq_eq_false_iff_ne.2 im3e) rfl) <| xp rfl (mv rfl) <| xgT rfl rfl rfl (by decide) <| xp rfl (mv rfl) <| xgT rfl rfl rfl (by decide) <| xp rfl (lenv Tryz.underlying100 rfl) <| xgT rfl rfl rfl (by decide) <| xp rfl (bin rfl rfl bk_neq) <| xp rfl (pickF rfl (by decide) rfl) <| xl_nil <| xq_then <| xc_cond rfl (fun hc1 => ?_) (fun hc1 => ?_)
  ·
    exact absurd hc1 (by decide)
  ·
    refine xc_skip <| xq_then <| xc_seq <| xc_row .head (by decide) fun ob hob hoc => ?_
    obtain ⟨O, oc, ss⟩ := q
    simp only at hob hq
    subst hob
    dsimp only
    have hsl : ss.length = 3 := by have h1 := congrArg List.length hq.1; simpa using h1
    -- REG 4 res ['out', 'snaps', 'b1']
    refine xc_region <| xp rfl (mv rfl) <| xp rfl (ix so_100 rfl rfl (by decide) (by decide)) <| xp rfl (ldc kd_27 rfl (vs := _) (fun W hW => ptr_at (hW.mem_ok .head) hsl (show 0 < 3 by decide) (by simp)) rfl) <| xv rfl Tryz.call31 rfl rfl (fun W hW => (sfind_ok (snapC_at (hW.mem_ok (.tail <| .head)) hq.2 (by decide) hq.1 (show 0 < 3 by decide)) a0.asc hA0)) <| xp rfl (mv rfl) <| xp rfl (ext rfl rfl) <| xp rfl (ext rfl rfl) <| xe rfl (al zo_52) fun b2 _ => xs (st sz_52 rfl rfl rfl rfl .head rfl rfl) <| xp rfl (asg rfl) <| xl_nil <| xq_then <| ?_
    -- REG 5 res ['b2', 'out', 'snaps', 'b1']
    refine xc_seq <| xc_region <| xp rfl (mv rfl) <| xp rfl (ix so_100 rfl rfl (by decide) (by decide)) <| xp rfl (ldc kd_27 rfl (vs := _) (fun W hW => ptr_at (hW.mem_ok (.tail <| .head)) hsl (show 1 < 3 by decide) (by simp)) rfl) <| xv rfl Tryz.call31 rfl rfl (fun W hW => (sfind_ok (snapC_at (hW.mem_ok (.tail <| .tail <| .head)) hq.2 (by decide) hq.1 (show 1 < 3 by decide)) a1.asc hA1)) <| xp rfl (mv rfl) <| xp rfl (ext rfl rfl) <| xp rfl (ext rfl rfl) <| xe rfl (al zo_52) fun b3 _ => xs (st sz_52 rfl rfl rfl rfl .head rfl rfl) <| xp rfl (asg rfl) <| xl_nil <| xq_then <| ?_
    -- REG 6 res ['b3', 'b2', 'out', 'snaps', 'b1']
    refine xc_seq <| xc_draw (canon := [(0, .p), (1, .p), (2, .p), (3, .p), (4, .p), (5, .p), (6, .x), (7, .x)]) (Z := HP _ [cellR b3 _ _, cellR b2 _ _, _, _, cellR b1 _ _]) mixed_ rfl (akp <| akp <| akp <| akp <| akp <| akp <| akx <| akx <| ak0) (zsub (.cons_cons _ <| .cons_cons _ <| .cons_cons _ <| .cons_cons _ <| .cons_cons _ <| List.nil_sublist _)) ?_
    refine dp rfl rfl rfl rfl (mv rfl) <| dp rfl rfl rfl rfl (ix so_100 rfl rfl (by decide) (by decide)) <| dp rfl rfl rfl rfl (ldc kd_27 rfl (vs := _) (fun W hW => ptr_at (hW.mem_ok (.tail <| .tail <| .head)) hsl (show 0 < 3 by decide) (by simp)) rfl) <| dp rfl rfl rfl rfl (mv rfl) <| dp rfl rfl rfl rfl (ix so_100 rfl rfl (by decide) (by decide)) <| dp rfl rfl rfl rfl (ldc kd_27 rfl (vs := _) (fun W hW => ptr_at (hW.mem_ok (.tail <| .tail <| .head)) hsl (show 1 < 3 by decide) (by simp)) rfl) <| dr rfl rfl rfl (.inl rfl) rfl Tryz.call15 rfl rfl (fun W hW => (news_ok (snapC_at (hW.mem_ok (.tail <| .tail <| .tail <| .head)) hq.2 (by decide) hq.1 (show 0 < 3 by decide)) (snapC_at (hW.mem_ok (.tail <| .tail <| .tail <| .head)) hq.2 (by decide) hq.1 (show 1 < 3 by decide)) hA01)) (zsub (.cons_cons _ <| .cons_cons _ <| .cons_cons _ <| .cons_cons _ <| .cons_cons _ <| List.nil_sublist _)) fun nw _ => das rfl rfl rfl rfl (asg rfl) (zsub (.cons _ <| .cons_cons _ <| .cons_cons _ <| .cons_cons _ <| .cons_cons _ <| .cons_cons _ <| List.nil_sublist _)) <| dend <| xq_then <| ?_
    refine xc_seq <| xc_row .head (by rw [hnw]; simp) fun nb hnb hnc => ?_
    obtain ⟨nA, nc⟩ := nw
    simp only at hnb
    subst hnb
    dsimp only
    -- REG 7 res ['news', 'b3', 'b2', 'out', 'snaps', 'b1']
    refine xc_draw (canon := [(0, .p), (1, .p), (2, .p), (3, .p), (4, .p), (5, .p), (6, .p), (7, .p), (8, .p), (9, .p), (10, .p), (11, .p), (12, .p), (13, .p), (14, .p), (15, .p), (16, .p), (17, .p), (18, .p), (19, .p), (20, .p), (21, .p), (22, .p), (23, .p), (24, .p), (25, .p), (26, .p), (27, .p), (28, .p), (29, .p), (30, .p), (31, .p), (32, .p), (33, .p), (34, .p), (35, .p), (36, .p), (37, .p), (38, .p), (39, .p), (40, .p), (41, .p), (42, .p), (43, .p), (44, .p), (45, .p), (46, .p), (47, .p), (48, .p), (49, .p), (50, .p), (51, .p), (52, .p), (53, .p), (54, .p), (55, .p), (56, .p), (57, .p), (58, .p), (59, .p), (60, .p), (61, .p), (62, .p), (63, .p), (64, .p), (65, .p), (66, .x)]) (Z := HP _ [_, cellR b3 _ _, cellR b2 _ _, _, _, cellR b1 _ _]) mixed_ rfl (akp <| akp <| akp <| akp <| akp <| akp <| akp <| akp <| akp <| akp <| akp <| akp <| akp <| akp <| akp <| akp <| akp <| akp <| akp <| akp <| akp <| akp <| akp <| akp <| akp <| akp <| akp <| akp <| akp <| akp <| akp <| akp <| akp <| akp <| akp <| akp <| akp <| akp <| akp <| akp <| akp <| akp <| akp <| akp <| akp <| akp <| akp <| akp <| akp <| akp <| akp <| akp <| akp <| akp <| akp <| akp <| akp <| akp <| akp <| akp <| akp <| akp <| akp <| akp <| akp <| akp <| akx <| ak0) (zsub (.cons_cons _ <| .cons_cons _ <| .cons_cons _ <| .cons_cons _ <| .cons_cons _ <| .cons_cons _ <| List.nil_sublist _)) ?_
    refine dp rfl rfl rfl rfl (mv rfl) <| dp rfl rfl rfl rfl (mv rfl) <| dpT rfl rfl rfl rfl rfl rfl g1 (ld kd_52 rfl (.tail .head) rfl) <| dpT rfl rfl rfl rfl rfl rfl g1 (ld kd_52 rfl (.tail <| .tail .head) rfl) <| dpT rfl rfl rfl rfl rfl rfl g1 (bin rfl rfl bk_aggeql_52) <| dp rfl rfl rfl rfl (pickT rfl g1 rfl) <| dp rfl rfl rfl rfl (mv rfl) <| dpT rfl rfl rfl rfl rfl rfl (eq52 g2) (mv rfl) <| dpT rfl rfl rfl rfl rfl rfl (eq52 g2) (lenv Tryz.underlying39 rfl) <| dpT rfl rfl rfl rfl rfl rfl (eq52 g2) (bin rfl rfl bk_eql) <| dp rfl rfl rfl rfl (pickT rfl (eq52 g2) rfl) <| dp rfl rfl rfl rfl (mv rfl) <| dpT rfl rfl rfl rfl rfl rfl (by rw [hnw]; rfl) (mv rfl) <| dpT rfl rfl rfl rfl rfl rfl (by rw [hnw]; rfl) (ix so_39 rfl rfl (by decide) (by rw [hnw]; simp)) <| dpT rfl rfl rfl rfl rfl rfl (by rw [hnw]; rfl) (ldc kd_42 rfl (vs := _) (fun W hW => ch_at (ownR_rowOf (hW.mem_ok .head)) (k := 0) (by rw [hnw]; simp) (by simp)) rfl) <| dpT rfl rfl rfl rfl rfl rfl (by rw [hnw]; rfl) (bd rfl bd_35_1) <| dpT rfl rfl rfl rfl rfl rfl (by rw [hnw]; rfl) (bd rfl bd_42_0_1_2) <| dpT rfl rfl rfl rfl rfl rfl (by rw [hnw]; rfl) (bin rfl rfl bk_aggeql_42) <| dp rfl rfl rfl rfl (pickT rfl (by rw [hnw]; rfl) rfl) <| dp rfl rfl rfl rfl (mv rfl) <| dpT rfl rfl rfl rfl rfl rfl (k67) (mv rfl) <| dpT rfl rfl rfl rfl rfl rfl (k67) (ix so_39 rfl rfl (by decide) (by rw [hnw]; simp)) <| dpT rfl rfl rfl rfl rfl rfl (k67) (ldc kd_42 rfl (vs := _) (fun W hW => ch_at (ownR_rowOf (hW.mem_ok .head)) (k := 1) (by rw [hnw]; simp) (by simp)) rfl) <| dpT rfl rfl rfl rfl rfl rfl (k67) (bd rfl bd_35_1) <| dpT rfl rfl rfl rfl rfl rfl (k67) (bd rfl bd_42_0_1_3) <| dpT rfl rfl rfl rfl rfl rfl (k67) (bin rfl rfl bk_aggeql_42) <| dp rfl rfl rfl rfl (pickT rfl (k67) rfl) <| dp rfl rfl rfl rfl (mv rfl) <| dpT rfl rfl rfl rfl rfl rfl (k75) (mv rfl) <| dpT rfl rfl rfl rfl rfl rfl (k75) (ix so_100 rfl rfl (by decide) (by decide)) <| dpT rfl rfl rfl rfl rfl rfl (k75) (ldc kd_27 rfl (vs := _) (fun W hW => ptr_at (hW.mem_ok (.tail <| .tail <| .tail <| .head)) hsl (show 0 < 3 by decide) (by simp)) rfl) <| dpT rfl rfl rfl rfl rfl rfl (k75) (mv rfl) <| dpT rfl rfl rfl rfl rfl rfl (k75) (ix so_100 rfl rfl (by decide) (by decide)) <| dpT rfl rfl rfl rfl rfl rfl (k75) (ldc kd_27 rfl (vs := _) (fun W hW => ptr_at (hW.mem_ok (.tail <| .tail <| .tail <| .head)) hsl (show 1 < 3 by decide) (by simp)) rfl) <| dqT rfl rfl rfl rfl rfl rfl (k75) rfl Tryz.call18 rfl rfl (fun W hW => (uof_ok (snapC_at (hW.mem_ok (.tail <| .tail <| .tail <| .tail <| .head)) hq.2 (by decide) hq.1 (show 0 < 3 by decide)) (snapC_at (hW.mem_ok (.tail <| .tail <| .tail <| .tail <| .head)) hq.2 (by decide) hq.1 (show 1 < 3 by decide)) a0.asc a1.asc hA0 hA1)) <| dpT rfl rfl rfl rfl rfl rfl (k75) (bin rfl rfl bk_eql) <| dp rfl rfl rfl rfl (pickT rfl (k75) rfl) <| dp rfl rfl rfl rfl (mv rfl) <| dpT rfl rfl rfl rfl rfl rfl (beq_iff_eq.2 (ex_o1 ex)) (mv rfl) <| dpT rfl rfl rfl rfl rfl rfl (beq_iff_eq.2 (ex_o1 ex)) (ix so_100 rfl rfl (by decide) (by decide)) <| dpT rfl rfl rfl rfl rfl rfl (beq_iff_eq.2 (ex_o1 ex)) (ldc kd_27 rfl (vs := _) (fun W hW => ptr_at (hW.mem_ok (.tail <| .tail <| .tail <| .head)) hsl (show 1 < 3 by decide) (by simp)) rfl) <| dpT rfl rfl rfl rfl rfl rfl (beq_iff_eq.2 (ex_o1 ex)) (mv rfl) <| dpT rfl rfl rfl rfl rfl rfl (beq_iff_eq.2 (ex_o1 ex)) (ix so_100 rfl rfl (by decide) (by decide)) <| dpT rfl rfl rfl rfl rfl rfl (beq_iff_eq.2 (ex_o1 ex)) (ldc kd_27 rfl (vs := _) (fun W hW => ptr_at (hW.mem_ok (.tail <| .tail <| .tail <| .head)) hsl (show 2 < 3 by decide) (by simp)) rfl) <| dqT rfl rfl rfl rfl rfl rfl (beq_iff_eq.2 (ex_o1 ex)) rfl Tryz.call18 rfl rfl (fun W hW => (uof_ok (snapC_at (hW.mem_ok (.tail <| .tail <| .tail <| .tail <| .head)) hq.2 (by decide) hq.1 (show 1 < 3 by decide)) (snapC_at (hW.mem_ok (.tail <| .tail <| .tail <| .tail <| .head)) hq.2 (by decide) hq.1 (show 2 < 3 by decide)) a1.asc a2.asc hA1 hA2)) <| dpT rfl rfl rfl rfl rfl rfl (beq_iff_eq.2 (ex_o1 ex)) (bin rfl rfl bk_eql) <| dp rfl rfl rfl rfl (pickT rfl (beq_iff_eq.2 (ex_o1 ex)) rfl) <| dp rfl rfl rfl rfl (mv rfl) <| dpT rfl rfl rfl rfl rfl rfl (beq_iff_eq.2 (ex_o2 ex)) (mv rfl) <| dpT rfl rfl rfl rfl rfl rfl (beq_iff_eq.2 (ex_o2 ex)) (ix so_100 rfl rfl (by decide) (by decide)) <| dpT rfl rfl rfl rfl rfl rfl (beq_iff_eq.2 (ex_o2 ex)) (ldc kd_27 rfl (vs := _) (fun W hW => ptr_at (hW.mem_ok (.tail <| .tail <| .tail <| .head)) hsl (show 1 < 3 by decide) (by simp)) rfl) <| dpT rfl rfl rfl rfl rfl rfl (beq_iff_eq.2 (ex_o2 ex)) (mv rfl) <| dpT rfl rfl rfl rfl rfl rfl (beq_iff_eq.2 (ex_o2 ex)) (ix so_100 rfl rfl (by decide) (by decide)) <| dpT rfl rfl rfl rfl rfl rfl (beq_iff_eq.2 (ex_o2 ex)) (ldc kd_27 rfl (vs := _) (fun W hW => ptr_at (hW.mem_ok (.tail <| .tail <| .tail <| .head)) hsl (show 2 < 3 by decide) (by simp)) rfl) <| dqT rfl rfl rfl rfl rfl rfl (beq_iff_eq.2 (ex_o2 ex)) rfl Tryz.call18 rfl rfl (fun W hW => (uof_ok (snapC_at (hW.mem_ok (.tail <| .tail <| .tail <| .tail <| .head)) hq.2 (by decide) hq.1 (show 1 < 3 by decide)) (snapC_at (hW.mem_ok (.tail <| .tail <| .tail <| .tail <| .head)) hq.2 (by decide) hq.1 (show 2 < 3 by decide)) a1.asc a2.asc hA1 hA2)) <| dpT rfl rfl rfl rfl rfl rfl (beq_iff_eq.2 (ex_o2 ex)) (bin rfl rfl bk_eql) <| dp rfl rfl rfl rfl (pickT rfl (beq_iff_eq.2 (ex_o2 ex)) rfl) <| dp rfl rfl rfl rfl (mv rfl) <| dpT rfl rfl rfl rfl rfl rfl (beq_iff_eq.2 (ex_o3 ex)) (mv rfl) <| dpT rfl rfl rfl rfl rfl rfl (beq_iff_eq.2 (ex_o3 ex)) (ix so_100 rfl rfl (by decide) (by decide)) <| dpT rfl rfl rfl rfl rfl rfl (beq_iff_eq.2 (ex_o3 ex)) (ldc kd_27 rfl (vs := _) (fun W hW => ptr_at (hW.mem_ok (.tail <| .tail <| .tail <| .head)) hsl (show 2 < 3 by decide) (by simp)) rfl) <| dqT rfl rfl rfl rfl rfl rfl (beq_iff_eq.2 (ex_o3 ex)) rfl Tryz.call14 rfl rfl (fun W hW => (sroot_ok (snapC_at (hW.mem_ok (.tail <| .tail <| .tail <| .tail <| .head)) hq.2 (by decide) hq.1 (show 2 < 3 by decide)))) <| dpT rfl rfl rfl rfl rfl rfl (beq_iff_eq.2 (ex_o3 ex)) (fd fd_37_1 rfl) <| dpT rfl rfl rfl rfl rfl rfl (beq_iff_eq.2 (ex_o3 ex)) (fd fd_35_1 rfl) <| dpT rfl rfl rfl rfl rfl rfl (beq_iff_eq.2 (ex_o3 ex)) (bin rfl rfl bk_eql) <| dp rfl rfl rfl rfl (pickT rfl (beq_iff_eq.2 (ex_o3 ex)) rfl) <| das rfl rfl rfl rfl (asg rfl) (zsub (.cons_cons _ <| .cons_cons _ <| .cons_cons _ <| .cons_cons _ <| .cons_cons _ <| .cons_cons _ <| List.nil_sublist _)) <| dend <| xq_then <| xc_ret <| leave1 (.inl rfl) rfl (.tmp rfl) fun W hW => (⟨by rw [show (rootF cfgA.w cfgA.seed 1 (chainL cfgA 1 txA 2)).sum = 12 from ex_sum ex]; rfl, hW.below⟩)

end Go.Eng
end
