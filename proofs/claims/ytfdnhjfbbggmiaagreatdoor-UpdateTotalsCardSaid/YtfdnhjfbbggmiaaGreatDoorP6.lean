/- Part 6 of the walks and plain lemmas that the claim rests on. -/
import Derived.Sort.Walk0
import Derived.Test.YtfdnhjfbbggmiaaGreatDoorP5
section
namespace Go.Eng
open Go Go.RowKit Go.Proofs
set_option linter.unusedVariables false
set_option linter.unusedSimpArgs false
set_option maxRecDepth 4000
structure Leaf where (pad : Bool) (id salt : ByteArray) (bal : Nat)
abbrev Leaf.c (l : Leaf) : List Value := [.bool l.pad, .string l.id, .string l.salt, hiV l.bal, loV l.bal]
abbrev Leaf.V (l : Leaf) : Value := .agg #[.bool l.pad, .string l.id, .string l.salt, hiV l.bal, loV l.bal]
structure Nd where (hash : ByteArray) (sum : Nat)
abbrev Nd.c (x : Nd) : List Value := [.string x.hash, hiV x.sum, loV x.sum]
abbrev Nd.V (x : Nd) : Value := .agg #[.string x.hash, hiV x.sum, loV x.sum]
def mayWidthF (z : Int) : Bool := decide (1 ≤ z) && decide (z ≤ 32)
def noneText : ByteArray := ByteArray.empty

theorem maywidth_ok (z : Int) (w : World) : RetV Tryz.prog 182 [.int .i64 z] w (.bool (mayWidthF z)) := by
  refine begin_ Tryz.func182 rfl rfl rfl ?_
  refine xc_seq <| xc_region <| xp rfl (asg rfl) <| xl_nil <| xq_then <| ?_
  refine xc_seq <| xc_region <| xp rfl (mv rfl) <| xp rfl (bin rfl rfl bk_geq) <| xp rfl (mv rfl) <| xl_and 3 8 (fun hg1 => xgT rfl rfl rfl hg1 <| xp rfl (mv rfl) <| xgT rfl rfl rfl hg1 <| xp rfl (bin rfl rfl bk_leq) <| xp rfl (pickT rfl hg1 rfl) <| xl_nil <| xq_and_yes hg1 (.kc rfl <| .kc rfl .kn) (fun _ h => h)) (fun hg1 => xgF rfl rfl rfl hg1 <| xgF rfl rfl rfl hg1 <| xp rfl (pickF rfl hg1 rfl) <| xl_nil <| xq_and_no hg1 (.kc rfl <| .kc rfl .kn) (fun _ h => h)) <| xp rfl (asg rfl) <| xl_nil <| xq_then <| xc_ret <| leave1 (.inl rfl) rfl (.tmp rfl) fun W hW => (⟨rfl, hW.below⟩)

theorem tdigest_ok {w : World} (hG : Glob w) {z : Int} (hz : mayWidthF z = true) {t : ByteArray} (ht : t.size ≤ 1048576) : RetV Tryz.prog 183 [.int .i64 z, .string t] w (.string ((shaF t).extract 0 z.toNat)) := by
  have hs := shaF_size t
  have hz2 : 1 ≤ z ∧ z ≤ 32 := by simpa [mayWidthF] using hz
  refine begin_ Tryz.func183 rfl rfl rfl ?_
  refine xc_seq <| xc_region <| xp rfl (asg rfl) <| xl_nil <| xq_then <| ?_
  refine xc_seq <| xc_seq <| xc_region <| xp rfl (mv rfl) <| xv rfl Tryz.call182 rfl rfl (fun W hW => (maywidth_ok z W)) <| xp rfl (un rfl uk_not) <| xl_nil <| xq_then <| xc_cond rfl (fun hc1 => ?_) (fun hc1 => ?_)
  ·
    exfalso; rw [hz] at hc1; cases hc1
  ·
    refine xc_skip <| xq_then <| xc_seq <| xc_region <| xp rfl (mv rfl) <| xv rfl Tryz.call241 rfl rfl (fun W hW => (sha_ok (hG.up hW) (by omega))) <| xp rfl (mv rfl) <| xp rfl (ssh Tryz.underlying9 rfl rfl (by omega) (by omega)) <| xp rfl (asg rfl) <| xl_nil <| xq_then <| xc_ret <| leave1 (.inl rfl) rfl (.tmp rfl) fun W hW => (⟨rfl, hW.below⟩)


def mayLeafF (l : Leaf) : Bool := if 32 < l.salt.size then false else if l.pad then (l.id.toList == noneText.toList && (((l.bal / 18446744073709551616 : Nat) : Int) == 0 && ((l.bal % 18446744073709551616 : Nat) : Int) == 0)) else mayIdF l.id

theorem mayleaf_ok {w : World} (hG : Glob w) {l : Leaf} (hl : l.id.size ≤ 1048576) : RetV Tryz.prog 105 [l.V] w (.bool (mayLeafF l)) := by
  refine begin_ Tryz.func105 rfl rfl rfl ?_
  refine xc_seq <| xc_region <| xe rfl (bx rfl rfl) fun b1 _ => xp rfl (asg rfl) <| xl_nil <| xq_then <| ?_
  refine xc_seq <| xc_seq <| xc_region <| xp rfl (fa fa_58_2 rfl) <| xp rfl (ld kd_9 rfl .head rfl) <| xp rfl (lens Tryz.underlying9 rfl) <| xp rfl (bin rfl rfl bk_gtr) <| xl_nil <| xq_then <| xc_cond rfl (fun hc1 => ?_) (fun hc1 => ?_)
  ·
    have h1 : 32 < l.salt.size := by have h := of_decide_eq_true hc1; omega
    refine xc_seq <| xc_region <| xp rfl (asg rfl) <| xl_nil <| xq_then <| xc_ret <| xq_then_ret <| leave1 (.inl rfl) rfl (.tmp rfl) fun W hW => (⟨by simp only [mayLeafF, if_pos h1], hW.below⟩)
  ·
    have h1 : ¬ 32 < l.salt.size := by have h := of_decide_eq_false hc1; omega
    refine xc_skip <| xq_then <| xc_seq <| xc_seq <| xc_region <| xp rfl (fa fa_58_0 rfl) <| xp rfl (ld kd_4 rfl .head rfl) <| xl_nil <| xq_then <| xc_cond rfl (fun hc2 => ?_) (fun hc2 => ?_)
    ·
      refine xc_seq <| xc_region <| xp rfl (fa fa_58_1 rfl) <| xp rfl (ld kd_9 rfl .head rfl) <| xp rfl (bin rfl rfl bk_seql) <| xp rfl (mv rfl) <| xl_and 5 17 (fun hg3 => xgT rfl rfl rfl hg3 <| xp rfl (fa fa_58_3 rfl) <| xgT rfl rfl rfl hg3 <| xp rfl (ld kd_35 rfl .head rfl) <| xgT rfl rfl rfl hg3 <| xp rfl (bd rfl bd_35_) <| xgT rfl rfl rfl hg3 <| xp rfl (bin rfl rfl bk_aggeql_35) <| xp rfl (pickT rfl hg3 rfl) <| xl_nil <| xq_and_yes hg3 (.kc rfl <| .kc rfl <| .kc rfl <| .kc rfl .kn) (fun _ h => h)) (fun hg3 => xgF rfl rfl rfl hg3 <| xgF rfl rfl rfl hg3 <| xgF rfl rfl rfl hg3 <| xgF rfl rfl rfl hg3 <| xp rfl (pickF rfl hg3 rfl) <| xl_nil <| xq_and_no hg3 (.kc rfl <| .kc rfl <| .kc rfl <| .kc rfl .kn) (fun _ h => h)) <| xp rfl (asg rfl) <| xl_nil <| xq_then <| xc_ret <| xq_then_ret <| leave1 (.inl rfl) rfl (.tmp rfl) fun W hW => (⟨by simp only [mayLeafF, if_neg h1, hc2, if_true]; rfl, hW.below⟩)
    ·
      refine xc_skip <| xq_then <| xc_seq <| xc_region <| xp rfl (fa fa_58_1 rfl) <| xp rfl (ld kd_9 rfl .head rfl) <| xv rfl Tryz.call111 rfl rfl (fun W hW => (mayid_ok (hG.up hW) hl)) <| xp rfl (asg rfl) <| xl_nil <| xq_then <| xc_ret <| leave1 (.inl rfl) rfl (.tmp rfl) fun W hW => (⟨by simp only [mayLeafF, if_neg h1, hc2, if_false, Bool.false_eq_true], hW.below⟩)

def oneB (c : Nat) : ByteArray := ⟨#[UInt8.ofNat c]⟩
theorem oneB_size (c : Nat) : (oneB c).size = 1 := rfl
theorem oneB_row {w0 W : World} {Rs : List Res} {b T : Nat} {z : Int} {c : Nat} {f : Res → List Res} (hz : z = ((c % 256 : Nat) : Int)) (hW : HP w0 Rs W) (hp : Pos Rs (cellR b T [.int .u8 z]) f) : RowA W 1 (some ⟨b, 0, none⟩) 1 (byteCells (oneB c)) := by
  have e : byteCells (oneB c) = [.int .u8 z] := by rw [oneB, show (⟨#[UInt8.ofNat c]⟩ : ByteArray) = ⟨[UInt8.ofNat c].toArray⟩ from rfl, byteCells_mk]; simp [Lib.byteCells, hz]
  rw [e]
  exact ⟨rfl, by decide, fun _ => ⟨b, 0, rfl, cells_of hW hp⟩⟩
theorem oneB_rowZ {W : World} {b T : Nat} {z : Int} {c : Nat} (hz : z = ((c % 256 : Nat) : Int)) (h : W.heap[b]? = some (.cells #[.int .u8 z] T (0, 0))) : RowA W 1 (some ⟨b, 0, none⟩) 1 (byteCells (oneB c)) := by
  have e : byteCells (oneB c) = [.int .u8 z] := by rw [oneB, show (⟨#[UInt8.ofNat c]⟩ : ByteArray) = ⟨[UInt8.ofNat c].toArray⟩ from rfl, byteCells_mk]; simp [Lib.byteCells, hz]
  rw [e]
  exact ⟨rfl, by decide, fun _ => ⟨b, 0, rfl, fun i v hv => by
    cases i with
    | succ i => simp at hv
    | zero => simp at hv; subst hv; simp [World.cell?, h]⟩⟩
noncomputable def sizedF (s : ByteArray) : ByteArray := oneB s.size ++ s
theorem sizedF_size (s : ByteArray) : (sizedF s).size = s.size + 1 := by simp [sizedF, ByteArray.size_append, oneB_size]; omega

theorem sized_ok {s : ByteArray} (hs : s.size ≤ 1048576) (w : World) : RetV Tryz.prog 242 [.string s] w (.string (sizedF s)) := by
  refine begin_ Tryz.func242 rfl rfl rfl ?_
  refine xc_seq <| xc_region <| xp rfl (asg rfl) <| xl_nil <| xq_then <| ?_
  refine xc_seq <| xc_region <| xp rfl (mv rfl) <| xp rfl (lens Tryz.underlying9 rfl) <| xp rfl (cv rfl (cvi Tryz.underlying3 Tryz.underlying5)) <| xe rfl (bs rfl bs_213_1) fun b1 _ => xp rfl (cvs Tryz.underlying213 Tryz.underlying5 Tryz.underlying9 rfl (fun W hW => oneB_row (wrapU8 _) hW .head)) <| xp rfl (mv rfl) <| xp rfl (bin rfl rfl (bk_sadd (by rw [oneB_size]; omega))) <| xp rfl (asg rfl) <| xl_nil <| xq_then <| xc_ret <| leave1 (.inl rfl) rfl (.tmp rfl) fun W hW => (⟨rfl, hW.below⟩)

theorem salt_ok {w : World} (hG : Glob w) {k t : ByteArray} (hk : k.size ≤ 1048576) (ht : t.size ≤ 1048575) : RetV Tryz.prog 95 [.string k, .string t] w (.string (firstF k (oneB 3 ++ t) 16)) := by
  refine begin_ Tryz.func95 rfl rfl rfl ?_
  refine xc_seq <| xc_region <| xp rfl (asg rfl) <| xl_nil <| xq_then <| ?_
  refine xc_seq <| xc_region <| xp rfl (mv rfl) <| xe rfl (bs rfl bs_213_1) fun b1 _ => xp rfl (cvs Tryz.underlying213 Tryz.underlying5 Tryz.underlying9 rfl (fun W hW => oneB_row (c := 3) rfl hW .head)) <| xp rfl (mv rfl) <| xp rfl (bin rfl rfl (bk_sadd (by rw [oneB_size]; omega))) <| xv rfl Tryz.call174 rfl rfl (fun W hW => (hfirst_ok (n := 16) (hG.up hW) hk (by rw [ByteArray.size_append, oneB_size]; omega) (by decide))) <| xp rfl (asg rfl) <| xl_nil <| xq_then <| xc_ret <| leave1 (.inl rfl) rfl (.tmp rfl) fun W hW => (⟨rfl, hW.below⟩)

theorem eight_ok {n : Nat} (hn : n < B64) (w : World) : RetV Tryz.prog 190 [.int .u64 n] w (.string ((b16 n).extract 8 16)) := by
  refine begin_ Tryz.func190 rfl rfl rfl ?_
  refine xc_seq <| xc_region <| xp rfl (asg rfl) <| xl_nil <| xq_then <| ?_
  refine xc_seq <| xc_region <| xp rfl (mv rfl) <| xv rfl Tryz.call247 rfl rfl (fun W hW => (of_ok n hn W)) <| xv rfl Tryz.call243 rfl rfl (fun W hW => (bytes_ok n W)) <| xp rfl (ssl Tryz.underlying9 rfl rfl (by decide) (by rw [b16_size]; decide)) <| xp rfl (asg rfl) <| xl_nil <| xq_then <| xc_ret <| leave1 (.inl rfl) rfl (.tmp rfl) fun W hW => (⟨rfl, hW.below⟩)

noncomputable def saltF (k t : ByteArray) : ByteArray := firstF k (oneB 3 ++ t) 16
noncomputable def padSaltF (k : ByteArray) (n : Nat) : ByteArray := firstF k (oneB 4 ++ (b16 n).extract 8 16) 16
theorem saltF_size (k t : ByteArray) : (saltF k t).size = 16 := firstF_size (by decide)
theorem padSaltF_size (k : ByteArray) (n : Nat) : (padSaltF k n).size = 16 := firstF_size (by decide)
noncomputable def padF_ (k : ByteArray) (n : Nat) : Leaf := ⟨true, noneText, padSaltF k n, 0⟩
theorem padsalt_ok {w : World} (hG : Glob w) {k : ByteArray} (hk : k.size ≤ 1048576) {n : Nat} (hn : n < B64) : RetV Tryz.prog 116 [.string k, .int .u64 n] w (.string (padSaltF k n)) := by
  refine begin_ Tryz.func116 rfl rfl rfl ?_
  refine xc_seq <| xc_region <| xp rfl (asg rfl) <| xl_nil <| xq_then <| ?_
  refine xc_seq <| xc_draw (canon := [(0, .p), (3, .p), (4, .p), (1, .x), (2, .x), (5, .p), (6, .x), (7, .x)]) (Z := HP _ []) mixed_ rfl (akp <| akp <| akp <| akx <| akx <| akp <| akx <| akx <| ak0) (zsub (List.nil_sublist _)) ?_
  refine dp rfl rfl rfl rfl (mv rfl) <| dp rfl rfl rfl rfl (mv rfl) <| dq rfl rfl rfl rfl rfl Tryz.call190 rfl rfl (fun W hW => (eight_ok hn W)) <| de rfl rfl rfl (.inl rfl) (L' := fun b1 => _ :: _) (fun Fr => bs rfl bs_213_1) (fun _ => (zsub (.cons _ <| List.nil_sublist _))) fun b1 _ => das rfl rfl rfl rfl (cvs Tryz.underlying213 Tryz.underlying5 Tryz.underlying9 rfl (fun W hW => oneB_row (c := 4) rfl hW .head)) (zsub (.cons _ <| List.nil_sublist _)) <| dp rfl rfl rfl rfl (bin rfl rfl (bk_sadd (by rw [oneB_size]; simp only [ByteArray.size_extract, b16_size]; decide))) <| dv rfl rfl rfl (.inl rfl) rfl Tryz.call174 rfl rfl (fun W hW => (hfirst_ok (n := 16) (hG.up hW) hk (by rw [ByteArray.size_append, oneB_size]; simp only [ByteArray.size_extract, b16_size]; decide) (by decide))) (zsub (.cons _ <| List.nil_sublist _)) <| das rfl rfl rfl rfl (asg rfl) (zsub (.cons _ <| List.nil_sublist _)) <| dend <| xq_then <| xc_ret <| leave1 (.inl rfl) rfl (.tmp rfl) fun W hW => (⟨rfl, hW.below⟩)

noncomputable def leafTextF (l : Leaf) : ByteArray := if mayLeafF l then (if l.pad then oneB 2 ++ sizedF l.salt else ((oneB 0 ++ sizedF l.id) ++ sizedF l.salt) ++ b16 l.bal) else noneText
noncomputable def nodeTextF (a b : Nd) : ByteArray := (((oneB 1 ++ a.hash) ++ b16 a.sum) ++ b.hash) ++ b16 b.sum
theorem leafText_size {l : Leaf} (h1 : l.id.size ≤ 65536) (h2 : l.salt.size ≤ 65536) : (leafTextF l).size ≤ 262144 := by
  unfold leafTextF; split
  · split
    · simp only [ByteArray.size_append, oneB_size, sizedF_size]; omega
    · simp only [ByteArray.size_append, oneB_size, sizedF_size, b16_size]; omega
  · exact Nat.zero_le _
theorem leaftext_ok {w : World} (hG : Glob w) {l : Leaf} (h1 : l.id.size ≤ 65536) (h2 : l.salt.size ≤ 65536) : RetV Tryz.prog 184 [l.V] w (.string (leafTextF l)) := by
  refine begin_ Tryz.func184 rfl rfl rfl ?_
  refine xc_seq <| xc_region <| xe rfl (bx rfl rfl) fun b1 _ => xp rfl (asg rfl) <| xl_nil <| xq_then <| ?_
  refine xc_seq <| xc_block <| xc_seq <| xc_region <| xp rfl (ld kd_58 rfl .head rfl) <| xv rfl Tryz.call105 rfl rfl (fun W hW => (mayleaf_ok (hG.up hW) (by omega))) <| xp rfl (un rfl uk_not) <| xp rfl (asg rfl) <| xl_nil <| xq_then <| xc_cond rfl (fun hc1 => ?_) (fun hc1 => ?_)
  ·
    have hm : mayLeafF l = false := by simpa using hc1
    refine xc_seq <| xc_region <| xp rfl (asg rfl) <| xl_nil <| xq_then <| xc_ret <| xq_in_ret <| xq_then_ret <| leave1 (.inl rfl) rfl (.tmp rfl) fun W hW => (⟨by rw [leafTextF, hm]; rfl, hW.below⟩)
  ·
    have hm : mayLeafF l = true := by simpa using hc1
    refine xc_seq <| xc_region <| xp rfl (fa fa_58_0 rfl) <| xp rfl (ld kd_4 rfl .head rfl) <| xp rfl (asg rfl) <| xl_nil <| xq_then <| xc_cond rfl (fun hc2 => ?_) (fun hc2 => ?_)
    ·
      refine xc_seq <| xc_draw (canon := [(2, .p), (3, .p), (4, .p), (0, .x), (1, .x), (5, .p), (6, .x)]) (Z := HP _ [cellR b1 _ _]) mixed_ rfl (akp <| akp <| akp <| akx <| akx <| akp <| akx <| ak0) (zsub (.cons_cons _ <| List.nil_sublist _)) ?_
      refine dp rfl rfl rfl rfl (fa fa_58_2 rfl) <| dp rfl rfl rfl rfl (ld kd_9 rfl .head rfl) <| dq rfl rfl rfl rfl rfl Tryz.call242 rfl rfl (fun W hW => (sized_ok (by omega) W)) <| de rfl rfl rfl (.inl rfl) (L' := fun b2 => _ :: _) (fun Fr => bs rfl bs_213_1) (fun _ => (zsub (.cons _ <| .cons_cons _ <| List.nil_sublist _))) fun b2 _ => das rfl rfl rfl rfl (cvs Tryz.underlying213 Tryz.underlying5 Tryz.underlying9 rfl (fun W hW => oneB_row (c := 2) rfl hW .head)) (zsub (.cons _ <| .cons_cons _ <| List.nil_sublist _)) <| dp rfl rfl rfl rfl (bin rfl rfl (bk_sadd (by simp only [oneB_size, sizedF_size]; omega))) <| das rfl rfl rfl rfl (asg rfl) (zsub (.cons _ <| .cons_cons _ <| List.nil_sublist _)) <| dend <| xq_then <| xc_ret <| xq_in_ret <| xq_then_ret <| leave1 (.inl rfl) rfl (.tmp rfl) fun W hW => (⟨by rw [leafTextF, hm, hc2]; rfl, hW.below⟩)
    ·
      refine xc_skip <| xq_in <| xq_then <| xc_seq <| xc_draw (canon := [(2, .p), (3, .p), (4, .p), (6, .p), (7, .p), (8, .p), (10, .p), (11, .p), (12, .p), (0, .x), (1, .x), (5, .p), (9, .p), (13, .p), (14, .x)]) (Z := HP _ [cellR b1 _ _]) mixed_ rfl (akp <| akp <| akp <| akp <| akp <| akp <| akp <| akp <| akp <| akx <| akx <| akp <| akp <| akp <| akx <| ak0) (zsub (.cons_cons _ <| List.nil_sublist _)) ?_
      refine dp rfl rfl rfl rfl (fa fa_58_1 rfl) <| dp rfl rfl rfl rfl (ld kd_9 rfl .head rfl) <| dq rfl rfl rfl rfl rfl Tryz.call242 rfl rfl (fun W hW => (sized_ok (by omega) W)) <| dp rfl rfl rfl rfl (fa fa_58_2 rfl) <| dp rfl rfl rfl rfl (ld kd_9 rfl .head rfl) <| dq rfl rfl rfl rfl rfl Tryz.call242 rfl rfl (fun W hW => (sized_ok (by omega) W)) <| dp rfl rfl rfl rfl (fa fa_58_3 rfl) <| dp rfl rfl rfl rfl (ld kd_35 rfl .head rfl) <| dq rfl rfl rfl rfl rfl Tryz.call243 rfl rfl (fun W hW => (bytes_ok _ W)) <| de rfl rfl rfl (.inl rfl) (L' := fun b3 => _ :: _) (fun Fr => bs rfl bs_213_1) (fun _ => (zsub (.cons _ <| .cons_cons _ <| List.nil_sublist _))) fun b3 _ => das rfl rfl rfl rfl (cvs Tryz.underlying213 Tryz.underlying5 Tryz.underlying9 rfl (fun W hW => oneB_row (c := 0) rfl hW .head)) (zsub (.cons _ <| .cons_cons _ <| List.nil_sublist _)) <| dp rfl rfl rfl rfl (bin rfl rfl (bk_sadd (by simp only [oneB_size, sizedF_size]; omega))) <| dp rfl rfl rfl rfl (bin rfl rfl (bk_sadd (by simp only [oneB_size, sizedF_size, ByteArray.size_append]; omega))) <| dp rfl rfl rfl rfl (bin rfl rfl (bk_sadd (by simp only [oneB_size, sizedF_size, ByteArray.size_append, b16_size]; omega))) <| das rfl rfl rfl rfl (asg rfl) (zsub (.cons _ <| .cons_cons _ <| List.nil_sublist _)) <| dend <| xq_then <| xc_ret <| leave1 (.inl rfl) rfl (.tmp rfl) fun W hW => (⟨by rw [leafTextF, hm, hc2]; rfl, hW.below⟩)

theorem nodetext_ok {a b : Nd} (h1 : a.hash.size ≤ 65536) (h2 : b.hash.size ≤ 65536) (w : World) : RetV Tryz.prog 192 [a.V, b.V] w (.string (nodeTextF a b)) := by
  refine begin_ Tryz.func192 rfl rfl rfl ?_
  refine xc_seq <| xc_region <| xe rfl (bx rfl rfl) fun b1 _ => xe rfl (bx rfl rfl) fun b2 _ => xp rfl (asg rfl) <| xl_nil <| xq_then <| ?_
  refine xc_seq <| xc_draw (canon := [(2, .p), (3, .p), (5, .p), (6, .p), (7, .p), (9, .p), (10, .p), (12, .p), (13, .p), (14, .p), (0, .x), (1, .x), (4, .p), (8, .p), (11, .p), (15, .p), (16, .x)]) (Z := HP _ [cellR b2 _ _, cellR b1 _ _]) mixed_ rfl (akp <| akp <| akp <| akp <| akp <| akp <| akp <| akp <| akp <| akp <| akx <| akx <| akp <| akp <| akp <| akp <| akx <| ak0) (zsub (.cons_cons _ <| .cons_cons _ <| List.nil_sublist _)) ?_
  refine dp rfl rfl rfl rfl (fa fa_152_0 rfl) <| dp rfl rfl rfl rfl (ld kd_9 rfl (.tail .head) rfl) <| dp rfl rfl rfl rfl (fa fa_152_1 rfl) <| dp rfl rfl rfl rfl (ld kd_35 rfl (.tail .head) rfl) <| dq rfl rfl rfl rfl rfl Tryz.call243 rfl rfl (fun W hW => (bytes_ok _ W)) <| dp rfl rfl rfl rfl (fa fa_152_0 rfl) <| dp rfl rfl rfl rfl (ld kd_9 rfl .head rfl) <| dp rfl rfl rfl rfl (fa fa_152_1 rfl) <| dp rfl rfl rfl rfl (ld kd_35 rfl .head rfl) <| dq rfl rfl rfl rfl rfl Tryz.call243 rfl rfl (fun W hW => (bytes_ok _ W)) <| de rfl rfl rfl (.inl rfl) (L' := fun b3 => _ :: _) (fun Fr => bs rfl bs_213_1) (fun _ => (zsub (.cons _ <| .cons_cons _ <| .cons_cons _ <| List.nil_sublist _))) fun b3 _ => das rfl rfl rfl rfl (cvs Tryz.underlying213 Tryz.underlying5 Tryz.underlying9 rfl (fun W hW => oneB_row (c := 1) rfl hW .head)) (zsub (.cons _ <| .cons_cons _ <| .cons_cons _ <| List.nil_sublist _)) <| dp rfl rfl rfl rfl (bin rfl rfl (bk_sadd (by simp only [oneB_size, b16_size, ByteArray.size_append]; omega))) <| dp rfl rfl rfl rfl (bin rfl rfl (bk_sadd (by simp only [oneB_size, b16_size, ByteArray.size_append]; omega))) <| dp rfl rfl rfl rfl (bin rfl rfl (bk_sadd (by simp only [oneB_size, b16_size, ByteArray.size_append]; omega))) <| dp rfl rfl rfl rfl (bin rfl rfl (bk_sadd (by simp only [oneB_size, b16_size, ByteArray.size_append]; omega))) <| das rfl rfl rfl rfl (asg rfl) (zsub (.cons _ <| .cons_cons _ <| .cons_cons _ <| List.nil_sublist _)) <| dend <| xq_then <| xc_ret <| leave1 (.inl rfl) rfl (.tmp rfl) fun W hW => (⟨rfl, hW.below⟩)

noncomputable def leafNodeF (z : Int) (l : Leaf) : Nd := ⟨(shaF (leafTextF l)).extract 0 z.toNat, l.bal⟩
theorem leafnode_ok {w : World} (hG : Glob w) {z : Int} (hz : mayWidthF z = true) {l : Leaf} (hm : mayLeafF l = true) (h1 : l.id.size ≤ 65536) (h2 : l.salt.size ≤ 65536) : RetV Tryz.prog 108 [.int .i64 z, l.V] w (leafNodeF z l).V := by
  refine begin_ Tryz.func108 rfl rfl rfl ?_
  refine xc_seq <| xc_region <| xe rfl (bx rfl rfl) fun b1 _ => xe rfl (al zo_152) fun b2 _ => xl_nil <| xq_then <| ?_
  refine xc_seq <| xc_seq <| xc_region <| xp rfl (mv rfl) <| xv rfl Tryz.call182 rfl rfl (fun W hW => (maywidth_ok z W)) <| xp rfl (un rfl uk_not) <| xp rfl (mv rfl) <| xl_or 4 12 (fun hg1 => xgT rfl rfl rfl hg1 <| xp rfl (ld kd_58 rfl (.tail .head) rfl) <| xgT rfl rfl rfl hg1 <| xv rfl Tryz.call105 rfl rfl (fun W hW => (mayleaf_ok (hG.up hW) (by omega))) <| xgT rfl rfl rfl hg1 <| xp rfl (un rfl uk_not) <| xp rfl (pickF rfl hg1 rfl) <| xl_nil <| xq_or_yes hg1 (.kc rfl <| .kc rfl <| .kc rfl .kn) (fun _ h => h)) (fun hg1 => xgF rfl rfl rfl hg1 <| xgF rfl rfl rfl hg1 <| xgF rfl rfl rfl hg1 <| xp rfl (pickT rfl hg1 rfl) <| xl_nil <| xq_or_no hg1 (.kc rfl <| .kc rfl <| .kc rfl .kn) (fun _ h => h)) <| xl_nil <| xq_then <| xc_cond rfl (fun hc2 => ?_) (fun hc2 => ?_)
  ·
    exfalso; rw [hz, hm] at hc2; cases hc2
  ·
    refine xc_skip <| xq_then <| xc_seq <| xc_draw (canon := [(0, .p), (1, .p), (4, .p), (5, .p), (2, .x), (3, .x), (6, .p), (7, .x)]) (Z := HP _ [cellR b1 _ _]) mixed_ rfl (akp <| akp <| akp <| akp <| akx <| akx <| akp <| akx <| ak0) (zsub (.cons _ <| .cons_cons _ <| List.nil_sublist _)) ?_
    refine dp rfl rfl rfl rfl (mv rfl) <| dp rfl rfl rfl rfl (ld kd_58 rfl .head rfl) <| dp rfl rfl rfl rfl (fa fa_58_3 rfl) <| dp rfl rfl rfl rfl (ld kd_35 rfl .head rfl) <| dv rfl rfl rfl (.inl rfl) rfl Tryz.call184 rfl rfl (fun W hW => (leaftext_ok (hG.up hW) h1 h2)) (zsub (.cons _ <| .cons_cons _ <| List.nil_sublist _)) <| dv rfl rfl rfl (.inl rfl) rfl Tryz.call183 rfl rfl (fun W hW => (tdigest_ok (hG.up hW) hz (by have := leafText_size h1 h2; omega))) (zsub (.cons _ <| .cons_cons _ <| List.nil_sublist _)) <| dp rfl rfl rfl rfl (bd rfl bd_152_0_1) <| dst_ rfl rfl rfl rfl sz_152 rfl rfl rfl rfl .head rfl rfl (zsub (.cons _ <| .cons_cons _ <| List.nil_sublist _)) <| dend <| xq_then <| xc_ret <| leave1 (.inl rfl) rfl (.cell rfl (ld_own kd_152 .head rfl)) fun W hW => (⟨rfl, hW.below⟩)

theorem pad_ok {w : World} (hG : Glob w) {k : ByteArray} (hk : k.size ≤ 1048576) {n : Nat} (hn : n < B64) : RetV Tryz.prog 63 [.string k, .int .u64 n] w (padF_ k n).V := by
  refine begin_ Tryz.func63 rfl rfl rfl ?_
  refine xc_seq <| xc_region <| xe rfl (al zo_58) fun b1 _ => xl_nil <| xq_then <| ?_
  refine xc_seq <| xc_region <| xp rfl (mv rfl) <| xp rfl (mv rfl) <| xv rfl Tryz.call116 rfl rfl (fun W hW => (padsalt_ok (hG.up hW) hk hn)) <| xp rfl (bd rfl bd_58_0_2) <| xs (st sz_58 rfl rfl rfl rfl .head rfl rfl) <| xl_nil <| xq_then <| xc_ret <| leave1 (.inl rfl) rfl (.cell rfl (ld_own kd_58 .head rfl)) fun W hW => (⟨by simp [padF_, noneText, splice], hW.below⟩)

end Go.Eng
end
section
namespace Go.Eng
open Go Go.RowKit Go.Proofs
set_option linter.unusedVariables false
set_option linter.unusedSimpArgs false
set_option maxRecDepth 4000
def maskF (h : Nat) : Int := IntKind.u64.wrap (IntKind.u64.wrap (1 * 2 ^ (min ((h : Int)).toNat IntKind.u64.bits)) - 1)
noncomputable def firstSlotI (k t : ByteArray) (h : Nat) : Int := bitop .and .u64 (numF k (oneB 5 ++ t)) (maskF h)
noncomputable def firstSlotF (k t : ByteArray) (h : Nat) : Nat := (firstSlotI k t h).toNat
theorem firstSlotI_lt (k t : ByteArray) (h : Nat) : 0 ≤ firstSlotI k t h ∧ firstSlotI k t h < 18446744073709551616 := by
  simp only [firstSlotI, bitop]; generalize (BitVec.toNat _ : Nat) = z; rw [wrapU64]; omega
theorem firstSlotF_lt (k t : ByteArray) (h : Nat) : firstSlotF k t h < B64 := by have := firstSlotI_lt k t h; simp only [firstSlotF, B64]; omega
theorem firstSlotI_val (k t : ByteArray) (h : Nat) : firstSlotI k t h = (firstSlotF k t h : Int) := by have := firstSlotI_lt k t h; simp only [firstSlotF]; omega

theorem tfirst_ok {w : World} (hG : Glob w) {k t : ByteArray} (hk : k.size ≤ 1048576) (ht : t.size ≤ 1048575) {h : Nat} (hh : h ≤ 63) : RetV Tryz.prog 94 [.string k, .string t, .int .i64 h] w (.int .u64 (firstSlotF k t h)) := by
  refine begin_ Tryz.func94 rfl rfl rfl ?_
  refine xc_seq <| xc_region <| xp rfl (asg rfl) <| xl_nil <| xq_then <| ?_
  refine xc_seq <| xc_seq <| xc_region <| xp rfl (mv rfl) <| xp rfl (bin rfl rfl bk_lss) <| xp rfl (mv rfl) <| xl_or 3 12 (fun hg1 => xgT rfl rfl rfl hg1 <| xp rfl (mv rfl) <| xgT rfl rfl rfl hg1 <| xp rfl (bin rfl rfl bk_gtr) <| xp rfl (pickF rfl hg1 rfl) <| xl_nil <| xq_or_yes hg1 (.kc rfl <| .kc rfl .kn) (fun _ h => h)) (fun hg1 => xgF rfl rfl rfl hg1 <| xgF rfl rfl rfl hg1 <| xp rfl (pickT rfl hg1 rfl) <| xl_nil <| xq_or_no hg1 (.kc rfl <| .kc rfl .kn) (fun _ h => h)) <| xl_nil <| xq_then <| xc_cond rfl (fun hc2 => ?_) (fun hc2 => ?_)
  ·
    exfalso; simp only [Bool.or_eq_true, decide_eq_true_eq] at hc2; omega
  ·
    refine xc_skip <| xq_then <| xc_seq <| xc_draw (canon := [(0, .p), (3, .p), (6, .p), (7, .p), (8, .p), (1, .x), (2, .x), (4, .p), (5, .x), (9, .p), (10, .x)]) (Z := HP _ []) mixed_ rfl (akp <| akp <| akp <| akp <| akp <| akx <| akx <| akp <| akx <| akp <| akx <| ak0) (zsub (List.nil_sublist _)) ?_
    refine dp rfl rfl rfl rfl (mv rfl) <| dp rfl rfl rfl rfl (mv rfl) <| dp rfl rfl rfl rfl (mv rfl) <| dp rfl rfl rfl rfl (bin rfl rfl (bk_shl (by omega))) <| dp rfl rfl rfl rfl (bin rfl rfl bk_sub) <| de rfl rfl rfl (.inl rfl) (L' := fun b1 => _ :: _) (fun Fr => bs rfl bs_213_1) (fun _ => (zsub (.cons _ <| List.nil_sublist _))) fun b1 _ => das rfl rfl rfl rfl (cvs Tryz.underlying213 Tryz.underlying5 Tryz.underlying9 rfl (fun W hW => oneB_row (c := 5) rfl hW .head)) (zsub (.cons _ <| List.nil_sublist _)) <| dp rfl rfl rfl rfl (bin rfl rfl (bk_sadd (by rw [oneB_size]; omega))) <| dv rfl rfl rfl (.inl rfl) rfl Tryz.call173 rfl rfl (fun W hW => (hnumber_ok (hG.up hW) hk (by rw [ByteArray.size_append, oneB_size]; omega))) (zsub (.cons _ <| List.nil_sublist _)) <| dp rfl rfl rfl rfl (bin rfl rfl bk_and) <| das rfl rfl rfl rfl (asg rfl) (zsub (.cons _ <| List.nil_sublist _)) <| dend <| xq_then <| xc_ret <| leave1 (.inl rfl) rfl (.tmp rfl) fun W hW => (⟨by rw [← firstSlotI_val]; rfl, hW.below⟩)

def ofF (z : Int) (a : Nd) : Bool := (decide (1 ≤ z) && decide (z ≤ 32)) && ((a.hash.size : Int) == z)
theorem nodof_ok (z : Int) (a : Nd) (w : World) : RetV Tryz.prog 152 [.int .i64 z, a.V] w (.bool (ofF z a)) := by
  refine begin_ Tryz.func152 rfl rfl rfl ?_
  refine xc_seq <| xc_region <| xe rfl (bx rfl rfl) fun b1 _ => xp rfl (asg rfl) <| xl_nil <| xq_then <| ?_
  refine xc_seq <| xc_region <| xp rfl (mv rfl) <| xp rfl (bin rfl rfl bk_geq) <| xp rfl (mv rfl) <| xl_and 3 10 (fun hg1 => xgT rfl rfl rfl hg1 <| xp rfl (mv rfl) <| xgT rfl rfl rfl hg1 <| xp rfl (bin rfl rfl bk_leq) <| xp rfl (pickT rfl hg1 rfl) <| xl_nil <| xq_and_yes hg1 (.kc rfl <| .kc rfl .kn) (fun _ h => h)) (fun hg1 => xgF rfl rfl rfl hg1 <| xgF rfl rfl rfl hg1 <| xp rfl (pickF rfl hg1 rfl) <| xl_nil <| xq_and_no hg1 (.kc rfl <| .kc rfl .kn) (fun _ h => h)) <| xp rfl (mv rfl) <| xl_and 6 17 (fun hg2 => xgT rfl rfl rfl hg2 <| xp rfl (fa fa_152_0 rfl) <| xgT rfl rfl rfl hg2 <| xp rfl (ld kd_9 rfl .head rfl) <| xgT rfl rfl rfl hg2 <| xp rfl (lens Tryz.underlying9 rfl) <| xgT rfl rfl rfl hg2 <| xp rfl (mv rfl) <| xgT rfl rfl rfl hg2 <| xp rfl (bin rfl rfl bk_eql) <| xp rfl (pickT rfl hg2 rfl) <| xl_nil <| xq_and_yes hg2 (.kc rfl <| .kc rfl <| .kc rfl <| .kc rfl <| .kc rfl .kn) (fun _ h => h)) (fun hg2 => xgF rfl rfl rfl hg2 <| xgF rfl rfl rfl hg2 <| xgF rfl rfl rfl hg2 <| xgF rfl rfl rfl hg2 <| xgF rfl rfl rfl hg2 <| xp rfl (pickF rfl hg2 rfl) <| xl_nil <| xq_and_no hg2 (.kc rfl <| .kc rfl <| .kc rfl <| .kc rfl <| .kc rfl .kn) (fun _ h => h)) <| xp rfl (asg rfl) <| xl_nil <| xq_then <| xc_ret <| leave1 (.inl rfl) rfl (.tmp rfl) fun W hW => (⟨rfl, hW.below⟩)

noncomputable def joinF (z : Int) (a b : Nd) : Nd := ⟨(shaF (nodeTextF a b)).extract 0 z.toNat, a.sum + b.sum⟩
theorem nodeText_size {a b : Nd} (h1 : a.hash.size ≤ 65536) (h2 : b.hash.size ≤ 65536) : (nodeTextF a b).size ≤ 262144 := by
  simp only [nodeTextF, ByteArray.size_append, oneB_size, b16_size]; omega
theorem join_ok {w : World} (hG : Glob w) {z : Int} {a b : Nd} (h1 : ofF z a = true) (h2 : ofF z b = true) (hs : a.sum + b.sum < BB) : RetV Tryz.prog 120 [.int .i64 z, a.V, b.V] w (.tuple #[(joinF z a b).V, .int .i64 0]) := by
  have hz : mayWidthF z = true := by simp only [ofF, Bool.and_eq_true] at h1; simpa [mayWidthF] using h1.1
  have hz2 : 1 ≤ z ∧ z ≤ 32 := by simpa [mayWidthF] using hz
  have ha : (a.hash.size : Int) = z := by simp only [ofF, Bool.and_eq_true] at h1; exact eq_of_beq h1.2
  have hb : (b.hash.size : Int) = z := by simp only [ofF, Bool.and_eq_true] at h2; exact eq_of_beq h2.2
  have hts := nodeText_size (a := a) (b := b) (by omega) (by omega)
  refine begin_ Tryz.func120 rfl rfl rfl ?_
  refine xc_seq <| xc_region <| xe rfl (bx rfl rfl) fun b1 _ => xe rfl (bx rfl rfl) fun b2 _ => xe rfl (al zo_152) fun b3 _ => xp rfl (asg rfl) <| xl_nil <| xq_then <| ?_
  refine xc_seq <| xc_seq <| xc_region <| xp rfl (mv rfl) <| xp rfl (ld kd_152 rfl (.tail <| .tail .head) rfl) <| xv rfl Tryz.call152 rfl rfl (fun W hW => (nodof_ok z _ W)) <| xp rfl (un rfl uk_not) <| xp rfl (mv rfl) <| xl_or 5 19 (fun hg1 => xgT rfl rfl rfl hg1 <| xp rfl (mv rfl) <| xgT rfl rfl rfl hg1 <| xp rfl (ld kd_152 rfl (.tail .head) rfl) <| xgT rfl rfl rfl hg1 <| xv rfl Tryz.call152 rfl rfl (fun W hW => (nodof_ok z _ W)) <| xgT rfl rfl rfl hg1 <| xp rfl (un rfl uk_not) <| xp rfl (pickF rfl hg1 rfl) <| xl_nil <| xq_or_yes hg1 (.kc rfl <| .kc rfl <| .kc rfl <| .kc rfl .kn) (fun _ h => h)) (fun hg1 => xgF rfl rfl rfl hg1 <| xgF rfl rfl rfl hg1 <| xgF rfl rfl rfl hg1 <| xgF rfl rfl rfl hg1 <| xp rfl (pickT rfl hg1 rfl) <| xl_nil <| xq_or_no hg1 (.kc rfl <| .kc rfl <| .kc rfl <| .kc rfl .kn) (fun _ h => h)) <| xl_nil <| xq_then <| xc_cond rfl (fun hc2 => ?_) (fun hc2 => ?_)
  ·
    exfalso; rw [h1, h2] at hc2; cases hc2
  ·
    refine xc_skip <| xq_then <| xc_seq <| xc_region <| xp rfl (fa fa_152_1 rfl) <| xp rfl (ld kd_35 rfl (.tail <| .tail .head) rfl) <| xp rfl (fa fa_152_1 rfl) <| xp rfl (ld kd_35 rfl (.tail .head) rfl) <| xv rfl Tryz.call26 rfl rfl (fun W hW => (add_ok _ _ (by omega) (by omega) W)) <| xp rfl (mv rfl) <| xp rfl (ext rfl rfl) <| xp rfl (ext rfl rfl) <| xe rfl (al zo_35) fun b4 _ => xs (st sz_35 rfl rfl rfl rfl .head rfl rfl) <| xp rfl (asg rfl) <| xl_nil <| xq_then <| ?_
    refine xc_seq <| xc_seq <| xc_region <| xp rfl (mv rfl) <| xp rfl (bin rfl rfl bk_neq) <| xl_nil <| xq_then <| xc_cond rfl (fun hc3 => ?_) (fun hc3 => ?_)
    ·
      exfalso; simp [hs] at hc3
    ·
      refine xc_skip <| xq_then <| xc_seq <| xc_draw (canon := [(0, .p), (1, .p), (2, .p), (5, .p), (3, .x), (4, .x), (6, .p), (7, .x), (8, .x)]) (Z := HP _ [cellR b4 _ _, cellR b2 _ _, cellR b1 _ _]) mixed_ rfl (akp <| akp <| akp <| akp <| akx <| akx <| akp <| akx <| akx <| ak0) (zsub (.cons_cons _ <| .cons _ <| .cons_cons _ <| .cons_cons _ <| List.nil_sublist _)) ?_
      refine dp rfl rfl rfl rfl (mv rfl) <| dp rfl rfl rfl rfl (ld kd_152 rfl (.tail <| .tail .head) rfl) <| dp rfl rfl rfl rfl (ld kd_152 rfl (.tail .head) rfl) <| dp rfl rfl rfl rfl (ld kd_35 rfl .head rfl) <| dv rfl rfl rfl (.inl rfl) rfl Tryz.call192 rfl rfl (fun W hW => (nodetext_ok (by omega) (by omega) W)) (zsub (.cons_cons _ <| .cons _ <| .cons_cons _ <| .cons_cons _ <| List.nil_sublist _)) <| dv rfl rfl rfl (.inl rfl) rfl Tryz.call183 rfl rfl (fun W hW => (tdigest_ok (hG.up hW) hz (by omega))) (zsub (.cons_cons _ <| .cons _ <| .cons_cons _ <| .cons_cons _ <| List.nil_sublist _)) <| dp rfl rfl rfl rfl (bd rfl bd_152_0_1) <| dst_ rfl rfl rfl rfl sz_152 rfl rfl rfl rfl (.tail .head) rfl rfl (zsub (.cons_cons _ <| .cons _ <| .cons_cons _ <| .cons_cons _ <| List.nil_sublist _)) <| das rfl rfl rfl rfl (asg rfl) (zsub (.cons_cons _ <| .cons _ <| .cons_cons _ <| .cons_cons _ <| List.nil_sublist _)) <| dend <| xq_then <| xc_ret <| leave2 (.inl rfl) rfl (.cell rfl (ld_own kd_152 (.tail .head) rfl)) (.tmp rfl) fun W hW => (⟨by simp only [if_pos hs]; rfl, hW.below⟩)

end Go.Eng
end
section
namespace Go.Eng
open Go Go.RowKit Go.Proofs
set_option linter.unusedVariables false
set_option linter.unusedSimpArgs false
set_option maxRecDepth 4000
def oddR (x : Nat) : Bool := decide ((x : Int) < 48) || decide (57 < (x : Int))

theorem odd_ok (x : Nat) (w : World) : RetV Tryz.prog 264 [.int .i32 x] w (.bool (oddR x)) := by
  refine begin_ Tryz.func264 rfl rfl rfl ?_
  refine xc_seq <| xc_region <| xp rfl (asg rfl) <| xl_nil <| xq_then <| ?_
  refine xc_seq <| xc_region <| xp rfl (mv rfl) <| xp rfl (bin rfl rfl bk_lss) <| xp rfl (mv rfl) <| xl_or 3 8 (fun hg1 => xgT rfl rfl rfl hg1 <| xp rfl (mv rfl) <| xgT rfl rfl rfl hg1 <| xp rfl (bin rfl rfl bk_gtr) <| xp rfl (pickF rfl hg1 rfl) <| xl_nil <| xq_or_yes hg1 (.kc rfl <| .kc rfl .kn) (fun _ h => h)) (fun hg1 => xgF rfl rfl rfl hg1 <| xgF rfl rfl rfl hg1 <| xp rfl (pickT rfl hg1 rfl) <| xl_nil <| xq_or_no hg1 (.kc rfl <| .kc rfl .kn) (fun _ h => h)) <| xp rfl (asg rfl) <| xl_nil <| xq_then <| xc_ret <| leave1 (.inl rfl) rfl (.tmp rfl) fun W hW => (⟨rfl, hW.below⟩)

def hasOdd (s : ByteArray) : Bool := decide (0 ≤ Lib.idxFunc oddR true s)
theorem cfunc_ok (s : ByteArray) (w : World) : RetV Tryz.prog 265 [.string s, .func (.func 264) #[] #[]] w (.bool (hasOdd s)) :=
  Tryz.strings_ContainsFunc_grows 264 #[] Tryz.call264 oddR s w (fun W x _ _ => odd_ok x W)
def dgt (c : UInt8) : Nat := (IntKind.u8.wrap ((c.toNat : Int) - 48)).toNat
theorem dgt_val (c : UInt8) : IntKind.u8.wrap ((c.toNat : Int) - 48) = (dgt c : Int) ∧ dgt c < 256 := by
  have h : 0 ≤ IntKind.u8.wrap ((c.toNat : Int) - 48) ∧ IntKind.u8.wrap ((c.toNat : Int) - 48) < 256 := by simp only [IntKind.wrap, IntKind.bits, IntKind.signed]; simp; omega
  simp only [dgt]; omega
theorem of_dgt (c : UInt8) (w : World) : RetV Tryz.prog 247 [.int .u64 (IntKind.u64.wrap (IntKind.u8.wrap ((c.toNat : Int) - 48)))] w (U (dgt c)) := by
  have h := of_ok (dgt c) (by have := (dgt_val c).2; simp only [B64]; omega) w
  rwa [(dgt_val c).1, wrapU64, Nat.mod_eq_of_lt (by have := (dgt_val c).2; omega)]
def decV (l : List UInt8) : Nat → Nat
  | 0 => 0
  | k + 1 => decV l k * 10 + dgt (l.getD k 0)
theorem decV_mono (l : List UInt8) {i j : Nat} (h : i ≤ j) : decV l i ≤ decV l j := by
  induction h with
  | refl => exact Nat.le_refl _
  | step _ ih => simp only [decV]; omega
def decBad (s : ByteArray) : Bool := (s.toList == noneText.toList || hasOdd s) || (decide (1 < (s.size : Int)) && ((byteD s 0 : Nat) : Int) == 48)
def decN (s : ByteArray) : Nat := if decBad s then 0 else if decV s.data.toList s.size < BB then decV s.data.toList s.size else 0
def decE (s : ByteArray) : Int := if decBad s then 20 else if decV s.data.toList s.size < BB then 0 else 10

theorem parse_ok {s : ByteArray} (hs : s.size ≤ 1048576) (w : World) : RetV Tryz.prog 226 [.string s] w (.tuple #[U (decN s), .int .i64 (decE s)]) := by
  have hsl : s.data.toList.length = s.size := by simp
  refine begin_ Tryz.func226 rfl rfl rfl ?_
  refine xc_seq <| xc_region <| xe rfl (al zo_35) fun b1 _ => xp rfl (asg rfl) <| xl_nil <| xq_then <| ?_
  refine xc_seq <| xc_region <| xp rfl (asg rfl) <| xl_nil <| xq_then <| ?_
  refine xc_seq <| xc_seq <| xc_region <| xp rfl (mv rfl) <| xp rfl (bin rfl rfl bk_seql) <| xp rfl (mv rfl) <| xl_or 4 18 (fun hg1 => xgT rfl rfl rfl hg1 <| xp rfl (mv rfl) <| xgT rfl rfl rfl hg1 <| xp rfl (mv rfl) <| xgT rfl rfl rfl hg1 <| xv rfl Tryz.call265 rfl rfl (fun W hW => (cfunc_ok s W)) <| xp rfl (pickF rfl hg1 rfl) <| xl_nil <| xq_or_yes hg1 (.kc rfl <| .kc rfl <| .kc rfl .kn) (fun _ h => h)) (fun hg1 => xgF rfl rfl rfl hg1 <| xgF rfl rfl rfl hg1 <| xgF rfl rfl rfl hg1 <| xp rfl (pickT rfl hg1 rfl) <| xl_nil <| xq_or_no hg1 (.kc rfl <| .kc rfl <| .kc rfl .kn) (fun _ h => h)) <| xp rfl (mv rfl) <| xl_or 9 28 (fun hg2 => xgT rfl rfl rfl hg2 <| xp rfl (mv rfl) <| xgT rfl rfl rfl hg2 <| xp rfl (lens Tryz.underlying9 rfl) <| xgT rfl rfl rfl hg2 <| xp rfl (bin rfl rfl bk_gtr) <| xgT rfl rfl rfl hg2 <| xp rfl (mv rfl) <| xl_and 4 27 (fun hg3 => xgT rfl rfl rfl hg3 <| xp rfl (mv rfl) <| xgT rfl rfl rfl hg3 <| xp rfl (sx Tryz.underlying9 rfl rfl (by decide) (by have h := of_decide_eq_true hg3; show 0 < s.size; omega)) <| xgT rfl rfl rfl hg3 <| xp rfl (bin rfl rfl bk_eql) <| xgT rfl rfl rfl hg2 <| xp rfl (pickT rfl hg3 rfl) <| xl_nil <| xq_and_yes hg3 (.kc rfl <| .kc rfl <| .kc rfl .kn) (fun _ h => h)) (fun hg3 => xgF rfl rfl rfl hg3 <| xgF rfl rfl rfl hg3 <| xgF rfl rfl rfl hg3 <| xgT rfl rfl rfl hg2 <| xp rfl (pickF rfl hg3 rfl) <| xl_nil <| xq_and_no hg3 (.kc rfl <| .kc rfl <| .kc rfl .kn) (fun _ h => h)) <| xp rfl (pickF rfl hg2 rfl) <| xl_nil <| xq_or_yes hg2 (.kc rfl <| .kc rfl <| .kc rfl <| .kc rfl <| .kc rfl .kn) (fun _ h => h)) (fun hg2 => xgF rfl rfl rfl hg2 <| xgF rfl rfl rfl hg2 <| xgF rfl rfl rfl hg2 <| xgF rfl rfl rfl hg2 <| xgU rfl rfl rfl <| xgU rfl rfl rfl <| xgU rfl rfl rfl <| xgF rfl rfl rfl hg2 <| xp rfl (pickT rfl hg2 rfl) <| xl_nil <| xq_or_no hg2 (.kc rfl <| .kc rfl <| .kc rfl <| .kc rfl <| .kc rfl <| .kc rfl <| .kc rfl <| .kc rfl .kn) (fun _ h => h)) <| xl_nil <| xq_then <| xc_cond rfl (fun hc4 => ?_) (fun hc4 => ?_)
  ·
    refine xc_seq <| xc_region <| xp rfl (bd rfl bd_35_) <| xs (st sz_35 rfl rfl rfl rfl .head rfl rfl) <| xp rfl (asg rfl) <| xl_nil <| xq_then <| xc_ret <| xq_then_ret <| leave2 (.inl rfl) rfl (.cell rfl (ld_own kd_35 .head rfl)) (.tmp rfl) fun W hW => (⟨by have hb : decBad s = true := hc4; simp [decN, decE, hb, splice], hW.below⟩)
  ·
    have hb : decBad s = false := hc4
    refine xc_skip <| xq_then <| xc_seq <| xc_region <| xe rfl (al zo_35) fun b2 _ => xl_nil <| xq_then <| ?_
    refine xc_seq <| xc_seq <| xc_region <| xp rfl (mv rfl) <| xe rfl (cvb Tryz.underlying9 Tryz.underlying213 Tryz.underlying5 rfl) fun b3 _ => xp rfl (lenv Tryz.underlying213 rfl) <| xp rfl (mv rfl) <| xl_nil <| xq_then <| xc_block <| xc_loopP (σ := Nat) (fun k => [(33, .int .i64 k), (2, _), (5, _), (31, _), (32, _)]) (fun k => k ≤ s.size ∧ decV s.data.toList k < BB) (fun k => HP w [markR b3.1 5 (Lib.byteCells s.data.toList ++ List.replicate (b3.2 - s.size) (.int .u8 0)), cellR b2 35 (uc (decV s.data.toList k)), cellR b1 35 [.int .u64 0, .int .u64 0]]) (fun k => s.size - k) 0 ⟨Nat.zero_le _, show 0 < BB by decide⟩ (sc rfl <| sc rfl <| sc rfl <| sc rfl <| sc rfl <| sn) (fun W hW => by rw [byteCells_lib] at hW; simpa [uc, hiV, loV, decV] using hW) fun k ⟨hk, hv⟩ => ?_
    refine xc_seq <| xc_region <| xp rfl (bin rfl rfl bk_lss) <| xl_nil <| xq_then <| xc_seq <| xc_cond rfl (fun hc5 => ?_) (fun hc5 => ?_)
    ·
      have hk1 : k < s.data.toList.length := by have h := of_decide_eq_true hc5; omega
      have hx : s.data.toList[k]? = some (s.data.toList.getD k 0) := by rw [List.getD_eq_getElem?_getD, List.getElem?_eq_getElem hk1]; rfl
      have hd := (dgt_val (s.data.toList.getD k 0)).2
      have hstep : decV s.data.toList (k + 1) = decV s.data.toList k * 10 + dgt (s.data.toList.getD k 0) := rfl
      have hmono := decV_mono s.data.toList (show k + 1 ≤ s.size by omega)
      refine xc_skip <| xq_then <| xc_seq <| xc_block <| xc_seq <| xc_region <| xp rfl (ix so_213 rfl rfl (by omega) (by omega)) <| xp rfl (ldc kd_5 rfl (vs := _) (fun W hW => mark_at hW .head hx) rfl) <| xp rfl (asg rfl) <| xl_nil <| xq_then <| ?_
      refine xc_seq <| xc_region <| xp rfl (ld kd_35 rfl (.tail .head) rfl) <| xv rfl Tryz.call266 rfl rfl (fun W hW => (times_ok _ 10 hv (by decide) W)) <| xp rfl (mv rfl) <| xp rfl (ext rfl rfl) <| xp rfl (ext rfl rfl) <| xe rfl (al zo_35) fun b4 _ => xs (st sz_35 rfl rfl rfl rfl .head rfl rfl) <| xp rfl (asg rfl) <| xl_nil <| xq_then <| ?_
      refine xc_seq <| xc_draw (canon := [(0, .p), (1, .p), (2, .p), (3, .p), (4, .x), (5, .x), (6, .p), (7, .p), (8, .p), (9, .a), (10, .x), (11, .x)]) (Z := HP _ [cellR b4 _ _, _, cellR b2 _ _, cellR b1 _ _]) mixed_ rfl (akp <| akp <| akp <| akp <| akx <| akx <| akp <| akp <| akp <| aka rfl rfl rfl rfl rfl zo_35 <| akx <| akx <| ak0) (zsub (.cons_cons _ <| .cons_cons _ <| .cons_cons _ <| .cons_cons _ <| List.nil_sublist _)) ?_
      refine dp rfl rfl rfl rfl (ld kd_35 rfl .head rfl) <| dp rfl rfl rfl rfl (mv rfl) <| dp rfl rfl rfl rfl (bin rfl rfl bk_sub) <| dp rfl rfl rfl rfl (cv rfl (cvi Tryz.underlying5 Tryz.underlying33)) <| dv rfl rfl rfl (.inl rfl) rfl Tryz.call247 rfl rfl (fun W hW => (of_dgt _ W)) (zsub (.cons_cons _ <| .cons_cons _ <| .cons_cons _ <| .cons_cons _ <| List.nil_sublist _)) <| dv rfl rfl rfl (.inl rfl) rfl Tryz.call26 rfl rfl (fun W hW => (add_ok _ _ (by split <;> omega) (by simp only [BB]; omega) W)) (zsub (.cons_cons _ <| .cons_cons _ <| .cons_cons _ <| .cons_cons _ <| List.nil_sublist _)) <| dp rfl rfl rfl rfl (mv rfl) <| dp rfl rfl rfl rfl (ext rfl rfl) <| dp rfl rfl rfl rfl (ext rfl rfl) <| da rfl rfl rfl rfl rfl zo_35 fun b5 => dst_ rfl rfl rfl rfl sz_35 rfl rfl rfl rfl .head rfl rfl (zsub (.cons _ <| .cons_cons _ <| .cons_cons _ <| .cons_cons _ <| .cons_cons _ <| List.nil_sublist _)) <| das rfl rfl rfl rfl (asg rfl) (zsub (.cons _ <| .cons_cons _ <| .cons_cons _ <| .cons_cons _ <| .cons_cons _ <| List.nil_sublist _)) <| dend <| xq_then <| ?_
      refine xc_seq <| xc_seq <| xc_region <| xp rfl (mv rfl) <| xp rfl (bin rfl rfl bk_neq) <| xp rfl (mv rfl) <| xl_or 3 56 (fun hg6 => xgT rfl rfl rfl hg6 <| xp rfl (mv rfl) <| xgT rfl rfl rfl hg6 <| xp rfl (bin rfl rfl bk_neq) <| xp rfl (pickF rfl hg6 rfl) <| xl_nil <| xq_or_yes hg6 (.kc rfl <| .kc rfl .kn) (fun _ h => h)) (fun hg6 => xgF rfl rfl rfl hg6 <| xgF rfl rfl rfl hg6 <| xp rfl (pickT rfl hg6 rfl) <| xl_nil <| xq_or_no hg6 (.kc rfl <| .kc rfl .kn) (fun _ h => h)) <| xl_nil <| xq_then <| xc_cond rfl (fun hc7 => ?_) (fun hc7 => ?_)
      ·
        have hov : ¬ decV s.data.toList (k + 1) < BB := fun h => by
          rw [hstep] at h; have h2 : decV s.data.toList k * 10 < BB := by omega
          simp only [if_pos h2, if_pos h] at hc7; exact absurd hc7 (by decide)
        refine xc_seq <| xc_region <| xp rfl (bd rfl bd_35_) <| xs (st sz_35 rfl rfl rfl rfl (.tail <| .tail <| .tail <| .tail .head) rfl rfl) <| xp rfl (asg rfl) <| xl_nil <| xq_then <| xc_ret <| xq_then_ret <| xq_in_ret <| xq_then_ret <| xq_then_ret <| xq_in_ret <| xq_then_ret <| leave2 (.inl rfl) rfl (.cell rfl (ld_own kd_35 (.tail <| .tail <| .tail <| .tail .head) rfl)) (.tmp rfl) fun W hW => (⟨by simp [decN, decE, hb, splice, show ¬ decV s.data.toList s.size < BB by omega], hW.below⟩)
      ·
        have hov2 : decV s.data.toList k * 10 < BB := Classical.byContradiction fun h2 => by
          simp only [if_neg h2] at hc7; rw [Bool.or_eq_false_iff] at hc7; exact absurd hc7.1 (by decide)
        have hov : decV s.data.toList (k + 1) < BB := Classical.byContradiction fun h => by
          rw [hstep] at h; simp only [if_pos hov2, if_neg h] at hc7; exact absurd hc7 (by decide)
        refine xc_skip <| xq_then <| xc_region <| xp rfl (ld kd_35 rfl .head rfl) <| xs (st sz_35 rfl rfl rfl rfl (.tail <| .tail <| .tail .head) rfl rfl) <| xl_nil <| xq_in <| xq_then <| ?_
        refine xc_region <| xp rfl (bin rfl rfl bk_add) <| xp rfl (mv rfl) <| xl_nil <| xq_roundP (k + 1) (⟨by omega, hov⟩) (by omega) (sc (iw (by omega) (by omega) (by omega) rfl) <| sc rfl <| sc rfl <| sc rfl <| sc rfl <| sn) (fun W hW => by  simp only [if_pos hov2, ← hstep, if_pos hov] at hW; exact hW.sub (.cons _ <| .cons _ <| .refl _))
    ·
      obtain rfl : k = s.size := by have h := of_decide_eq_false hc5; omega
      refine xc_exit <| xq_then_exit <| xq_then_exit <| xq_in_hit <| xq_then <| xc_seq <| xc_region <| xp rfl (ld kd_35 rfl (.tail .head) rfl) <| xs (st sz_35 rfl rfl rfl rfl (.tail <| .tail .head) rfl rfl) <| xp rfl (asg rfl) <| xl_nil <| xq_then <| xc_ret <| leave2 (.inl rfl) rfl (.cell rfl (ld_own kd_35 (.tail <| .tail .head) rfl)) (.tmp rfl) fun W hW => (⟨by simp only [decN, decE, hb, if_pos hv, Bool.false_eq_true, if_false]; rfl, hW.below⟩)

end Go.Eng
end
section
namespace Go.Eng
open Go Go.RowKit Go.Proofs
set_option linter.unusedVariables false
set_option linter.unusedSimpArgs false
set_option maxRecDepth 4000
def hashB : ByteArray := ⟨#[35]⟩
def kindF (s : ByteArray) : Int := bif (s.toList == noneText.toList) then 0 else bif (Lib.hasPrefix s.data.toList hashB.data.toList) then 1 else 2

theorem kind_ok (s : ByteArray) (w : World) : RetV Tryz.prog 162 [.string s] w (.int .u8 (kindF s)) := by
  refine begin_ Tryz.func162 rfl rfl rfl ?_
  refine xc_seq <| xc_region <| xp rfl (asg rfl) <| xl_nil <| xq_then <| ?_
  refine xc_seq <| xc_block <| xc_seq <| xc_region <| xp rfl (mv rfl) <| xp rfl (bin rfl rfl bk_seql) <| xp rfl (asg rfl) <| xl_nil <| xq_then <| xc_cond rfl (fun hc1 => ?_) (fun hc1 => ?_)
  ·
    refine xc_seq <| xc_region <| xp rfl (asg rfl) <| xl_nil <| xq_then <| xc_ret <| xq_in_ret <| xq_then_ret <| leave1 (.inl rfl) rfl (.tmp rfl) fun W hW => (⟨by simp only [kindF, show (s.toList == noneText.toList) = true from hc1, cond_true], hW.below⟩)
  ·
    refine xc_seq <| xc_region <| xp rfl (mv rfl) <| xv rfl Tryz.call224 rfl rfl (fun W hW => (RetV.of (Tryz.strings_HasPrefix s hashB W))) <| xp rfl (asg rfl) <| xl_nil <| xq_then <| xc_cond rfl (fun hc2 => ?_) (fun hc2 => ?_)
    ·
      refine xc_seq <| xc_region <| xp rfl (asg rfl) <| xl_nil <| xq_then <| xc_ret <| xq_in_ret <| xq_then_ret <| leave1 (.inl rfl) rfl (.tmp rfl) fun W hW => (⟨by simp only [kindF, show (s.toList == noneText.toList) = false from hc1, hc2, cond_true, cond_false], hW.below⟩)
    ·
      refine xc_skip <| xq_in <| xq_then <| xc_seq <| xc_region <| xp rfl (asg rfl) <| xl_nil <| xq_then <| xc_ret <| leave1 (.inl rfl) rfl (.tmp rfl) fun W hW => (⟨by simp only [kindF, show (s.toList == noneText.toList) = false from hc1, hc2, cond_false], hW.below⟩)

def runesN (s : ByteArray) : Nat := if Lib.validD s.data.toList then Lib.runeCount s else 0
def runesE (s : ByteArray) : Int := if Lib.validD s.data.toList then 0 else 90

theorem runes_ok {w : World} (hG : Glob w) {s : ByteArray} (hs : s.size ≤ 1048576) : Ret Tryz.prog 225 [.string s] w (fun q : Option Addr × Nat => .tuple #[.slice q.1 (runesN s) q.2, .int .i64 (runesE s)]) (fun _ => True) (fun _ => []) := by
  have hrl := Lib.runeCountFrom_le s s.size 0
  refine begin_ Tryz.func225 rfl rfl rfl ?_
  refine xc_seq <| xc_region <| xp rfl (asg rfl) <| xp rfl (asg rfl) <| xl_nil <| xq_then <| ?_
  refine xc_seq <| xc_seq <| xc_region <| xp rfl (mv rfl) <| xv rfl Tryz.call187 rfl rfl (fun W hW => (vstr_ok (hG.up hW) hs)) <| xp rfl (un rfl uk_not) <| xl_nil <| xq_then <| xc_cond rfl (fun hc1 => ?_) (fun hc1 => ?_)
  ·
    have hv : Lib.validD s.data.toList = false := by simpa using hc1
    refine xc_seq <| xc_region <| xp rfl (asg rfl) <| xp rfl (asg rfl) <| xl_nil <| xq_then <| xc_ret <| xq_then_ret <| leave2 (.inl rfl) rfl (.tmp rfl) (.tmp rfl) fun W hW => (⟨(none, 0), by simp [runesN, runesE, hv], trivial, HP.of_below hW.below⟩)
  ·
    have hv : Lib.validD s.data.toList = true := by simpa using hc1
    refine xc_skip <| xq_then <| xc_seq <| xc_region <| xp rfl (asg rfl) <| xl_nil <| xq_then <| ?_
    refine xc_seq <| xc_seq <| xc_toH (HP w [ownR 21 1 (.slice none 0 0) 0 []]) (fun W hW => ownR_nil w W 21 1 hW) ?_
    refine xc_region <| xp rfl (mv rfl) <| xe rfl (rg Tryz.underlying9 rfl) fun b1 _ => xl_nil <| xq_then <| xc_block <| xc_loopP (σ := Nat × Nat × Nat × (Option Addr × Nat) × List Value) (fun q => [(4, .slice q.2.2.2.1.1 q.1 q.2.2.2.1.2), (11, _)]) (fun q => q.1 + Lib.runeCountFrom s q.2.1 q.2.2.1 = Lib.runeCount s ∧ s.size - q.2.2.1 ≤ q.2.1) (fun q => HP w [iterR b1 s q.2.2.1, ownR 21 1 (.slice q.2.2.2.1.1 q.1 q.2.2.2.1.2) q.1 q.2.2.2.2]) (fun q => s.size - q.2.2.1) (0, s.size, 0, (none, 0), []) ⟨by simp [Lib.runeCount], by simp⟩ (sc rfl <| sc rfl <| sn) (fun W hW => hW.sub (.refl _)) fun q ⟨hi, hf⟩ => ?_
    obtain ⟨m, f, pos, A, vs⟩ := q
    simp only at hi hf
    refine xc_seq <| xc_region <| xl_em (pos < s.size) (fun hn1 => ?_) (fun hn1 => ?_)
    ·
      have hn2 : pos < s.size := hn1
      obtain ⟨hdv, hdw⟩ := decode_valid s pos
      obtain ⟨f, rfl⟩ : ∃ f', f = f' + 1 := ⟨f - 1, by omega⟩
      have hst : Lib.runeCountFrom s (f + 1) pos = Lib.runeCountFrom s f (pos + (Utf8.decode s pos).2) + 1 := by simp [Lib.runeCountFrom, hn2]; try omega
      have hrc : Lib.runeCount s ≤ s.size := hrl
      refine xe rfl (nx rfl .head hn1) fun _ _ => xp rfl (ext rfl rfl) <| xl_nil <| xq_then <| xc_seq <| xc_condT rfl rfl <| xc_skip <| xq_then <| ?_
      refine xc_block <| xc_seq <| xc_region <| xp rfl (ext rfl rfl) <| xp rfl (asg rfl) <| xl_nil <| xq_then <| ?_
      refine xc_region <| xp rfl (mv rfl) <| xp rfl (mv rfl) <| xe rfl (bs rfl bs_322_1) fun b2 _ => xe rfl (apS mo_322 rfl rfl (.tail <| .tail .head) rfl (nw .head) (by simp [Value.oneCell']) (by simp only [maxLen]; omega) (by simp only; omega)) fun s1 _ => xp rfl (asg rfl) <| xl_nil <| xq_in <| xq_roundP (m + 1, f, pos + (Utf8.decode s pos).2, s1, vs ++ [.int .i32 (Utf8.decode s pos).1]) (⟨by simp only; omega, by simp only; omega⟩) (by simp only; omega) (sc rfl <| sc rfl <| sn) (fun W hW => hW.sub (.cons _ <| .refl _))
    ·
      have hn2 : ¬ pos < s.size := hn1
      rw [Lib.runeCountFrom_end s f pos hn2] at hi
      refine xp rfl (nxEnd rfl .head hn1) <| xp rfl (ext rfl rfl) <| xl_nil <| xq_then <| xc_seq <| xc_condF rfl rfl <| xc_exit <| xq_then_exit <| xq_then_exit <| xq_in_hit <| xq_then <| ?_
      refine xc_seq <| xc_region <| xp rfl (mv rfl) <| xp rfl (asg rfl) <| xp rfl (asg rfl) <| xl_nil <| xq_then <| xc_ret <| leave2 (.inl rfl) rfl (.tmp rfl) (.tmp rfl) fun W hW => (⟨A, by simp only [runesN, runesE, hv, if_true]; rw [← hi]; rfl, trivial, HP.of_below hW.below⟩)

def wrongF (s : ByteArray) : Int := if Lib.validD s.data.toList then (if 80 < Lib.runeCount s then 91 else 0) else 90
theorem wrong_ok {w : World} (hG : Glob w) {s : ByteArray} (hs : s.size ≤ 1048576) : RetV Tryz.prog 163 [.string s] w (.int .i64 (wrongF s)) := by
  refine begin_ Tryz.func163 rfl rfl rfl ?_
  refine xc_seq <| xc_region <| xp rfl (asg rfl) <| xl_nil <| xq_then <| ?_
  refine xc_seq <| xc_region <| xp rfl (mv rfl) <| xr rfl Tryz.call225 rfl rfl (fun W hW => (runes_ok (hG.up hW) hs)) fun q _ => xp rfl (mv rfl) <| xp rfl (ext rfl rfl) <| xp rfl (ext rfl rfl) <| xp rfl (asg rfl) <| xp rfl (asg rfl) <| xl_nil <| xq_then <| ?_
  refine xc_seq <| xc_seq <| xc_region <| xp rfl (mv rfl) <| xp rfl (bin rfl rfl bk_eql) <| xp rfl (mv rfl) <| xl_and 4 16 (fun hg1 => xgT rfl rfl rfl hg1 <| xp rfl (mv rfl) <| xgT rfl rfl rfl hg1 <| xp rfl (lenv Tryz.underlying322 rfl) <| xgT rfl rfl rfl hg1 <| xp rfl (bin rfl rfl bk_gtr) <| xp rfl (pickT rfl hg1 rfl) <| xl_nil <| xq_and_yes hg1 (.kc rfl <| .kc rfl <| .kc rfl .kn) (fun _ h => h)) (fun hg1 => xgF rfl rfl rfl hg1 <| xgF rfl rfl rfl hg1 <| xgF rfl rfl rfl hg1 <| xp rfl (pickF rfl hg1 rfl) <| xl_nil <| xq_and_no hg1 (.kc rfl <| .kc rfl <| .kc rfl .kn) (fun _ h => h)) <| xl_nil <| xq_then <| xc_cond rfl (fun hc2 => ?_) (fun hc2 => ?_)
  ·
    refine xc_region <| xp rfl (asg rfl) <| xl_nil <| xq_then <| ?_
    refine xc_seq <| xc_region <| xp rfl (mv rfl) <| xp rfl (asg rfl) <| xl_nil <| xq_then <| xc_ret <| leave1 (.inl rfl) rfl (.tmp rfl) fun W hW => (⟨by cases hv : Lib.validD s.data.toList <;> simp [wrongF, runesE, runesN, hv] at hc2 ⊢; omega, hW.below⟩)
  ·
    refine xc_skip <| xq_then <| xc_seq <| xc_region <| xp rfl (mv rfl) <| xp rfl (asg rfl) <| xl_nil <| xq_then <| xc_ret <| leave1 (.inl rfl) rfl (.tmp rfl) fun W hW => (⟨by cases hv : Lib.validD s.data.toList <;> simp [wrongF, runesE, runesN, hv] at hc2 ⊢; omega, hW.below⟩)

theorem each_ok (t : ByteArray) (w : World) : Ret Tryz.prog 83 [.string t] w (fun b : Nat => .func (.func 160) #[] #[.pointer (some ⟨b, 0, none⟩)]) (fun _ => True) (fun b => [cellR b 9 [.string t]]) := by
  refine begin_ Tryz.func83 rfl rfl rfl ?_
  refine xc_seq <| xc_region <| xe rfl (bx rfl rfl) fun b1 _ => xp rfl (asg rfl) <| xl_nil <| xq_then <| ?_
  refine xc_seq <| xc_region <| xp rfl (mf rfl rfl) <| xp rfl (asg rfl) <| xl_nil <| xq_then <| xc_ret <| leave1 (.inl rfl) rfl (.tmp rfl) fun W hW => (⟨b1, rfl, trivial, hW⟩)

structure Ln where (num : Nat) (text : ByteArray)
noncomputable abbrev Ln.c (l : Ln) : List Value := [.int .i64 l.num, .string l.text, .int .u8 (kindF l.text), .int .i64 (wrongF l.text)]
noncomputable abbrev encL (l : Ln) : List Value := [.agg #[.int .i64 l.num, .string l.text, .int .u8 (kindF l.text), .int .i64 (wrongF l.text)]]
/-- A text's lines, from a number on. -/
def cutA (t : ByteArray) : ByteArray := ⟨(Lib.cut t.data.toList [10]).1.toArray⟩
def cutB (t : ByteArray) : ByteArray := ⟨(Lib.cut t.data.toList [10]).2.1.toArray⟩
def cutM (t : ByteArray) : Bool := (Lib.cut t.data.toList [10]).2.2
def linesN : Nat → Nat → ByteArray → List Ln
  | 0, n, t => [⟨n, cutA t⟩]
  | f + 1, n, t => ⟨n, cutA t⟩ :: (bif cutM t then linesN f (n + 1) (cutB t) else [])
def linesF (t : ByteArray) : List Ln := linesN t.size 1 t
theorem cut_ok {w : World} (hG : Glob w) {t : ByteArray} (ht : t.size ≤ 1048576) : RetV Tryz.prog 161 [.string t, .string ⟨#[10]⟩] w (.tuple #[.string (cutA t), .string (cutB t), .bool (cutM t)]) := by
  obtain ⟨m, hm⟩ := hG.m
  exact RetV.ofDrew (Tryz.strings_Cut t ⟨#[10]⟩ m w (by omega) hm)

theorem cut_sizes {t : ByteArray} : (cutA t).size ≤ t.size ∧ (cutM t = true → (cutB t).size + 1 ≤ t.size) := by
  have hl : t.data.toList.length = t.size := by simp
  refine ⟨?_, fun h => ?_⟩
  · show (cutA t).data.size ≤ _
    simp only [cutA, Lib.cut]; split
    · simp; omega
    · simp
  · have h0 : t.size ≠ 0 := fun h0 => by
      have : t.data.toList = [] := List.eq_nil_of_length_eq_zero (by omega)
      simp only [cutM, this] at h; exact absurd h (by decide)
    show (cutB t).data.size + 1 ≤ _
    simp only [cutM, cutB, Lib.cut] at h ⊢
    split
    · simp; omega
    · simp; omega
theorem linesN_step {f n : Nat} {t : ByteArray} (h : t.size ≤ f) : ∃ rest, linesN f n t = ⟨n, cutA t⟩ :: rest ∧ (cutM t = true → ∃ f', f = f' + 1 ∧ rest = linesN f' (n + 1) (cutB t) ∧ (cutB t).size ≤ f') ∧ (cutM t = false → rest = []) := by
  have hc := (cut_sizes (t := t)).2
  cases f with
  | zero => exact ⟨[], rfl, fun hm => by have := hc hm; omega, fun _ => rfl⟩
  | succ f => exact ⟨_, rfl, fun hm => ⟨f, rfl, by rw [hm]; rfl, by have := hc hm; omega⟩, fun hm => by rw [hm]; rfl⟩

theorem each_iter {w1 : World} (hG : Glob w1) {sb : Nat} {t0 : ByteArray} (ht : t0.size ≤ 1000000) : Iter Tryz.prog 160 [.pointer (some ⟨sb, 0, none⟩)] encL [cellR sb 9 [.string t0]] (linesF t0) w1 := by
  intro w0 l J Jx L W hB hW hJ hy
  have hG := hG.below hB
  refine begin_at Tryz.func160 rfl rfl rfl hW ?_
  refine xc_seq <| xc_region <| xp rfl (asg rfl) <| xl_nil <| xq_then <| xc_block <| xc_loopP (σ := ByteArray × Nat × List Ln × List Res × Nat) (fun s => [(3, .int .i64 s.2.1), (0, _), (1, _)]) (fun s => linesF t0 = s.2.2.1 ++ linesN s.2.2.2.2 s.2.1 s.1 ∧ s.1.size ≤ s.2.2.2.2 ∧ s.2.1 + s.1.size ≤ 1 + t0.size ∧ J s.2.2.1 s.2.2.2.1) (fun s => HP w0 (cellR sb 9 [.string s.1] :: s.2.2.2.1)) (fun s => s.1.size) (t0, 1, [], L, t0.size) ⟨by simp [linesF], Nat.le_refl _, Nat.le_refl _, hJ⟩ (sc rfl <| sc rfl <| sc rfl <| sn) (fun W hW => hW.sub (.refl _)) fun s ⟨hall, hm, hn, hj⟩ => ?_
  obtain ⟨t, n, pre, L1, f⟩ := s
  simp only at hall hm hn hj
  obtain ⟨rest, hl, hmore, hless⟩ := linesN_step (n := n) hm
  rw [hl] at hall
  have hcs := cut_sizes (t := t)
  refine xc_seq <| xc_block <| xc_seq <| xc_region <| xp rfl (ld kd_9 rfl .head rfl) <| xv rfl Tryz.call161 rfl rfl (fun W hW => (cut_ok (hG.up hW) (show t.size ≤ _ by omega))) <| xp rfl (mv rfl) <| xp rfl (ext rfl rfl) <| xp rfl (ext rfl rfl) <| xp rfl (ext rfl rfl) <| xp rfl (asg rfl) <| xp rfl (asg rfl) <| xp rfl (asg rfl) <| xl_nil <| xq_then <| ?_
  refine xc_seq <| xc_seq <| xc_region <| xp rfl (mv rfl) <| xp rfl (mv rfl) <| xp rfl (mv rfl) <| xp rfl (mv rfl) <| xv rfl Tryz.call162 rfl rfl (fun W hW => (kind_ok _ W)) <| xp rfl (mv rfl) <| xv rfl Tryz.call163 rfl rfl (fun W hW => (wrong_ok (hG.up hW) (show (cutA t).size ≤ _ by omega))) <| xp rfl (bd rfl bd_168_0_1_2_3) <| xe rfl (yld (Fr := [(cellR sb 9 [.string t])]) (hy _ _ _ hall) hj rfl rfl rfl) fun s hs => xp rfl (un rfl uk_not) <| xp rfl (mv rfl) <| xl_or 3 28 (fun hg1 => xgT rfl rfl rfl hg1 <| xp rfl (mv rfl) <| xgT rfl rfl rfl hg1 <| xp rfl (un rfl uk_not) <| xp rfl (pickF rfl hg1 rfl) <| xl_nil <| xq_or_yes hg1 (.kc rfl <| .kc rfl .kn) (fun _ h => h)) (fun hg1 => xgF rfl rfl rfl hg1 <| xgF rfl rfl rfl hg1 <| xp rfl (pickT rfl hg1 rfl) <| xl_nil <| xq_or_no hg1 (.kc rfl <| .kc rfl .kn) (fun _ h => h)) <| xl_nil <| xq_then <| xc_cond rfl (fun hc2 => ?_) (fun hc2 => ?_)
  ·
    refine xc_ret <| xq_then_ret <| xq_in_ret <| xq_then_ret <| xq_then_ret <| xq_in_ret <| leave0 (.inl rfl) rfl  fun W hW => (⟨⟨_, rfl⟩, s.2, hW.drop, by
      cases hb : s.1 with
      | true =>
        left; rw [hall, hless (by cases hq : cutM t with | false => rfl | true => simp [hb, hq] at hc2)]; exact hs.1 hb
      | false => exact .inr ⟨pre ++ [⟨n, cutA t⟩], rest, by rw [hall]; simp, hs.2 hb⟩⟩)
  ·
    have hc3 : s.1 = true ∧ cutM t = true := by simpa using hc2
    obtain ⟨f2, rfl, hr, hf2⟩ := hmore hc3.2
    refine xc_skip <| xq_then <| xc_region <| xp rfl (mv rfl) <| xs (st sz_9 rfl rfl rfl rfl .head rfl rfl) <| xl_nil <| xq_in <| xq_then <| ?_
    refine xc_region <| xp rfl (mv rfl) <| xp rfl (bin rfl rfl bk_add) <| xp rfl (asg rfl) <| xl_nil <| xq_roundP (cutB t, n + 1, pre ++ [⟨n, cutA t⟩], s.2, f2) (⟨by rw [hall, hr]; simp, hf2, by have := hcs.2 hc3.2; simp only; omega, hs.1 hc3.1⟩) (by have := hcs.2 hc3.2; simp only; omega) (sc (iw (z := (n : Int) + 1) (m := ((n + 1 : Nat) : Int)) (by omega) (by omega) (by omega) rfl) <| sc rfl <| sc rfl <| sn) (fun W hW => hW.sub (.refl _))

end Go.Eng
end
section
namespace Go.Eng
open Go Go.RowKit Go.Proofs
set_option linter.unusedVariables false
set_option linter.unusedSimpArgs false
set_option maxRecDepth 4000
structure Rw where (id : ByteArray) (amt : Nat)
abbrev Rw.c (x : Rw) : List Value := [.string x.id, hiV x.amt, loV x.amt]
abbrev Rw.V (x : Rw) : Value := .agg #[.string x.id, hiV x.amt, loV x.amt]
def rw0 : Rw := ⟨noneText, 0⟩
theorem rw0_c : rw0.c = [.string ByteArray.empty, .int .u64 0, .int .u64 0] := by simp [rw0, noneText]
theorem rw0_V : rw0.V = .agg #[.string ByteArray.empty, .int .u64 0, .int .u64 0] := by simp [rw0, noneText]
def spA (t : ByteArray) : ByteArray := ⟨(Lib.cut t.data.toList [32]).1.toArray⟩
def spB (t : ByteArray) : ByteArray := ⟨(Lib.cut t.data.toList [32]).2.1.toArray⟩
def spM (t : ByteArray) : Bool := (Lib.cut t.data.toList [32]).2.2
theorem sp_sizes {t : ByteArray} : (spA t).size ≤ t.size ∧ (spB t).size ≤ t.size := by
  have hl : t.data.toList.length = t.size := by simp
  refine ⟨?_, ?_⟩
  · show (spA t).data.size ≤ _
    simp only [spA, Lib.cut]; split
    · simp; omega
    · simp
  · show (spB t).data.size ≤ _
    simp only [spB, Lib.cut]; split
    · simp
    · simp
theorem sp_ok {w : World} (hG : Glob w) {t : ByteArray} (ht : t.size ≤ 1048576) : RetV Tryz.prog 161 [.string t, .string ⟨#[32]⟩] w (.tuple #[.string (spA t), .string (spB t), .bool (spM t)]) := by
  obtain ⟨m, hm⟩ := hG.m
  exact RetV.ofDrew (Tryz.strings_Cut t ⟨#[32]⟩ m w (by omega) hm)
def rowE (s : ByteArray) : Int := bif !spM s then 100 else bif !mayIdF (spA s) then 101 else bif decE (spB s) != 0 then 102 else 0
def rowF (s : ByteArray) : Rw := bif !spM s then rw0 else bif !mayIdF (spA s) then rw0 else bif decE (spB s) != 0 then rw0 else ⟨spA s, decN (spB s)⟩

theorem rparse_ok {w : World} (hG : Glob w) {s : ByteArray} (hs : s.size ≤ 1048576) : RetV Tryz.prog 164 [.string s] w (.tuple #[(rowF s).V, .int .i64 (rowE s)]) := by
  have hsz := sp_sizes (t := s)
  refine begin_ Tryz.func164 rfl rfl rfl ?_
  refine xc_seq <| xc_region <| xe rfl (al zo_170) fun b1 _ => xp rfl (asg rfl) <| xl_nil <| xq_then <| ?_
  refine xc_seq <| xc_region <| xp rfl (mv rfl) <| xv rfl Tryz.call161 rfl rfl (fun W hW => (sp_ok (hG.up hW) hs)) <| xp rfl (mv rfl) <| xp rfl (ext rfl rfl) <| xp rfl (ext rfl rfl) <| xp rfl (ext rfl rfl) <| xp rfl (asg rfl) <| xp rfl (asg rfl) <| xp rfl (asg rfl) <| xl_nil <| xq_then <| ?_
  refine xc_seq <| xc_region <| xp rfl (mv rfl) <| xv rfl Tryz.call226 rfl rfl (fun W hW => (parse_ok (by omega) W)) <| xp rfl (mv rfl) <| xp rfl (ext rfl rfl) <| xp rfl (ext rfl rfl) <| xe rfl (al zo_35) fun b2 _ => xs (st sz_35 rfl rfl rfl rfl .head rfl rfl) <| xp rfl (asg rfl) <| xl_nil <| xq_then <| ?_
  refine xc_seq <| xc_block <| xc_seq <| xc_region <| xp rfl (mv rfl) <| xp rfl (un rfl uk_not) <| xp rfl (asg rfl) <| xl_nil <| xq_then <| xc_cond rfl (fun hc1 => ?_) (fun hc1 => ?_)
  ·
    refine xc_seq <| xc_region <| xp rfl (bd rfl bd_170_) <| xs (st sz_170 rfl rfl rfl rfl (.tail .head) rfl rfl) <| xp rfl (asg rfl) <| xl_nil <| xq_then <| xc_ret <| xq_in_ret <| xq_then_ret <| leave2 (.inl rfl) rfl (.cell rfl (ld_own kd_170 (.tail .head) rfl)) (.tmp rfl) fun W hW => (⟨by simp only [rowF, rowE, hc1, cond_true, rw0_V]; rfl, hW.below⟩)
  ·
    refine xc_seq <| xc_region <| xp rfl (mv rfl) <| xv rfl Tryz.call111 rfl rfl (fun W hW => (mayid_ok (hG.up hW) (by omega))) <| xp rfl (un rfl uk_not) <| xp rfl (asg rfl) <| xl_nil <| xq_then <| xc_cond rfl (fun hc2 => ?_) (fun hc2 => ?_)
    ·
      refine xc_seq <| xc_region <| xp rfl (bd rfl bd_170_) <| xs (st sz_170 rfl rfl rfl rfl (.tail .head) rfl rfl) <| xp rfl (asg rfl) <| xl_nil <| xq_then <| xc_ret <| xq_in_ret <| xq_then_ret <| leave2 (.inl rfl) rfl (.cell rfl (ld_own kd_170 (.tail .head) rfl)) (.tmp rfl) fun W hW => (⟨by simp only [rowF, rowE, hc1, hc2, cond_true, cond_false, rw0_V]; rfl, hW.below⟩)
    ·
      refine xc_seq <| xc_region <| xp rfl (mv rfl) <| xp rfl (bin rfl rfl bk_neq) <| xp rfl (asg rfl) <| xl_nil <| xq_then <| xc_cond rfl (fun hc3 => ?_) (fun hc3 => ?_)
      ·
        refine xc_seq <| xc_region <| xp rfl (bd rfl bd_170_) <| xs (st sz_170 rfl rfl rfl rfl (.tail .head) rfl rfl) <| xp rfl (asg rfl) <| xl_nil <| xq_then <| xc_ret <| xq_in_ret <| xq_then_ret <| leave2 (.inl rfl) rfl (.cell rfl (ld_own kd_170 (.tail .head) rfl)) (.tmp rfl) fun W hW => (⟨by simp only [rowF, rowE, hc1, hc2, hc3, cond_true, cond_false, rw0_V]; rfl, hW.below⟩)
      ·
        refine xc_skip <| xq_in <| xq_then <| xc_seq <| xc_region <| xp rfl (mv rfl) <| xp rfl (ld kd_35 rfl .head rfl) <| xp rfl (bd rfl bd_170_0_1) <| xs (st sz_170 rfl rfl rfl rfl (.tail .head) rfl rfl) <| xp rfl (asg rfl) <| xl_nil <| xq_then <| xc_ret <| leave2 (.inl rfl) rfl (.cell rfl (ld_own kd_170 (.tail .head) rfl)) (.tmp rfl) fun W hW => (⟨by simp only [rowF, rowE, hc1, hc2, hc3, cond_false]; rfl, hW.below⟩)

/-- What a line tells: a row, whether there is one, an error. -/
noncomputable def lnE (l : Ln) : Int := bif wrongF l.text != 0 then wrongF l.text else bif kindF l.text != 2 then 0 else rowE l.text
noncomputable def lnIs (l : Ln) : Bool := bif wrongF l.text != 0 then false else bif kindF l.text != 2 then false else rowE l.text == 0
noncomputable def lnF (l : Ln) : Rw := bif wrongF l.text != 0 then rw0 else bif kindF l.text != 2 then rw0 else rowF l.text

theorem rowof_ok {w : World} (hG : Glob w) {l : Ln} (hs : l.text.size ≤ 1048576) : RetV Tryz.prog 84 [.agg l.c.toArray] w (.tuple #[(lnF l).V, .bool (lnIs l), .int .i64 (lnE l)]) := by
  refine begin_ Tryz.func84 rfl rfl rfl ?_
  refine xc_seq <| xc_region <| xe rfl (bx rfl rfl) fun b1 _ => xe rfl (al zo_170) fun b2 _ => xp rfl (asg rfl) <| xp rfl (asg rfl) <| xl_nil <| xq_then <| ?_
  refine xc_seq <| xc_seq <| xc_region <| xp rfl (fa fa_168_3 rfl) <| xp rfl (ld kd_30 rfl (.tail .head) rfl) <| xp rfl (bin rfl rfl bk_neq) <| xl_nil <| xq_then <| xc_cond rfl (fun hc1 => ?_) (fun hc1 => ?_)
  ·
    refine xc_seq <| xc_draw (canon := [(0, .p), (1, .p), (2, .p), (3, .x), (4, .x), (5, .x)]) (Z := HP _ [cellR b1 _ _]) mixed_ rfl (akp <| akp <| akp <| akx <| akx <| akx <| ak0) (zsub (.cons _ <| .cons_cons _ <| List.nil_sublist _)) ?_
    refine dp rfl rfl rfl rfl (bd rfl bd_170_) <| dp rfl rfl rfl rfl (fa fa_168_3 rfl) <| dp rfl rfl rfl rfl (ld kd_30 rfl .head rfl) <| dst_ rfl rfl rfl rfl sz_170 rfl rfl rfl rfl .head rfl rfl (zsub (.cons _ <| .cons_cons _ <| List.nil_sublist _)) <| das rfl rfl rfl rfl (asg rfl) (zsub (.cons _ <| .cons_cons _ <| List.nil_sublist _)) <| das rfl rfl rfl rfl (asg rfl) (zsub (.cons _ <| .cons_cons _ <| List.nil_sublist _)) <| dend <| xq_then <| xc_ret <| xq_then_ret <| leave3 (.inl rfl) rfl (.cell rfl (ld_own kd_170 .head rfl)) (.tmp rfl) (.tmp rfl) fun W hW => (⟨by simp only [lnF, lnIs, lnE, hc1, cond_true, rw0_V]; rfl, hW.below⟩)
  ·
    refine xc_skip <| xq_then <| xc_seq <| xc_seq <| xc_region <| xp rfl (fa fa_168_2 rfl) <| xp rfl (ld kd_5 rfl (.tail .head) rfl) <| xp rfl (bin rfl rfl bk_neq) <| xl_nil <| xq_then <| xc_cond rfl (fun hc2 => ?_) (fun hc2 => ?_)
    ·
      refine xc_seq <| xc_region <| xp rfl (bd rfl bd_170_) <| xs (st sz_170 rfl rfl rfl rfl .head rfl rfl) <| xp rfl (asg rfl) <| xp rfl (asg rfl) <| xl_nil <| xq_then <| xc_ret <| xq_then_ret <| leave3 (.inl rfl) rfl (.cell rfl (ld_own kd_170 .head rfl)) (.tmp rfl) (.tmp rfl) fun W hW => (⟨by simp only [lnF, lnIs, lnE, hc1, hc2, cond_true, cond_false, rw0_V]; rfl, hW.below⟩)
    ·
      refine xc_skip <| xq_then <| xc_seq <| xc_region <| xp rfl (fa fa_168_1 rfl) <| xp rfl (ld kd_9 rfl (.tail .head) rfl) <| xv rfl Tryz.call164 rfl rfl (fun W hW => (rparse_ok (hG.up hW) hs)) <| xp rfl (mv rfl) <| xp rfl (ext rfl rfl) <| xp rfl (ext rfl rfl) <| xe rfl (al zo_170) fun b3 _ => xs (st sz_170 rfl rfl rfl rfl .head rfl rfl) <| xp rfl (asg rfl) <| xl_nil <| xq_then <| ?_
      refine xc_seq <| xc_region <| xp rfl (ld kd_170 rfl .head rfl) <| xp rfl (mv rfl) <| xp rfl (bin rfl rfl bk_eql) <| xp rfl (mv rfl) <| xs (st sz_170 rfl rfl rfl rfl (.tail .head) rfl rfl) <| xp rfl (asg rfl) <| xp rfl (asg rfl) <| xl_nil <| xq_then <| xc_ret <| leave3 (.inl rfl) rfl (.cell rfl (ld_own kd_170 (.tail .head) rfl)) (.tmp rfl) (.tmp rfl) fun W hW => (⟨by simp only [lnF, lnIs, lnE, hc1, hc2, cond_false]; rfl, hW.below⟩)

end Go.Eng
end
section
namespace Go.Eng
open Go Go.RowKit Go.Proofs
set_option linter.unusedVariables false
set_option linter.unusedSimpArgs false
set_option maxRecDepth 4000
def highF (h : Int) : Bool := decide (0 ≤ h) && decide (h ≤ 10)
structure Cfg where (h w : Int) (seed : ByteArray)
abbrev Cfg.c (x : Cfg) : List Value := [.int .i64 x.h, .int .i64 x.w, .string x.seed]
abbrev Cfg.V (x : Cfg) : Value := .agg #[.int .i64 x.h, .int .i64 x.w, .string x.seed]
def cfgE (x : Cfg) : Int := bif decide (x.h < 0) || decide (10 < x.h) then 120 else bif decide (x.w < 1) || decide (32 < x.w) then 70 else bif decide (64 < (x.seed.size : Int)) then 3 else 0

theorem high_ok (h : Int) (w : World) : RetV Tryz.prog 87 [.int .i64 h] w (.bool (highF h)) := by
  refine begin_ Tryz.func87 rfl rfl rfl ?_
  refine xc_seq <| xc_region <| xp rfl (asg rfl) <| xl_nil <| xq_then <| ?_
  refine xc_seq <| xc_region <| xp rfl (mv rfl) <| xp rfl (bin rfl rfl bk_geq) <| xp rfl (mv rfl) <| xl_and 3 8 (fun hg1 => xgT rfl rfl rfl hg1 <| xp rfl (mv rfl) <| xgT rfl rfl rfl hg1 <| xp rfl (bin rfl rfl bk_leq) <| xp rfl (pickT rfl hg1 rfl) <| xl_nil <| xq_and_yes hg1 (.kc rfl <| .kc rfl .kn) (fun _ h => h)) (fun hg1 => xgF rfl rfl rfl hg1 <| xgF rfl rfl rfl hg1 <| xp rfl (pickF rfl hg1 rfl) <| xl_nil <| xq_and_no hg1 (.kc rfl <| .kc rfl .kn) (fun _ h => h)) <| xp rfl (asg rfl) <| xl_nil <| xq_then <| xc_ret <| leave1 (.inl rfl) rfl (.tmp rfl) fun W hW => (⟨rfl, hW.below⟩)

theorem cfgmay_ok (x : Cfg) (w : World) : RetV Tryz.prog 54 [x.V] w (.int .i64 (cfgE x)) := by
  refine begin_ Tryz.func54 rfl rfl rfl ?_
  refine xc_seq <| xc_region <| xe rfl (bx rfl rfl) fun b1 _ => xp rfl (asg rfl) <| xl_nil <| xq_then <| ?_
  refine xc_seq <| xc_block <| xc_seq <| xc_region <| xp rfl (fa fa_23_0 rfl) <| xp rfl (ld kd_3 rfl .head rfl) <| xp rfl (bin rfl rfl bk_lss) <| xp rfl (mv rfl) <| xl_or 4 11 (fun hg1 => xgT rfl rfl rfl hg1 <| xp rfl (fa fa_23_0 rfl) <| xgT rfl rfl rfl hg1 <| xp rfl (ld kd_3 rfl .head rfl) <| xgT rfl rfl rfl hg1 <| xp rfl (bin rfl rfl bk_gtr) <| xp rfl (pickF rfl hg1 rfl) <| xl_nil <| xq_or_yes hg1 (.kc rfl <| .kc rfl <| .kc rfl .kn) (fun _ h => h)) (fun hg1 => xgF rfl rfl rfl hg1 <| xgF rfl rfl rfl hg1 <| xgF rfl rfl rfl hg1 <| xp rfl (pickT rfl hg1 rfl) <| xl_nil <| xq_or_no hg1 (.kc rfl <| .kc rfl <| .kc rfl .kn) (fun _ h => h)) <| xp rfl (asg rfl) <| xl_nil <| xq_then <| xc_cond rfl (fun hc2 => ?_) (fun hc2 => ?_)
  ·
    refine xc_seq <| xc_region <| xp rfl (asg rfl) <| xl_nil <| xq_then <| xc_ret <| xq_in_ret <| xq_then_ret <| leave1 (.inl rfl) rfl (.tmp rfl) fun W hW => (⟨by simp only [cfgE, hc2, cond_true], hW.below⟩)
  ·
    refine xc_seq <| xc_region <| xp rfl (fa fa_23_1 rfl) <| xp rfl (ld kd_3 rfl .head rfl) <| xp rfl (bin rfl rfl bk_lss) <| xp rfl (mv rfl) <| xl_or 4 20 (fun hg3 => xgT rfl rfl rfl hg3 <| xp rfl (fa fa_23_1 rfl) <| xgT rfl rfl rfl hg3 <| xp rfl (ld kd_3 rfl .head rfl) <| xgT rfl rfl rfl hg3 <| xp rfl (bin rfl rfl bk_gtr) <| xp rfl (pickF rfl hg3 rfl) <| xl_nil <| xq_or_yes hg3 (.kc rfl <| .kc rfl <| .kc rfl .kn) (fun _ h => h)) (fun hg3 => xgF rfl rfl rfl hg3 <| xgF rfl rfl rfl hg3 <| xgF rfl rfl rfl hg3 <| xp rfl (pickT rfl hg3 rfl) <| xl_nil <| xq_or_no hg3 (.kc rfl <| .kc rfl <| .kc rfl .kn) (fun _ h => h)) <| xp rfl (asg rfl) <| xl_nil <| xq_then <| xc_cond rfl (fun hc4 => ?_) (fun hc4 => ?_)
    ·
      refine xc_seq <| xc_region <| xp rfl (asg rfl) <| xl_nil <| xq_then <| xc_ret <| xq_in_ret <| xq_then_ret <| leave1 (.inl rfl) rfl (.tmp rfl) fun W hW => (⟨by simp only [cfgE, hc2, hc4, cond_true, cond_false], hW.below⟩)
    ·
      refine xc_seq <| xc_region <| xp rfl (fa fa_23_2 rfl) <| xp rfl (ld kd_9 rfl .head rfl) <| xp rfl (lens Tryz.underlying9 rfl) <| xp rfl (bin rfl rfl bk_gtr) <| xp rfl (asg rfl) <| xl_nil <| xq_then <| xc_cond rfl (fun hc5 => ?_) (fun hc5 => ?_)
      ·
        refine xc_seq <| xc_region <| xp rfl (asg rfl) <| xl_nil <| xq_then <| xc_ret <| xq_in_ret <| xq_then_ret <| leave1 (.inl rfl) rfl (.tmp rfl) fun W hW => (⟨by simp only [cfgE, hc2, hc4, hc5, cond_true, cond_false], hW.below⟩)
      ·
        refine xc_skip <| xq_in <| xq_then <| xc_seq <| xc_region <| xp rfl (asg rfl) <| xl_nil <| xq_then <| xc_ret <| leave1 (.inl rfl) rfl (.tmp rfl) fun W hW => (⟨by simp only [cfgE, hc2, hc4, hc5, cond_false], hW.below⟩)

end Go.Eng
end
section
namespace Go.Eng
open Go Go.RowKit Go.Proofs
set_option linter.unusedVariables false
set_option linter.unusedSimpArgs false
set_option maxRecDepth 4000
structure Ac where (id : ByteArray) (bal : Nat) (salt : ByteArray) (slot : Nat)
abbrev Ac.c (x : Ac) : List Value := [.string x.id, hiV x.bal, loV x.bal, .string x.salt, .int .u64 x.slot]
abbrev Ac.V (x : Ac) : Value := .agg #[.string x.id, hiV x.bal, loV x.bal, .string x.salt, .int .u64 x.slot]
/-- A pair of accounts. -/
structure Pr where (a b : Ac) (there : Int)
abbrev Pr.c (p : Pr) : List Value := [.string p.a.id, hiV p.a.bal, loV p.a.bal, .string p.a.salt, .int .u64 p.a.slot, .string p.b.id, hiV p.b.bal, loV p.b.bal, .string p.b.salt, .int .u64 p.b.slot, .int .i64 p.there]
abbrev Pr.V (p : Pr) : Value := .agg #[.string p.a.id, hiV p.a.bal, loV p.a.bal, .string p.a.salt, .int .u64 p.a.slot, .string p.b.id, hiV p.b.bal, loV p.b.bal, .string p.b.salt, .int .u64 p.b.slot, .int .i64 p.there]
def prId (p : Pr) : ByteArray := bif p.there == 2 then p.b.id else p.a.id
def balEq (a b : Nat) : Bool := ((a / 18446744073709551616 : Nat) : Int) == ((b / 18446744073709551616 : Nat) : Int) && ((a % 18446744073709551616 : Nat) : Int) == ((b % 18446744073709551616 : Nat) : Int)
theorem balEq_iff {a b : Nat} : balEq a b = true ↔ a = b := by
  simp only [balEq, Bool.and_eq_true, beq_iff_eq]; omega
def prWhat (p : Pr) : Int := bif p.there == 1 then 2 else bif p.there == 2 then 1 else bif p.there == 0 then 0 else bif !balEq p.a.bal p.b.bal then 3 else 4

theorem prid_ok (p : Pr) (w : World) : RetV Tryz.prog 50 [p.V] w (.string (prId p)) := by
  refine begin_ Tryz.func50 rfl rfl rfl ?_
  refine xc_seq <| xc_region <| xe rfl (bx rfl rfl) fun b1 _ => xp rfl (asg rfl) <| xl_nil <| xq_then <| ?_
  refine xc_seq <| xc_seq <| xc_region <| xp rfl (fa fa_114_2 rfl) <| xp rfl (ld kd_3 rfl .head rfl) <| xp rfl (bin rfl rfl bk_eql) <| xl_nil <| xq_then <| xc_cond rfl (fun hc1 => ?_) (fun hc1 => ?_)
  ·
    refine xc_seq <| xc_region <| xp rfl (fa fa_114_1 rfl) <| xp rfl (fa fa_52_0 rfl) <| xp rfl (ld kd_9 rfl .head rfl) <| xp rfl (asg rfl) <| xl_nil <| xq_then <| xc_ret <| xq_then_ret <| leave1 (.inl rfl) rfl (.tmp rfl) fun W hW => (⟨by simp only [prId, hc1, cond_true], hW.below⟩)
  ·
    refine xc_skip <| xq_then <| xc_seq <| xc_region <| xp rfl (fa fa_114_0 rfl) <| xp rfl (fa fa_52_0 rfl) <| xp rfl (ld kd_9 rfl .head rfl) <| xp rfl (asg rfl) <| xl_nil <| xq_then <| xc_ret <| leave1 (.inl rfl) rfl (.tmp rfl) fun W hW => (⟨by simp only [prId, hc1, cond_false], hW.below⟩)

theorem prwhat_ok (p : Pr) (w : World) : RetV Tryz.prog 49 [p.V] w (.int .u8 (prWhat p)) := by
  refine begin_ Tryz.func49 rfl rfl rfl ?_
  refine xc_seq <| xc_region <| xe rfl (bx rfl rfl) fun b1 _ => xp rfl (asg rfl) <| xl_nil <| xq_then <| ?_
  refine xc_seq <| xc_block <| xc_seq <| xc_region <| xp rfl (fa fa_114_2 rfl) <| xp rfl (ld kd_3 rfl .head rfl) <| xp rfl (bin rfl rfl bk_eql) <| xp rfl (asg rfl) <| xl_nil <| xq_then <| xc_cond rfl (fun hc1 => ?_) (fun hc1 => ?_)
  ·
    refine xc_seq <| xc_region <| xp rfl (asg rfl) <| xl_nil <| xq_then <| xc_ret <| xq_in_ret <| xq_then_ret <| leave1 (.inl rfl) rfl (.tmp rfl) fun W hW => (⟨by simp only [prWhat, hc1, cond_true], hW.below⟩)
  ·
    refine xc_seq <| xc_region <| xp rfl (fa fa_114_2 rfl) <| xp rfl (ld kd_3 rfl .head rfl) <| xp rfl (bin rfl rfl bk_eql) <| xp rfl (asg rfl) <| xl_nil <| xq_then <| xc_cond rfl (fun hc2 => ?_) (fun hc2 => ?_)
    ·
      refine xc_seq <| xc_region <| xp rfl (asg rfl) <| xl_nil <| xq_then <| xc_ret <| xq_in_ret <| xq_then_ret <| leave1 (.inl rfl) rfl (.tmp rfl) fun W hW => (⟨by simp only [prWhat, hc1, hc2, cond_true, cond_false], hW.below⟩)
    ·
      refine xc_seq <| xc_region <| xp rfl (fa fa_114_2 rfl) <| xp rfl (ld kd_3 rfl .head rfl) <| xp rfl (bin rfl rfl bk_eql) <| xp rfl (asg rfl) <| xl_nil <| xq_then <| xc_cond rfl (fun hc3 => ?_) (fun hc3 => ?_)
      ·
        refine xc_seq <| xc_region <| xp rfl (asg rfl) <| xl_nil <| xq_then <| xc_ret <| xq_in_ret <| xq_then_ret <| leave1 (.inl rfl) rfl (.tmp rfl) fun W hW => (⟨by simp only [prWhat, hc1, hc2, hc3, cond_true, cond_false], hW.below⟩)
      ·
        refine xc_seq <| xc_region <| xp rfl (fa fa_114_0 rfl) <| xp rfl (fa fa_52_1 rfl) <| xp rfl (ld kd_35 rfl .head rfl) <| xp rfl (fa fa_114_1 rfl) <| xp rfl (fa fa_52_1 rfl) <| xp rfl (ld kd_35 rfl .head rfl) <| xp rfl (bin rfl rfl bk_aggneq_35) <| xp rfl (asg rfl) <| xl_nil <| xq_then <| xc_cond rfl (fun hc4 => ?_) (fun hc4 => ?_)
        ·
          refine xc_seq <| xc_region <| xp rfl (asg rfl) <| xl_nil <| xq_then <| xc_ret <| xq_in_ret <| xq_then_ret <| leave1 (.inl rfl) rfl (.tmp rfl) fun W hW => (⟨by simp only [prWhat, hc1, hc2, hc3, show (!balEq p.a.bal p.b.bal) = true from hc4, cond_true, cond_false], hW.below⟩)
        ·
          refine xc_skip <| xq_in <| xq_then <| xc_seq <| xc_region <| xp rfl (asg rfl) <| xl_nil <| xq_then <| xc_ret <| leave1 (.inl rfl) rfl (.tmp rfl) fun W hW => (⟨by simp only [prWhat, hc1, hc2, hc3, show (!balEq p.a.bal p.b.bal) = false from hc4, cond_false], hW.below⟩)

end Go.Eng
end
section
namespace Go.Eng
open Go Go.RowKit Go.Proofs
set_option linter.unusedVariables false
set_option linter.unusedSimpArgs false
set_option maxRecDepth 4000
/-- What of a tree in memory is read: its root, how high it is. -/
structure TreeAt (W : World) (tb : Nat) (root : Nd) (m : Nat) : Prop where
  small : m ≤ 1024
  ex : ∃ (z : Int) (lv : Value) (lb lo c nb no c' : Nat), Cells W tb 0 [.int .i64 z, lv, .slice (some ⟨lb, lo, none⟩) (m + 1) c] ∧ Cells W lb (lo + m * 2) [.slice (some ⟨nb, no, none⟩) 1 c', .int .i64 m] ∧ Cells W nb no root.c
theorem TreeAt.below {w W : World} {tb m : Nat} {root : Nd} (h : TreeAt w tb root m) (hb : Below w.heap.size w W) : TreeAt W tb root m := by
  obtain ⟨hs, z, lv, lb, lo, c, nb, no, c', h1, h2, h3⟩ := h
  exact ⟨hs, z, lv, lb, lo, c, nb, no, c', h1.below hb, h2.below hb, h3.below hb⟩

theorem tnone_ok {w : World} {tb m : Nat} {root : Nd} (h : TreeAt w tb root m) : RetV Tryz.prog 99 [.pointer (some ⟨tb, 0, none⟩)] w (.bool false) := by
  obtain ⟨hs, z, lv, lb, lo, c, nb, no, c', h1, h2, h3⟩ := h
  refine begin_ Tryz.func99 rfl rfl rfl ?_
  refine xc_seq <| xc_region <| xp rfl (asg rfl) <| xl_nil <| xq_then <| ?_
  refine xc_seq <| xc_region <| xp rfl (mv rfl) <| xp rfl (bin rfl rfl (bk_peql pe_109)) <| xp rfl (mv rfl) <| xl_or 7 12 (fun hg1 => xgT rfl rfl rfl hg1 <| xp rfl (mv rfl) <| xgT rfl rfl rfl hg1 <| xp rfl (nc rfl) <| xgT rfl rfl rfl hg1 <| xp rfl (fa fa_200_2 rfl) <| xgT rfl rfl rfl hg1 <| xp rfl (ldc kd_198 rfl (vs := _) (fun W hW => hold_cells (o := 2) h1 hW.below) rfl) <| xgT rfl rfl rfl hg1 <| xp rfl (lenv Tryz.underlying198 rfl) <| xgT rfl rfl rfl hg1 <| xp rfl (bin rfl rfl bk_eql) <| xp rfl (pickF rfl hg1 rfl) <| xl_nil <| xq_or_yes hg1 (.kc rfl <| .kc rfl <| .kc rfl <| .kc rfl <| .kc rfl <| .kc rfl .kn) (fun _ h => h)) (fun hg1 => xgF rfl rfl rfl hg1 <| xgF rfl rfl rfl hg1 <| xgF rfl rfl rfl hg1 <| xgF rfl rfl rfl hg1 <| xgF rfl rfl rfl hg1 <| xgF rfl rfl rfl hg1 <| xp rfl (pickT rfl hg1 rfl) <| xl_nil <| xq_or_no hg1 (.kc rfl <| .kc rfl <| .kc rfl <| .kc rfl <| .kc rfl <| .kc rfl .kn) (fun _ h => h)) <| xp rfl (asg rfl) <| xl_nil <| xq_then <| xc_ret <| leave1 (.inl rfl) rfl (.tmp rfl) fun W hW => (⟨by rw [show (((m + 1 : Nat) : Int) == 0) = false by simp; omega]; rfl, hW.below⟩)

theorem theight_ok {w : World} {tb m : Nat} {root : Nd} (h : TreeAt w tb root m) : RetV Tryz.prog 100 [.pointer (some ⟨tb, 0, none⟩)] w (.int .i64 m) := by
  have h0 := h
  obtain ⟨hs, z, lv, lb, lo, c, nb, no, c', h1, h2, h3⟩ := h
  refine begin_ Tryz.func100 rfl rfl rfl ?_
  refine xc_seq <| xc_region <| xp rfl (asg rfl) <| xl_nil <| xq_then <| ?_
  refine xc_seq <| xc_seq <| xc_region <| xp rfl (mv rfl) <| xv rfl Tryz.call99 rfl rfl (fun W hW => (tnone_ok (h0.below hW.below))) <| xl_nil <| xq_then <| xc_cond rfl (fun hc1 => ?_) (fun hc1 => ?_)
  ·
    exact absurd hc1 (by simp)
  ·
    refine xc_skip <| xq_then <| xc_seq <| xc_region <| xp rfl (mv rfl) <| xp rfl (nc rfl) <| xp rfl (fa fa_200_2 rfl) <| xp rfl (ldc kd_198 rfl (vs := _) (fun W hW => hold_cells (o := 2) h1 hW.below) rfl) <| xp rfl (lenv Tryz.underlying198 rfl) <| xp rfl (bin rfl rfl bk_sub) <| xp rfl (asg rfl) <| xl_nil <| xq_then <| xc_ret <| leave1 (.inl rfl) rfl (.tmp rfl) fun W hW => (⟨by rw [wrap64 (by omega) (by omega)]; congr 2; omega, hW.below⟩)

abbrev rootV (x : Nd) (m : Nat) : Value := .agg #[.string x.hash, hiV x.sum, loV x.sum, .int .i64 m]
theorem cellsAt {w W : World} {b o o' : Nat} {vs : List Value} (h : Cells w b o vs) (hb : Below w.heap.size w W) (e : o' = o) : Cells W b o' vs := e ▸ h.below hb

theorem troot_ok {w : World} {tb m : Nat} {root : Nd} (h : TreeAt w tb root m) : RetV Tryz.prog 47 [.pointer (some ⟨tb, 0, none⟩)] w (rootV root m) := by
  have h0 := h
  obtain ⟨hs, z, lv, lb, lo, c, nb, no, c', h1, h2, h3⟩ := h
  refine begin_ Tryz.func47 rfl rfl rfl ?_
  refine xc_seq <| xc_region <| xe rfl (al zo_37) fun b1 _ => xl_nil <| xq_then <| ?_
  refine xc_seq <| xc_seq <| xc_region <| xp rfl (mv rfl) <| xv rfl Tryz.call99 rfl rfl (fun W hW => (tnone_ok (h0.below hW.below))) <| xl_nil <| xq_then <| xc_cond rfl (fun hc1 => ?_) (fun hc1 => ?_)
  ·
    exact absurd hc1 (by simp)
  ·
    refine xc_skip <| xq_then <| xc_seq <| xc_draw (canon := [(0, .p), (1, .p), (2, .p), (3, .p), (4, .p), (5, .p), (6, .p), (7, .p), (8, .p), (9, .p), (10, .p), (11, .p), (12, .a), (13, .x)]) (Z := HP _ [cellR b1 _ _]) mixed_ rfl (akp <| akp <| akp <| akp <| akp <| akp <| akp <| akp <| akp <| akp <| akp <| akp <| aka rfl rfl rfl rfl rfl zo_152 <| akx <| ak0) (zsub (.cons_cons _ <| List.nil_sublist _)) ?_
    refine dp rfl rfl rfl rfl (mv rfl) <| dp rfl rfl rfl rfl (nc rfl) <| dp rfl rfl rfl rfl (fa fa_200_2 rfl) <| dp rfl rfl rfl rfl (ldc kd_198 rfl (vs := _) (fun W hW => hold_cells (o := 2) h1 hW.below) rfl) <| dp rfl rfl rfl rfl (mv rfl) <| dq rfl rfl rfl rfl rfl Tryz.call100 rfl rfl (fun W hW => (theight_ok (h0.below hW.below))) <| dp rfl rfl rfl rfl (ix so_198 rfl rfl (by omega) (by omega)) <| dp rfl rfl rfl rfl (fa fa_197_0 rfl) <| dp rfl rfl rfl rfl (fa fa_195_0 rfl) <| dp rfl rfl rfl rfl (ldc kd_59 rfl (vs := _) (fun W hW => cellsAt h2 hW.below (by simp)) rfl) <| dp rfl rfl rfl rfl (ix so_59 rfl rfl (by decide) (by decide)) <| dp rfl rfl rfl rfl (ldc kd_152 rfl (vs := _) (fun W hW => cellsAt h3 hW.below (by simp)) rfl) <| da rfl rfl rfl rfl rfl zo_152 fun b2 => dst_ rfl rfl rfl rfl sz_152 rfl rfl rfl rfl .head rfl rfl (zsub (.cons _ <| .cons_cons _ <| List.nil_sublist _)) <| dend <| xq_then <| ?_
    refine xc_seq <| xc_draw (canon := [(0, .p), (1, .p), (2, .p), (3, .p), (4, .p), (5, .p), (6, .p), (7, .x)]) (Z := HP _ [cellR b2 _ _]) mixed_ rfl (akp <| akp <| akp <| akp <| akp <| akp <| akp <| akx <| ak0) (zsub (.cons_cons _ <| .cons _ <| List.nil_sublist _)) ?_
    refine dp rfl rfl rfl rfl (fa fa_152_0 rfl) <| dp rfl rfl rfl rfl (ld kd_9 rfl .head rfl) <| dp rfl rfl rfl rfl (fa fa_152_1 rfl) <| dp rfl rfl rfl rfl (ld kd_35 rfl .head rfl) <| dp rfl rfl rfl rfl (mv rfl) <| dq rfl rfl rfl rfl rfl Tryz.call100 rfl rfl (fun W hW => (theight_ok (h0.below hW.below))) <| dp rfl rfl rfl rfl (bd rfl bd_37_0_1_2) <| dst_ rfl rfl rfl rfl sz_37 rfl rfl rfl rfl (.tail .head) rfl rfl (zsub (.cons_cons _ <| .cons _ <| List.nil_sublist _)) <| dend <| xq_then <| xc_ret <| leave1 (.inl rfl) rfl (.cell rfl (ld_own kd_37 (.tail .head) rfl)) fun W hW => (⟨rfl, hW.below⟩)

end Go.Eng
end
section
namespace Go.Eng
open Go Go.RowKit Go.Proofs
set_option linter.unusedVariables false
set_option linter.unusedSimpArgs false
set_option maxRecDepth 4000
/-- What of a snapshot in memory is read. -/
structure SnapAt (W : World) (sb : Nat) (cfg : Cfg) (l : List Ac) (root : Nd) (m : Nat) : Prop where
  ex : ∃ (tb : Nat) (A : Option Addr) (c : Nat), Cells W sb 0 [.int .i64 cfg.h, .int .i64 cfg.w, .string cfg.seed, .slice A l.length c, .pointer (some ⟨tb, 0, none⟩)] ∧ rowOf W 5 Ac.c A l ∧ TreeAt W tb root m
theorem SnapAt.below {w W : World} {sb m : Nat} {cfg : Cfg} {l : List Ac} {root : Nd} (h : SnapAt w sb cfg l root m) (hb : Below w.heap.size w W) : SnapAt W sb cfg l root m := by
  obtain ⟨tb, A, c, h1, h2, h3⟩ := h
  exact ⟨tb, A, c, h1.below hb, h2.below hb, h3.below hb⟩

theorem snone_ok {w : World} {sb m : Nat} {cfg : Cfg} {l : List Ac} {root : Nd} (h : SnapAt w sb cfg l root m) : RetV Tryz.prog 52 [.pointer (some ⟨sb, 0, none⟩)] w (.bool false) := by
  obtain ⟨tb, A, c, h1, h2, h3⟩ := h
  refine begin_ Tryz.func52 rfl rfl rfl ?_
  refine xc_seq <| xc_region <| xp rfl (asg rfl) <| xl_nil <| xq_then <| ?_
  refine xc_seq <| xc_region <| xp rfl (mv rfl) <| xp rfl (bin rfl rfl (bk_peql pe_27)) <| xp rfl (mv rfl) <| xl_or 6 11 (fun hg1 => xgT rfl rfl rfl hg1 <| xp rfl (mv rfl) <| xgT rfl rfl rfl hg1 <| xp rfl (nc rfl) <| xgT rfl rfl rfl hg1 <| xp rfl (fa fa_121_2 rfl) <| xgT rfl rfl rfl hg1 <| xp rfl (ldc kd_109 rfl (vs := _) (fun W hW => hold_cells (o := 4) h1 hW.below) rfl) <| xgT rfl rfl rfl hg1 <| xp rfl (bin rfl rfl (bk_peql pe_109)) <| xp rfl (pickF rfl hg1 rfl) <| xl_nil <| xq_or_yes hg1 (.kc rfl <| .kc rfl <| .kc rfl <| .kc rfl <| .kc rfl .kn) (fun _ h => h)) (fun hg1 => xgF rfl rfl rfl hg1 <| xgF rfl rfl rfl hg1 <| xgF rfl rfl rfl hg1 <| xgF rfl rfl rfl hg1 <| xgF rfl rfl rfl hg1 <| xp rfl (pickT rfl hg1 rfl) <| xl_nil <| xq_or_no hg1 (.kc rfl <| .kc rfl <| .kc rfl <| .kc rfl <| .kc rfl .kn) (fun _ h => h)) <| xp rfl (asg rfl) <| xl_nil <| xq_then <| xc_ret <| leave1 (.inl rfl) rfl (.tmp rfl) fun W hW => (⟨rfl, hW.below⟩)

theorem sconfig_ok {w : World} {sb m : Nat} {cfg : Cfg} {l : List Ac} {root : Nd} (h : SnapAt w sb cfg l root m) : RetV Tryz.prog 43 [.pointer (some ⟨sb, 0, none⟩)] w cfg.V := by
  have h0 := h
  obtain ⟨tb, A, c, h1, h2, h3⟩ := h
  refine begin_ Tryz.func43 rfl rfl rfl ?_
  refine xc_seq <| xc_region <| xe rfl (al zo_23) fun b1 _ => xl_nil <| xq_then <| ?_
  refine xc_seq <| xc_seq <| xc_region <| xp rfl (mv rfl) <| xv rfl Tryz.call52 rfl rfl (fun W hW => (snone_ok (h0.below hW.below))) <| xl_nil <| xq_then <| xc_cond rfl (fun hc1 => ?_) (fun hc1 => ?_)
  ·
    exact absurd hc1 (by simp)
  ·
    refine xc_skip <| xq_then <| xc_seq <| xc_region <| xp rfl (mv rfl) <| xp rfl (nc rfl) <| xp rfl (fa fa_121_0 rfl) <| xp rfl (ldc kd_23 rfl (vs := _) (fun W hW => hold_cells (o := 0) h1 hW.below) rfl) <| xs (st sz_23 rfl rfl rfl rfl .head rfl rfl) <| xl_nil <| xq_then <| xc_ret <| leave1 (.inl rfl) rfl (.cell rfl (ld_own kd_23 .head rfl)) fun W hW => (⟨rfl, hW.below⟩)

theorem stree_ok {w : World} {sb m tb : Nat} {cfg : Cfg} {l : List Ac} {root : Nd} {v : Value} (h : SnapAt w sb cfg l root m) (h1 : Cells w sb 0 [.int .i64 cfg.h, .int .i64 cfg.w, .string cfg.seed, v, .pointer (some ⟨tb, 0, none⟩)]) : RetV Tryz.prog 46 [.pointer (some ⟨sb, 0, none⟩)] w (.pointer (some ⟨tb, 0, none⟩)) := by
  refine begin_ Tryz.func46 rfl rfl rfl ?_
  refine xc_seq <| xc_region <| xp rfl (asg rfl) <| xl_nil <| xq_then <| ?_
  refine xc_seq <| xc_seq <| xc_region <| xp rfl (mv rfl) <| xv rfl Tryz.call52 rfl rfl (fun W hW => (snone_ok (h.below hW.below))) <| xl_nil <| xq_then <| xc_cond rfl (fun hc1 => ?_) (fun hc1 => ?_)
  ·
    exact absurd hc1 (by simp)
  ·
    refine xc_skip <| xq_then <| xc_seq <| xc_region <| xp rfl (mv rfl) <| xp rfl (nc rfl) <| xp rfl (fa fa_121_2 rfl) <| xp rfl (ldc kd_109 rfl (vs := _) (fun W hW => hold_cells (o := 4) h1 hW.below) rfl) <| xp rfl (asg rfl) <| xl_nil <| xq_then <| xc_ret <| leave1 (.inl rfl) rfl (.tmp rfl) fun W hW => (⟨rfl, hW.below⟩)

theorem sroot_ok {w : World} {sb m : Nat} {cfg : Cfg} {l : List Ac} {root : Nd} (h : SnapAt w sb cfg l root m) : RetV Tryz.prog 14 [.pointer (some ⟨sb, 0, none⟩)] w (rootV root m) := by
  have h0 := h
  obtain ⟨tb, A, c, h1, h2, h3⟩ := h
  refine begin_ Tryz.func14 rfl rfl rfl ?_
  refine xc_seq <| xc_region <| xe rfl (al zo_37) fun b1 _ => xl_nil <| xq_then <| ?_
  refine xc_seq <| xc_region <| xp rfl (mv rfl) <| xv rfl Tryz.call46 rfl rfl (fun W hW => (stree_ok (h0.below hW.below) (h1.below hW.below))) <| xv rfl Tryz.call47 rfl rfl (fun W hW => (troot_ok (h3.below hW.below))) <| xs (st sz_37 rfl rfl rfl rfl .head rfl rfl) <| xl_nil <| xq_then <| xc_ret <| leave1 (.inl rfl) rfl (.cell rfl (ld_own kd_37 .head rfl)) fun W hW => (⟨rfl, hW.below⟩)

end Go.Eng
end
section
namespace Go.Eng
open Go Go.RowKit Go.Proofs
set_option linter.unusedVariables false
set_option linter.unusedSimpArgs false
/-! # Where accounts stand, in plain words -/
def idLt (a b : ByteArray) : Bool := decide (a.toList < b.toList)
theorem idLt_bytes (a b : ByteArray) : Op.bytesLess a.toList b.toList = idLt a b := bytesLess_eq _ _
theorem toList_inj {a b : ByteArray} (h : a.toList = b.toList) : a = b := by
  rw [ByteArray.toList_eq, ByteArray.toList_eq] at h
  exact ByteArray.ext (Array.ext' h)
theorem idLt_asymm {a b : ByteArray} (h : idLt a b = true) : idLt b a = false := by
  simp only [idLt, decide_eq_true_eq, decide_eq_false_iff_not] at *
  exact List.not_lt.2 (List.le_of_lt h)
theorem idLt_irrefl (a : ByteArray) : idLt a a = false := by
  simp only [idLt, decide_eq_false_iff_not]; exact List.lt_irrefl _
theorem idLt_trans {a b c : ByteArray} (h1 : idLt a b = true) (h2 : idLt b c = true) : idLt a c = true := by
  simp only [idLt, decide_eq_true_eq] at *; exact List.lt_trans h1 h2
theorem idLt_le_trans {a b c : ByteArray} (h1 : idLt b a = false) (h2 : idLt c b = false) : idLt c a = false := by
  simp only [idLt, decide_eq_false_iff_not, List.not_lt] at *; exact List.le_trans h1 h2
theorem idLt_tri {a b : ByteArray} (h1 : idLt a b = false) (h2 : idLt b a = false) : a = b := by
  simp only [idLt, decide_eq_false_iff_not, List.not_lt] at *
  exact toList_inj (List.le_antisymm h2 h1)
theorem swo_of {α : Type} (key : α → ByteArray) : Srt.SWO (fun a b => idLt (key a) (key b)) :=
  ⟨fun x y h => idLt_asymm h, fun x y z h1 h2 => idLt_le_trans h1 h2⟩
theorem beq_id {a b : ByteArray} : (a.toList == b.toList) = true ↔ a = b := ⟨fun h => toList_inj (eq_of_beq h), fun h => by subst h; exact beq_self_eq_true _⟩

/-- Rows by a key, each key once: what is in them tells them. -/
def Asc {α : Type} (key : α → ByteArray) (l : List α) : Prop := l.Pairwise (fun a b => idLt (key a) (key b) = true)
theorem Asc.weak {α : Type} {key : α → ByteArray} {l : List α} (h : Asc key l) : l.Pairwise (fun a b => idLt (key b) (key a) = false) := h.imp fun h => idLt_asymm h
theorem Asc.of {α : Type} {key : α → ByteArray} {l : List α} (h : l.Pairwise (fun a b => idLt (key b) (key a) = false)) (hn : (l.map key).Nodup) : Asc key l := by
  have h2 : l.Pairwise (fun a b => key a ≠ key b) := by
    rw [List.nodup_iff_pairwise_ne, List.pairwise_map] at hn; exact hn
  refine (h.and h2).imp fun {a b} ⟨h1, h3⟩ => ?_
  cases h4 : idLt (key a) (key b) with
  | true => rfl
  | false => exact absurd (idLt_tri h4 h1) h3
theorem Asc.nodup {α : Type} {key : α → ByteArray} {l : List α} (h : Asc key l) : (l.map key).Nodup := by
  rw [List.nodup_iff_pairwise_ne, List.pairwise_map]
  exact h.imp fun h e => by rw [e, idLt_irrefl] at h; cases h
theorem Asc.inj {α : Type} {key : α → ByteArray} {l : List α} (h : Asc key l) {a b : α} (ha : a ∈ l) (hb : b ∈ l) (e : key a = key b) : a = b := by
  have hn := h.nodup
  induction l with
  | nil => cases ha
  | cons x l ih =>
    simp only [List.map_cons, List.nodup_cons] at hn
    rcases List.mem_cons.1 ha with rfl | ha2 <;> rcases List.mem_cons.1 hb with rfl | hb2
    · rfl
    · exact absurd (List.mem_map.2 ⟨b, hb2, e.symm⟩) hn.1
    · exact absurd (List.mem_map.2 ⟨a, ha2, e⟩) hn.1
    · exact ih (List.pairwise_cons.1 h).2 ha2 hb2 hn.2
theorem Asc.unique {α : Type} {key : α → ByteArray} {l m : List α} (h1 : Asc key l) (h2 : Asc key m) (hp : l.Perm m) : l = m :=
  hp.eq_of_pairwise (fun a b ha hb h3 h4 => h1.inj ha (hp.mem_iff.2 hb) (idLt_tri (idLt_asymm h4) (idLt_asymm h3))) h1 h2

/-- By the key, in order. -/
noncomputable def byKey {α : Type} (key : α → ByteArray) (l : List α) : List α := l.mergeSort (fun a b => !idLt (key b) (key a))
theorem byKey_perm {α : Type} (key : α → ByteArray) (l : List α) : (byKey key l).Perm l := List.mergeSort_perm _ _
theorem byKey_weak {α : Type} (key : α → ByteArray) (l : List α) : (byKey key l).Pairwise (fun a b => idLt (key b) (key a) = false) := by
  have h := List.pairwise_mergeSort (le := fun a b => !idLt (key b) (key a)) (fun a b c h1 h2 => by
    simp only [Bool.not_eq_true'] at *; exact idLt_le_trans h1 h2) (fun a b => by
    cases h1 : idLt (key b) (key a) with
    | false => simp
    | true => simp [idLt_asymm h1]) l
  exact h.imp fun h => by simpa using h
theorem byKey_asc {α : Type} {key : α → ByteArray} {l : List α} (hn : (l.map key).Nodup) : Asc key (byKey key l) :=
  Asc.of (byKey_weak key l) (((byKey_perm key l).map key).nodup_iff.2 hn)
theorem byKey_eq {α : Type} {key : α → ByteArray} {l m : List α} (hn : (l.map key).Nodup) (hp : m.Perm l) (hs : m.Pairwise (fun a b => idLt (key b) (key a) = false)) : m = byKey key l :=
  (Asc.of hs ((hp.map key).nodup_iff.2 hn)).unique (byKey_asc hn) (hp.trans (byKey_perm key l).symm)
theorem byKey_self {α : Type} {key : α → ByteArray} {l : List α} (h : Asc key l) : byKey key l = l := (byKey_eq h.nodup (.refl _) h.weak).symm

/-! ## Accounts -/
def ac0 : Ac := ⟨noneText, 0, noneText, 0⟩
def isId (id : ByteArray) (a : Ac) : Bool := a.id.toList == id.toList
def findF (l : List Ac) (id : ByteArray) : Ac := (l.find? (isId id)).getD ac0
def hasF (l : List Ac) (id : ByteArray) : Bool := (l.find? (isId id)).isSome
theorem hasF_iff {l : List Ac} {id : ByteArray} : hasF l id = true ↔ ∃ a ∈ l, a.id = id := by
  simp only [hasF, List.find?_isSome, isId]
  constructor
  · rintro ⟨a, h1, h2⟩; exact ⟨a, h1, beq_id.1 h2⟩
  · rintro ⟨a, h1, h2⟩; exact ⟨a, h1, beq_id.2 h2⟩
theorem findF_mem {l : List Ac} {id : ByteArray} (h : hasF l id = true) : findF l id ∈ l ∧ (findF l id).id = id := by
  simp only [hasF] at h
  obtain ⟨a, ha⟩ := Option.isSome_iff_exists.1 h
  simp only [findF, ha, Option.getD_some]
  exact ⟨List.mem_of_find?_eq_some ha, beq_id.1 (List.find?_some (p := isId id) ha)⟩
theorem findF_eq {l : List Ac} (h : Asc Ac.id l) {a : Ac} (ha : a ∈ l) : findF l a.id = a ∧ hasF l a.id = true := by
  have h1 : hasF l a.id = true := hasF_iff.2 ⟨a, ha, rfl⟩
  obtain ⟨h2, h3⟩ := findF_mem h1
  exact ⟨h.inj h2 ha h3, h1⟩

/-- What may stand: accounts of a height, a seed. -/
structure AccOK (h : Nat) (seed : ByteArray) (l : List Ac) : Prop where
  asc : Asc Ac.id l
  ids : ∀ a ∈ l, mayIdF a.id = true ∧ a.id.size ≤ 4096
  slot : ∀ a ∈ l, a.slot < 2 ^ h
  salt : ∀ a ∈ l, a.salt = saltF seed a.id
  slots : (l.map Ac.slot).Nodup
  sum : (l.map Ac.bal).sum < BB
structure RowsOK (h : Nat) (l : List Rw) : Prop where
  asc : Asc Rw.id l
  ids : ∀ a ∈ l, mayIdF a.id = true ∧ a.id.size ≤ 4096
  len : l.length ≤ 2 ^ h
  sum : (l.map Rw.amt).sum < BB

/-- Who stays. -/
def stayF (was : List Ac) (rows : List Rw) : List Ac := rows.filterMap fun r => if hasF was r.id then some { findF was r.id with bal := r.amt } else none
def newF (was : List Ac) (rows : List Rw) : List Rw := rows.filter fun r => !hasF was r.id
def freeAt (l : List Ac) (n : Nat) : Bool := l.all fun a => !(a.slot == n)
def freeF (l : List Ac) (h a : Nat) : Nat := (((List.range (2 ^ h)).map fun k => (a % 2 ^ h + k) % 2 ^ h).find? (freeAt l)).getD 0
noncomputable abbrev firstSlot (seed id : ByteArray) (h : Nat) : Nat := firstSlotF seed id h
noncomputable def comeF (seed : ByteArray) (h : Nat) : List Rw → List Ac → List Ac
  | [], out => out
  | r :: rs, out => comeF seed h rs (out ++ [⟨r.id, r.amt, saltF seed r.id, freeF out h (firstSlot seed r.id h)⟩])
noncomputable def placeF (seed : ByteArray) (h : Nat) (was : List Ac) (rows : List Rw) : List Ac := byKey Ac.id (comeF seed h (newF was rows) (stayF was rows))

theorem nodup_sub_len {α : Type} [DecidableEq α] : ∀ {l m : List α}, l.Nodup → (∀ x ∈ l, x ∈ m) → l.length ≤ m.length
  | [], m, _, _ => by simp
  | a :: l, m, hn, hs => by
    simp only [List.nodup_cons] at hn
    have h1 : a ∈ m := hs a (by simp)
    have h2 := nodup_sub_len (m := m.erase a) hn.2 (fun x hx => (List.mem_erase_of_ne (fun e => hn.1 (by rw [← e]; exact hx))).2 (hs x (by simp [hx])))
    rw [List.length_erase_of_mem h1] at h2
    have := List.length_pos_of_mem h1
    simp only [List.length_cons]; omega
/-- There is a free one while there are fewer than all. -/
theorem free_ex {l : List Ac} {m : Nat} (hl : l.length < m) : ∃ n, n < m ∧ freeAt l n = true := by
  refine Classical.byContradiction fun hn => ?_
  have hsub : ∀ n, n < m → n ∈ l.map Ac.slot := fun n hm => by
    refine Classical.byContradiction fun h2 => hn ⟨n, hm, ?_⟩
    simp only [freeAt, List.all_eq_true, Bool.not_eq_true', beq_eq_false_iff_ne]
    exact fun a ha e => h2 (List.mem_map.2 ⟨a, ha, e⟩)
  have h1 : (List.range m).length ≤ (l.map Ac.slot).length := nodup_sub_len List.nodup_range fun n hm => hsub n (List.mem_range.1 hm)
  simp at h1; omega
theorem freeF_spec {l : List Ac} {h a : Nat} (hl : l.length < 2 ^ h) : freeAt l (freeF l h a) = true ∧ freeF l h a < 2 ^ h := by
  have hp : 0 < 2 ^ h := Nat.two_pow_pos h
  obtain ⟨n, h1, h2⟩ := free_ex hl
  have hs : (((List.range (2 ^ h)).map fun k => (a % 2 ^ h + k) % 2 ^ h).find? (freeAt l)).isSome = true := by
    rw [List.find?_isSome]
    refine ⟨n, List.mem_map.2 ⟨(n + (2 ^ h - a % 2 ^ h)) % 2 ^ h, List.mem_range.2 (Nat.mod_lt _ hp), ?_⟩, h2⟩
    have h3 : a % 2 ^ h < 2 ^ h := Nat.mod_lt _ hp
    rw [Nat.add_mod_mod, show a % 2 ^ h + (n + (2 ^ h - a % 2 ^ h)) = n + 2 ^ h by omega, Nat.add_mod_right, Nat.mod_eq_of_lt h1]
  obtain ⟨k, hk⟩ := Option.isSome_iff_exists.1 hs
  simp only [freeF, hk, Option.getD_some]
  refine ⟨List.find?_some hk, ?_⟩
  obtain ⟨j, _, e⟩ := List.mem_map.1 (List.mem_of_find?_eq_some hk)
  rw [← e]; exact Nat.mod_lt _ hp
theorem freeAt_iff {l : List Ac} {n : Nat} : freeAt l n = true ↔ n ∉ l.map Ac.slot := by
  simp only [freeAt, List.all_eq_true, Bool.not_eq_true', beq_eq_false_iff_ne, List.mem_map, not_exists, not_and]

theorem comeF_spec {seed : ByteArray} {h : Nat} : ∀ {rs : List Rw} {out : List Ac}, out.length + rs.length ≤ 2 ^ h → (out.map Ac.slot).Nodup → (∀ a ∈ out, a.slot < 2 ^ h) →
    ∃ more, comeF seed h rs out = out ++ more ∧ more.map (fun a => (a.id, a.bal)) = rs.map (fun r => (r.id, r.amt)) ∧ (∀ a ∈ more, a.salt = saltF seed a.id ∧ a.slot < 2 ^ h) ∧ ((out ++ more).map Ac.slot).Nodup
  | [], out, _, hn, _ => ⟨[], by simp [comeF], rfl, by simp, by simpa using hn⟩
  | r :: rs, out, hl, hn, hs => by
    simp only [List.length_cons] at hl
    obtain ⟨f1, f2⟩ := freeF_spec (l := out) (h := h) (a := firstSlot seed r.id h) (by omega)
    have hn2 : ((out ++ [(⟨r.id, r.amt, saltF seed r.id, freeF out h (firstSlot seed r.id h)⟩ : Ac)]).map Ac.slot).Nodup := by
      simp only [List.map_append, List.map_cons, List.map_nil]
      rw [List.nodup_append]
      refine ⟨hn, by simp, fun a ha b hb e => ?_⟩
      simp only [List.mem_singleton] at hb
      subst hb; subst e
      exact freeAt_iff.1 f1 ha
    obtain ⟨more, e, k1, k2, k3⟩ := comeF_spec (seed := seed) (h := h) (rs := rs) (out := out ++ [⟨r.id, r.amt, saltF seed r.id, freeF out h (firstSlot seed r.id h)⟩]) (by simp; omega) hn2 (fun a ha => by
      rcases List.mem_append.1 ha with ha | ha
      · exact hs a ha
      · simp only [List.mem_singleton] at ha; subst ha; exact f2)
    refine ⟨⟨r.id, r.amt, saltF seed r.id, freeF out h (firstSlot seed r.id h)⟩ :: more, by rw [comeF, e]; simp, by simp [k1], fun a ha => ?_, by simpa using k3⟩
    rcases List.mem_cons.1 ha with rfl | ha
    · exact ⟨rfl, f2⟩
    · exact k2 a ha

abbrev idBal (a : Ac) : ByteArray × Nat := (a.id, a.bal)
abbrev idAmt (r : Rw) : ByteArray × Nat := (r.id, r.amt)
theorem stayF_idBal (was : List Ac) : ∀ rows : List Rw, (stayF was rows).map idBal = (rows.filter fun r => hasF was r.id).map idAmt
  | [] => rfl
  | r :: rows => by
    have ih := stayF_idBal was rows
    cases h : hasF was r.id with
    | true =>
      have h2 := (findF_mem h).2
      simp only [stayF, List.filterMap_cons, h, if_true, List.map_cons, List.filter_cons] at ih ⊢
      simp only [idBal, idAmt, h2] at ih ⊢
      rw [ih]
    | false =>
      simp only [stayF, List.filterMap_cons, h, List.filter_cons] at ih ⊢
      simpa using ih
theorem stayF_mem {was : List Ac} {rows : List Rw} {a : Ac} (ha : a ∈ stayF was rows) : ∃ x ∈ was, x.id = a.id ∧ x.slot = a.slot ∧ x.salt = a.salt := by
  simp only [stayF, List.mem_filterMap] at ha
  obtain ⟨r, h1, h2⟩ := ha
  cases h : hasF was r.id with
  | false => simp [h] at h2
  | true =>
    simp only [h, if_true, Option.some.injEq] at h2
    subst h2
    exact ⟨_, (findF_mem h).1, rfl, rfl, rfl⟩
theorem nodup_of_keys {α β γ : Type} {f : α → β} {g : α → γ} {l : List α} (hn : (l.map f).Nodup) (h : ∀ a ∈ l, ∀ b ∈ l, g a = g b → f a = f b) : (l.map g).Nodup := by
  rw [List.nodup_iff_pairwise_ne, List.pairwise_map] at hn ⊢
  exact hn.imp_of_mem fun ha hb hne e => hne (h _ ha _ hb e)
theorem map_inj_nodup {α β : Type} {f : α → β} {l : List α} (hn : (l.map f).Nodup) {a b : α} (ha : a ∈ l) (hb : b ∈ l) (e : f a = f b) : a = b := by
  induction l with
  | nil => cases ha
  | cons x l ih =>
    simp only [List.map_cons, List.nodup_cons] at hn
    rcases List.mem_cons.1 ha with rfl | ha2 <;> rcases List.mem_cons.1 hb with rfl | hb2
    · rfl
    · exact absurd (List.mem_map.2 ⟨b, hb2, e.symm⟩) hn.1
    · exact absurd (List.mem_map.2 ⟨a, ha2, e⟩) hn.1
    · exact ih hn.2 ha2 hb2
theorem fst_map {α β γ : Type} {f : α → β × γ} (l : List α) : (l.map f).map Prod.fst = l.map fun a => (f a).1 := by simp
theorem rows_ids_nodup {h : Nat} {rows : List Rw} (hr : RowsOK h rows) : (rows.map Rw.id).Nodup := hr.asc.nodup
theorem stay_slots {h : Nat} {seed : ByteArray} {was : List Ac} {rows : List Rw} (hw : AccOK h seed was) (hr : RowsOK h rows) : ((stayF was rows).map Ac.slot).Nodup := by
  have h1 : ((stayF was rows).map Ac.id).Nodup := by
    have e : (stayF was rows).map Ac.id = (rows.filter fun r => hasF was r.id).map Rw.id := by
      have := congrArg (List.map Prod.fst) (stayF_idBal was rows)
      rw [List.map_map, List.map_map] at this; exact this
    rw [e]
    exact (rows_ids_nodup hr).sublist (List.filter_sublist.map _)
  refine nodup_of_keys h1 fun a ha b hb e => ?_
  obtain ⟨x, hx, e1, e2, _⟩ := stayF_mem ha
  obtain ⟨y, hy, e3, e4, _⟩ := stayF_mem hb
  have : x = y := map_inj_nodup hw.slots hx hy (by rw [e2, e4, e])
  rw [← e1, ← e3, this]
theorem placeF_ok {h : Nat} {seed : ByteArray} {was : List Ac} {rows : List Rw} (hw : AccOK h seed was) (hr : RowsOK h rows) :
    AccOK h seed (placeF seed h was rows) ∧ (placeF seed h was rows).map idBal = rows.map idAmt ∧ ∀ a ∈ placeF seed h was rows, ∀ x ∈ was, x.id = a.id → a.slot = x.slot := by
  have hlen : (stayF was rows).length + (newF was rows).length ≤ 2 ^ h := by
    have e1 : (stayF was rows).length = (rows.filter fun r => hasF was r.id).length := by
      have := congrArg List.length (stayF_idBal was rows); simpa using this
    have e2 := (List.filter_append_perm (fun r => hasF was r.id) rows).length_eq
    rw [List.length_append] at e2
    have := hr.len
    simp only [newF]; omega
  obtain ⟨more, e, k1, k2, k3⟩ := comeF_spec (seed := seed) (h := h) (rs := newF was rows) (out := stayF was rows) hlen (stay_slots hw hr) (fun a ha => by
    obtain ⟨x, hx, _, e2, _⟩ := stayF_mem ha; rw [← e2]; exact hw.slot x hx)
  have hperm : ((stayF was rows ++ more).map idBal).Perm (rows.map idAmt) := by
    rw [List.map_append, stayF_idBal]
    have k1' : more.map idBal = (newF was rows).map idAmt := k1
    rw [k1', ← List.map_append]
    exact (List.filter_append_perm (fun r => hasF was r.id) rows).map _
  have hids : ((stayF was rows ++ more).map Ac.id).Nodup := by
    have h1 : ((stayF was rows ++ more).map Ac.id).Perm (rows.map Rw.id) := by
      have := hperm.map Prod.fst
      rw [List.map_map, List.map_map] at this; exact this
    exact h1.nodup_iff.2 (rows_ids_nodup hr)
  have hp : (placeF seed h was rows).Perm (stayF was rows ++ more) := by rw [placeF, e]; exact byKey_perm _ _
  have hasc : Asc Ac.id (placeF seed h was rows) := by rw [placeF, e]; exact byKey_asc hids
  have hsalt : ∀ a ∈ stayF was rows ++ more, a.salt = saltF seed a.id ∧ a.slot < 2 ^ h := fun a ha => by
    rcases List.mem_append.1 ha with ha | ha
    · obtain ⟨x, hx, e1, e2, e3⟩ := stayF_mem ha
      exact ⟨by rw [← e3, hw.salt x hx, e1], by rw [← e2]; exact hw.slot x hx⟩
    · exact k2 a ha
  have hmap : (placeF seed h was rows).map idBal = rows.map idAmt := by
    have h1 : Asc Prod.fst ((placeF seed h was rows).map idBal) := List.pairwise_map.2 hasc
    have h2 : Asc Prod.fst (rows.map idAmt) := List.pairwise_map.2 hr.asc
    exact h1.unique h2 ((hp.map _).trans hperm)
  refine ⟨⟨hasc, fun a ha => ?_, fun a ha => (hsalt a (hp.mem_iff.1 ha)).2, fun a ha => (hsalt a (hp.mem_iff.1 ha)).1, (hp.map _).nodup_iff.2 k3, ?_⟩, hmap, fun a ha x hx ex => ?_⟩
  · have : idBal a ∈ rows.map idAmt := by rw [← hmap]; exact List.mem_map.2 ⟨a, ha, rfl⟩
    obtain ⟨r, hr1, hr2⟩ := List.mem_map.1 this
    have := hr.ids r hr1
    simp only [idBal, idAmt, Prod.mk.injEq] at hr2
    rw [← hr2.1]; exact this
  · have := congrArg (fun l => (l.map Prod.snd).sum) hmap
    simp only [List.map_map] at this
    have e2 : (placeF seed h was rows).map Ac.bal = (placeF seed h was rows).map (Prod.snd ∘ idBal) := rfl
    rw [e2, this]; exact hr.sum
  · have ha2 := hp.mem_iff.1 ha
    rcases List.mem_append.1 ha2 with h1 | h1
    · obtain ⟨y, hy, e1, e2, _⟩ := stayF_mem h1
      have : x = y := hw.asc.inj hx hy (by rw [ex, e1])
      rw [this, e2]
    · exfalso
      have h2 : idBal a ∈ (newF was rows).map idAmt := by
        have k1' : more.map idBal = (newF was rows).map idAmt := k1
        rw [← k1']; exact List.mem_map.2 ⟨a, h1, rfl⟩
      obtain ⟨r, hr1, hr2⟩ := List.mem_map.1 h2
      simp only [newF, List.mem_filter, Bool.not_eq_true'] at hr1
      simp only [idBal, idAmt, Prod.mk.injEq] at hr2
      have : hasF was r.id = true := hasF_iff.2 ⟨x, hx, by rw [ex, hr2.1]⟩
      rw [this] at hr1; exact absurd hr1.2 (by simp)
/-- Accounts of the same rows, each in the same slot, are the same. -/
theorem acc_ext {h : Nat} {seed : ByteArray} {l m : List Ac} (hl : AccOK h seed l) (hm : AccOK h seed m) (he : l.map idBal = m.map idBal) (hs : ∀ a ∈ l, ∀ b ∈ m, a.id = b.id → a.slot = b.slot) : l = m := by
  have hlen : l.length = m.length := by have := congrArg List.length he; simpa using this
  refine List.ext_getElem hlen fun i h1 h2 => ?_
  have e1 : idBal l[i] = idBal m[i] := by
    have := congrArg (fun x => x[i]?) he
    simpa [h1, h2] using this
  simp only [idBal, Prod.mk.injEq] at e1
  have e2 := hs _ (List.getElem_mem h1) _ (List.getElem_mem h2) e1.1
  have e3 := hl.salt _ (List.getElem_mem h1)
  have e4 := hm.salt _ (List.getElem_mem h2)
  cases hx : l[i] with
  | mk id bal salt slot =>
    cases hy : m[i] with
    | mk id' bal' salt' slot' =>
      rw [hx, hy] at e1 e2; rw [hx] at e3; rw [hy] at e4
      simp only at e1 e2 e3 e4
      obtain ⟨rfl, rfl⟩ := e1
      subst e2; subst e3; subst e4; rfl
theorem acc_nil (h : Nat) (seed : ByteArray) : AccOK h seed [] := ⟨List.Pairwise.nil, by simp, by simp, by simp, by simp, by decide⟩
end Go.Eng
end
section
namespace Go.Eng
open Go Go.RowKit Go.Proofs
set_option linter.unusedVariables false
set_option linter.unusedSimpArgs false
/-! # Pairs of two rows of accounts, in plain words -/
def mergeF : List Ac → List Ac → List Pr
  | [], [] => []
  | a :: xs, [] => ⟨a, ac0, 1⟩ :: mergeF xs []
  | [], b :: bs => ⟨ac0, b, 2⟩ :: mergeF [] bs
  | a :: xs, b :: bs => if idLt a.id b.id then ⟨a, ac0, 1⟩ :: mergeF xs (b :: bs) else if idLt b.id a.id then ⟨ac0, b, 2⟩ :: mergeF (a :: xs) bs else ⟨a, b, 3⟩ :: mergeF xs bs
  termination_by a b => a.length + b.length
/-- What a pair may be. -/
inductive PrOf (A B : List Ac) : Pr → Prop
  | one {a : Ac} (ha : a ∈ A) : PrOf A B ⟨a, ac0, 1⟩
  | two {b : Ac} (hb : b ∈ B) : PrOf A B ⟨ac0, b, 2⟩
  | both {a b : Ac} (ha : a ∈ A) (hb : b ∈ B) (e : a.id = b.id) : PrOf A B ⟨a, b, 3⟩
theorem PrOf.mono {A B A' B' : List Ac} {p : Pr} (h : PrOf A B p) (h1 : ∀ x ∈ A, x ∈ A') (h2 : ∀ x ∈ B, x ∈ B') : PrOf A' B' p := by
  cases h with
  | one ha => exact .one (h1 _ ha)
  | two hb => exact .two (h2 _ hb)
  | both ha hb e => exact .both (h1 _ ha) (h2 _ hb) e
theorem mergeF_of : ∀ (A B : List Ac), ∀ p ∈ mergeF A B, PrOf A B p
  | [], [], p, hp => by rw [mergeF] at hp; cases hp
  | a :: xs, [], p, hp => by
    rw [mergeF] at hp
    rcases List.mem_cons.1 hp with rfl | hp
    · exact .one (by simp)
    · exact (mergeF_of xs [] p hp).mono (fun x h => by simp [h]) (fun x h => h)
  | [], b :: bs, p, hp => by
    rw [mergeF] at hp
    rcases List.mem_cons.1 hp with rfl | hp
    · exact .two (by simp)
    · exact (mergeF_of [] bs p hp).mono (fun x h => h) (fun x h => by simp [h])
  | a :: xs, b :: bs, p, hp => by
    rw [mergeF] at hp
    split at hp
    · rcases List.mem_cons.1 hp with rfl | hp
      · exact .one (by simp)
      · exact (mergeF_of xs (b :: bs) p hp).mono (fun x h => by simp [h]) (fun x h => h)
    · split at hp
      · rcases List.mem_cons.1 hp with rfl | hp
        · exact .two (by simp)
        · exact (mergeF_of (a :: xs) bs p hp).mono (fun x h => h) (fun x h => by simp [h])
      · rcases List.mem_cons.1 hp with rfl | hp
        · exact .both (by simp) (by simp) (idLt_tri (by simpa using ‹¬ idLt a.id b.id = true›) (by simpa using ‹¬ idLt b.id a.id = true›))
        · exact (mergeF_of xs bs p hp).mono (fun x h => by simp [h]) (fun x h => by simp [h])
  termination_by A B => A.length + B.length
/-- Each one of the first row stands in some pair. -/
theorem mergeF_left : ∀ (A B : List Ac), ∀ x ∈ A, (⟨x, ac0, 1⟩ : Pr) ∈ mergeF A B ∨ ∃ b ∈ B, b.id = x.id ∧ (⟨x, b, 3⟩ : Pr) ∈ mergeF A B
  | [], B, x, hx => by cases hx
  | a :: xs, [], x, hx => by
    rw [mergeF]
    rcases List.mem_cons.1 hx with rfl | hx
    · exact .inl (by simp)
    · rcases mergeF_left xs [] x hx with h | ⟨b, hb, _⟩
      · exact .inl (by simp [h])
      · cases hb
  | a :: xs, b :: bs, x, hx => by
    rw [mergeF]
    split
    · rcases List.mem_cons.1 hx with rfl | hx
      · exact .inl (by simp)
      · rcases mergeF_left xs (b :: bs) x hx with h | ⟨c, hc, e, h⟩
        · exact .inl (by simp [h])
        · exact .inr ⟨c, hc, e, by simp [h]⟩
    · split
      · rcases mergeF_left (a :: xs) bs x hx with h | ⟨c, hc, e, h⟩
        · exact .inl (by simp [h])
        · exact .inr ⟨c, by simp [hc], e, by simp [h]⟩
      · rcases List.mem_cons.1 hx with rfl | hx
        · exact .inr ⟨b, by simp, (idLt_tri (by simpa using ‹¬ idLt x.id b.id = true›) (by simpa using ‹¬ idLt b.id x.id = true›)).symm, by simp⟩
        · rcases mergeF_left xs bs x hx with h | ⟨c, hc, e, h⟩
          · exact .inl (by simp [h])
          · exact .inr ⟨c, by simp [hc], e, by simp [h]⟩
  termination_by A B => A.length + B.length
/-- Of the same Ids: all in both. -/
theorem mergeF_zip : ∀ (A B : List Ac), A.map Ac.id = B.map Ac.id → mergeF A B = (A.zip B).map fun q => ⟨q.1, q.2, 3⟩
  | [], [], _ => by rw [mergeF]; rfl
  | [], b :: bs, h => by simp at h
  | a :: xs, [], h => by simp at h
  | a :: xs, b :: bs, h => by
    simp only [List.map_cons, List.cons.injEq] at h
    rw [mergeF, h.1, idLt_irrefl, mergeF_zip xs bs h.2]
    simp
def keptB (p : Pr) : Bool := prWhat p == 4
theorem keptB_eq {p : Pr} : keptB p = true ↔ prWhat p = 4 := by simp [keptB]
def newsF (A B : List Ac) : List Pr := (mergeF A B).filter fun p => prWhat p != 4
def movedB (p : Pr) : Bool := p.there == 3 && !(p.a.slot == p.b.slot)
def movedF (A B : List Ac) : List Pr := (mergeF A B).filter movedB
theorem what_both {a b : Ac} : prWhat ⟨a, b, 3⟩ = if a.bal = b.bal then 4 else 3 := by
  by_cases h : a.bal = b.bal
  · have : balEq a.bal b.bal = true := balEq_iff.2 h
    rw [if_pos h]; simp only [prWhat, this]; rfl
  · have : balEq a.bal b.bal = false := by cases h2 : balEq a.bal b.bal with | false => rfl | true => exact absurd (balEq_iff.1 h2) h
    simp [prWhat, this, h]
theorem what_one {a b : Ac} : prWhat ⟨a, b, 1⟩ = 2 := by simp [prWhat]
theorem what_two {a b : Ac} : prWhat ⟨a, b, 2⟩ = 1 := by simp [prWhat]
theorem newsF_same {A B : List Ac} (h : A.map idBal = B.map idBal) : newsF A B = [] := by
  have h1 : A.map Ac.id = B.map Ac.id := by have := congrArg (List.map Prod.fst) h; rw [List.map_map, List.map_map] at this; exact this
  have h2 : A.map Ac.bal = B.map Ac.bal := by have := congrArg (List.map Prod.snd) h; rw [List.map_map, List.map_map] at this; exact this
  rw [newsF, mergeF_zip A B h1, List.filter_eq_nil_iff]
  intro p hp
  obtain ⟨q, hq, rfl⟩ := List.mem_map.1 hp
  obtain ⟨i, hi, e⟩ := List.getElem_of_mem hq
  have hb : q.1.bal = q.2.bal := by
    rw [← e]
    have h3 := congrArg (fun l => l[i]?) h2
    simp only [List.length_zip] at hi
    simp only [List.getElem?_map, List.getElem?_eq_getElem (show i < A.length by omega), List.getElem?_eq_getElem (show i < B.length by omega), Option.map_some, Option.some.injEq] at h3
    simpa using h3
  simp [what_both, hb]
theorem movedF_self (A : List Ac) : movedF A A = [] := by
  rw [movedF, mergeF_zip A A rfl, List.filter_eq_nil_iff]
  intro p hp
  obtain ⟨q, hq, rfl⟩ := List.mem_map.1 hp
  obtain ⟨i, hi, e⟩ := List.getElem_of_mem hq
  have : q.1 = q.2 := by rw [← e]; simp
  simp [movedB, this]
/-- Nobody is gone: each one of the first row is in the second. -/
theorem stay_all {A B : List Ac} (h : ∀ p ∈ newsF A B, prWhat p ≠ 2) : ∀ x ∈ A, ∃ b ∈ B, b.id = x.id := fun x hx => by
  rcases mergeF_left A B x hx with h1 | ⟨b, hb, e, _⟩
  · exact absurd what_one (h _ (List.mem_filter.2 ⟨h1, by simp [what_one]⟩))
  · exact ⟨b, hb, e⟩
/-- UpdateBack, in plain words: again; back; back where nobody is gone. -/
theorem again_same {h : Nat} {seed : ByteArray} {A : List Ac} {rows : List Rw} (hA : AccOK h seed A) (hr : RowsOK h rows) (he : A.map idBal = rows.map idAmt) : placeF seed h A rows = A := by
  obtain ⟨k1, k2, k3⟩ := placeF_ok hA hr
  exact acc_ext k1 hA (by rw [k2, he]) (fun a ha b hb e => k3 a ha b hb e.symm)
theorem back_same {h : Nat} {seed : ByteArray} {A : List Ac} {rows rows2 : List Rw} (hA : AccOK h seed A) (hr : RowsOK h rows) (hr2 : RowsOK h rows2) (he : A.map idBal = rows.map idAmt)
    (hg : ∀ p ∈ newsF A (placeF seed h A rows2), prWhat p ≠ 2) : placeF seed h (placeF seed h A rows2) rows = A := by
  obtain ⟨k1, k2, k3⟩ := placeF_ok hA hr2
  obtain ⟨j1, j2, j3⟩ := placeF_ok k1 hr
  refine acc_ext j1 hA (by rw [j2, he]) fun a ha x hx e => ?_
  obtain ⟨b, hb, eb⟩ := stay_all hg x hx
  rw [j3 a ha b hb (by rw [eb, e])]
  exact k3 b hb x hx eb.symm
end Go.Eng
end
section
namespace Go.Eng
open Go Go.RowKit Go.Proofs
set_option linter.unusedVariables false
set_option linter.unusedSimpArgs false
/-! # The tree, in plain words -/
def leafOf (a : Ac) : Leaf := ⟨false, a.id, a.salt, a.bal⟩
noncomputable def leafAt (seed : ByteArray) (l : List Ac) (p : Nat) : Leaf := match l.find? (fun a => a.slot == p) with | some a => leafOf a | none => padF_ seed p
noncomputable def leavesF (seed : ByteArray) (h : Nat) (l : List Ac) : List Leaf := (List.range (2 ^ h)).map (leafAt seed l)
noncomputable def pairUp (z : Int) : List Nd → List Nd
  | a :: b :: r => joinF z a b :: pairUp z r
  | _ => []
noncomputable def levelsF (z : Int) : Nat → List Nd → List (List Nd)
  | 0, l => [l]
  | m + 1, l => l :: levelsF z m (pairUp z l)
noncomputable def rootN (z : Int) : Nat → List Nd → Nd
  | 0, l => l.headD ⟨noneText, 0⟩
  | m + 1, l => rootN z m (pairUp z l)
noncomputable def rootF (z : Int) (seed : ByteArray) (h : Nat) (l : List Ac) : Nd := rootN z h ((leavesF seed h l).map (leafNodeF z))
theorem pairUp_len (z : Int) : ∀ (m : Nat) (l : List Nd), l.length = 2 * m → (pairUp z l).length = m
  | 0, l, h => by rw [List.eq_nil_of_length_eq_zero h]; rfl
  | m + 1, [], h => by simp at h
  | m + 1, [a], h => by simp at h; omega
  | m + 1, a :: b :: r, h => by
    simp only [pairUp, List.length_cons]
    rw [pairUp_len z m r (by simp at h; omega)]
theorem pairUp_sum (z : Int) : ∀ (m : Nat) (l : List Nd), l.length = 2 * m → ((pairUp z l).map Nd.sum).sum = (l.map Nd.sum).sum
  | 0, l, h => by rw [List.eq_nil_of_length_eq_zero h]; rfl
  | m + 1, [], h => by simp at h
  | m + 1, [a], h => by simp at h; omega
  | m + 1, a :: b :: r, h => by
    simp only [pairUp, List.map_cons, List.sum_cons]
    rw [pairUp_sum z m r (by simp at h; omega)]
    simp only [joinF]; omega
theorem pairUp_of {z : Int} (hz : mayWidthF z = true) : ∀ (m : Nat) (l : List Nd), l.length = 2 * m → ∀ a ∈ pairUp z l, ofF z a = true
  | 0, l, h, a, ha => by rw [List.eq_nil_of_length_eq_zero h] at ha; cases ha
  | m + 1, [], h, _, _ => by simp at h
  | m + 1, [a], h, _, _ => by simp at h; omega
  | m + 1, a :: b :: r, h, x, hx => by
    simp only [pairUp] at hx
    rcases List.mem_cons.1 hx with rfl | hx
    · have hz2 : 1 ≤ z ∧ z ≤ 32 := by simpa [mayWidthF] using hz
      have hs := shaF_size (nodeTextF a b)
      have : (((shaF (nodeTextF a b)).extract 0 z.toNat).size : Int) = z := by rw [ByteArray.size_extract, hs]; omega
      simp only [ofF, joinF, this]; simp [hz2]
    · exact pairUp_of hz m r (by simp at h; omega) x hx
theorem rootN_sum (z : Int) : ∀ (m : Nat) (l : List Nd), l.length = 2 ^ m → (rootN z m l).sum = (l.map Nd.sum).sum
  | 0, l, h => by
    match l, h with
    | [a], _ => simp [rootN]
  | m + 1, l, h => by
    rw [Nat.pow_succ, Nat.mul_comm] at h
    rw [rootN, rootN_sum z m _ (pairUp_len z _ _ h), pairUp_sum z _ _ h]
theorem leavesF_len (seed : ByteArray) (h : Nat) (l : List Ac) : (leavesF seed h l).length = 2 ^ h := by simp [leavesF]
/-- All balances are those of the leaves. -/
theorem leavesF_sum {seed : ByteArray} {h : Nat} {l : List Ac} (hl : AccOK h seed l) : ((leavesF seed h l).map Leaf.bal).sum = (l.map Ac.bal).sum := by
  have key : ∀ (l : List Ac), (l.map Ac.slot).Nodup → (∀ a ∈ l, a.slot < 2 ^ h) → ((List.range (2 ^ h)).map fun p => ((l.find? (fun a => a.slot == p)).map Ac.bal).getD 0).sum = (l.map Ac.bal).sum := by
    intro l
    induction l with
    | nil =>
      intro _ _
      have : ∀ n, ((List.range n).map fun p => ((([] : List Ac).find? (fun a => a.slot == p)).map Ac.bal).getD 0).sum = 0 := fun n => by
        induction n with
        | zero => rfl
        | succ n ihn => rw [List.range_succ, List.map_append, List.sum_append, ihn]; rfl
      exact this _
    | cons a l ih =>
      intro hn hs
      simp only [List.map_cons, List.nodup_cons] at hn
      have ih' := ih hn.2 (fun b hb => hs b (by simp [hb]))
      have ha := hs a (by simp)
      have e : ∀ p, (((a :: l).find? (fun a => a.slot == p)).map Ac.bal).getD 0 = (if p = a.slot then a.bal else 0) + ((l.find? (fun a => a.slot == p)).map Ac.bal).getD 0 := fun p => by
        rw [List.find?_cons]
        by_cases hp : a.slot = p
        · subst hp
          have : l.find? (fun b => b.slot == a.slot) = none := by
            rw [List.find?_eq_none]
            intro b hb e
            exact hn.1 (List.mem_map.2 ⟨b, hb, by simpa using e⟩)
          simp [this]
        · have : (a.slot == p) = false := by simpa using hp
          have hp' : ¬ p = a.slot := fun e => hp e.symm
          simp [this, hp']
      have e2 : ∀ (n : Nat), ((List.range n).map fun p => (if p = a.slot then a.bal else 0) + ((l.find? (fun a => a.slot == p)).map Ac.bal).getD 0).sum = (if a.slot < n then a.bal else 0) + ((List.range n).map fun p => ((l.find? (fun a => a.slot == p)).map Ac.bal).getD 0).sum := fun n => by
        induction n with
        | zero => simp
        | succ n ihn =>
          rw [List.range_succ, List.map_append, List.sum_append, ihn, List.map_append, List.sum_append]
          simp only [List.map_cons, List.map_nil, List.sum_cons, List.sum_nil, Nat.add_zero]
          by_cases h1 : a.slot < n
          · simp only [if_pos h1, if_neg (show ¬ n = a.slot by omega), if_pos (show a.slot < n + 1 by omega)]; omega
          · by_cases h2 : n = a.slot
            · simp only [if_neg h1, if_pos h2, if_pos (show a.slot < n + 1 by omega)]; omega
            · simp only [if_neg h1, if_neg h2, if_neg (show ¬ a.slot < n + 1 by omega)]; omega
      have e3 : (fun p => (((a :: l).find? (fun a => a.slot == p)).map Ac.bal).getD 0) = fun p => (if p = a.slot then a.bal else 0) + ((l.find? (fun a => a.slot == p)).map Ac.bal).getD 0 := funext e
      rw [e3, e2, if_pos ha, ih']
      simp
  rw [← key l hl.slots hl.slot, leavesF, List.map_map]
  congr 1
  refine List.map_congr_left fun p _ => ?_
  simp only [Function.comp, leafAt]
  cases hf : l.find? (fun a => a.slot == p) with
  | none => simp [padF_]
  | some a => simp [leafOf]
theorem rootF_sum {z : Int} {seed : ByteArray} {h : Nat} {l : List Ac} (hl : AccOK h seed l) : (rootF z seed h l).sum = (l.map Ac.bal).sum := by
  rw [rootF, rootN_sum z h _ (by rw [List.length_map, leavesF_len]), ← leavesF_sum hl, List.map_map]
  congr 1
theorem sum_le_of_mem : ∀ {l : List Nat} {x : Nat}, x ∈ l → x ≤ l.sum
  | a :: l, x, h => by
    rw [List.sum_cons]
    rcases List.mem_cons.1 h with rfl | h
    · omega
    · have := sum_le_of_mem h; omega
end Go.Eng
end
