/- Whatever the configuration and the two texts, the totals and the counts that the news tell agree with the two roots: UpdateTotals returns true, and its arguments read as before. The conditions are the row's own: the listed tables hold what the program's text lays. -/
import Derived.Test.YtfdnhjfbbggmiaaGreatDoorCards
import Derived.Test.YtfdnhjfbbggmiaaGreatDoorTie
import Derived.WalkKit
import Derived.ProofKit
import Derived.OpenShut
import Derived.Deep.DeepHandedRow
import Derived.Lib.LaidTab
import Derived.Lib.LaidU8T
import Derived.Lay
import Derived.LaidMore
import Derived.Deep.Strs
import Derived.ShutString
import Derived.Test.YtfdnhjfbbggmiaaGreatDoorP11
namespace Go.Proofs.YtfdnhjfbbggmiaaGreatDoor
set_option maxRecDepth 100000
open Go.ChangeShapes Go.WideShapes Go.ChangeAt Go.RowKit
theorem own : ownKnob Tryz.prog.godebug = none := by kernel_rfl
theorem gK : Tryz.prog.globalNamed "paymaster/block.constants" = some 6 := by kernel_rfl
theorem laidK : (Rows.laid_paymaster_block_constants : DataW Unit) = Lib.tabData .u32 Go.Eng.kTab := by kernel_rfl
theorem laidA : (Rows.laid_unicode_utf8_acceptRanges : DataW Unit) = Lib.acceptData := by kernel_rfl
theorem laidF : Rows.laid_unicode_utf8_first = Lib.firstData := by kernel_rfl
theorem u8x : U8Extra Tryz.prog Tryz.laysValid_ren := ⟨by kernel_rfl, by kernel_rfl, by kernel_rfl, by kernel_rfl, by kernel_rfl, by kernel_rfl, by kernel_rfl⟩
theorem kTy : (Tryz.prog.globals[6]?).map (·.type) = some 405 := by kernel_rfl
theorem kCe : Tryz.prog.cellsOf 335 = 1 := by kernel_rfl
theorem kCt : Tryz.prog.cellsOf 405 = 64 := by kernel_rfl
abbrev laid3 : List (String × DataW Unit) := [("paymaster/block.constants", Rows.laid_paymaster_block_constants), ("unicode/utf8.acceptRanges", Rows.laid_unicode_utf8_acceptRanges), ("unicode/utf8.first", Rows.laid_unicode_utf8_first)]
/-- What the list gives: what the walks ask of the globals. -/
theorem glob {W : World} (h : laidMetH Tryz.prog laid3 W) (hs : W.ShapedOpen Tryz.prog) : Go.Eng.Glob W := by
  rw [MakeChecks.laidMetH_plain _ _ _ (by kernel_rfl)] at h
  unfold laid3 at h
  rw [laidK, laidA, laidF] at h
  have h1 := Lib.tabIs_of_head gK kTy Tryz.underlying405 Tryz.underlying335 kCe kCt h
  refine ⟨fun i u hu => ?_, Tryz.laysM219.s1_3 W hs, ?_⟩
  · have hi : i < Go.Eng.kTab.length := by
      rcases Nat.lt_or_ge i Go.Eng.kTab.length with h | h
      · exact h
      · rw [List.getElem?_eq_none (by simpa using h)] at hu; cases hu
    rw [Nat.zero_add, h1.cell gK i hi]
    rw [List.getElem?_map, List.getElem?_eq_getElem hi] at hu
    simp only [Option.map_some, Option.some.injEq] at hu
    rw [← hu]; simp [List.getD_eq_getElem?_getD, hi]
  · exact utf8Tabs_of_readsT (ρ := Tryz.laysValid_ren) (U8Types.of196 Tryz.laysValid) u8x (Lib.laidMet.reads h (.tail _ (.tail _ (.head _)))) (Lib.laidMet.reads h (.tail _ (.head _)))
section
variable {H : Type} {enc : TypeId × Value → H} {w : World} {base : Nat} {sp : Nat → Bool} {held : Bool}
theorem open_cfg {r : Reach} {b0 : Nat} {v : Value} {d : DataW H} {ps : List MemPlace} (hval : Value.okWide Tryz.prog w r b0 23 v) (hd : DataW.Trod enc Tryz.prog w base sp held 23 v d ps) :
    ∃ (h z : Int) (s : ByteArray), v = .agg #[.int .i64 h, .int .i64 z, .string s] ∧ d = .agg [.lit (.int .i64 h), .lit (.int .i64 z), .lit (.string s.data.toList)] ∧ ps = [] ∧ (Lit.int .i64 h).wf = true ∧ (Lit.int .i64 z).wf = true ∧ s.size ≤ maxLen := by
  obtain ⟨cs, rfl, hsz⟩ := okWide_struct Tryz.underlying23 hval
  obtain ⟨fuel, hf⟩ := hd
  obtain ⟨y0, y1, y2, n, hx, hl, h0, h1, h2⟩ := Go.Deep.trod_struct3 Tryz.underlying23 hf
  rw [show Tryz.prog.cellsOf 23 = 3 by kernel_rfl] at hsz
  obtain ⟨l⟩ := cs
  match l, hsz with
  | [a, b, c], _ =>
    obtain ⟨h, e0, f0, w0⟩ := DataW.trod_int Tryz.underlying3 h0
    obtain ⟨z, e1, f1, w1⟩ := DataW.trod_int Tryz.underlying3 h1
    obtain ⟨s, e2, f2, w2⟩ := DataW.trod_string Tryz.underlying9 h2
    rw [show Tryz.prog.cellsOf 3 = 1 by kernel_rfl] at e0 e1
    rw [show Tryz.prog.cellsOf 9 = 1 by kernel_rfl] at e2
    simp only [Value.cells, List.drop_zero, List.take_succ_cons, List.take_zero, List.drop_succ_cons, List.cons.injEq, and_true] at e0 e1 e2
    subst e0; subst e1; subst e2; subst f0; subst f1; subst f2
    simp only [Prod.mk.injEq, List.append_nil] at hx
    exact ⟨h, z, s, rfl, hx.1, hx.2, w0, w1, w2⟩
theorem shut_cfg {h z : Int} {s : ByteArray} (w0 : (Lit.int .i64 h).wf = true) (w1 : (Lit.int .i64 z).wf = true) (w2 : s.size ≤ maxLen) :
    DataW.Trod enc Tryz.prog w base sp held 23 (.agg #[.int .i64 h, .int .i64 z, .string s]) (.agg [.lit (.int .i64 h), .lit (.int .i64 z), .lit (.string s.data.toList)]) [] :=
  ⟨2, Go.Deep.trod_struct3_mk (n := 1) (y0 := (.lit (.int .i64 h), [])) (y1 := (.lit (.int .i64 z), [])) (y2 := (.lit (.string s.data.toList), [])) Tryz.underlying23 (by kernel_rfl)
    (by simp [DataW.trod, Value.cells, Tryz.underlying3, w0, show Tryz.prog.cellsOf 3 = 1 by kernel_rfl]) (by simp [DataW.trod, Value.cells, Tryz.underlying3, w1, show Tryz.prog.cellsOf 3 = 1 by kernel_rfl]) (by simp [DataW.trod, Value.cells, Tryz.underlying9, w2, show Tryz.prog.cellsOf 9 = 1 by kernel_rfl])⟩
end
/-- A call that hands back true and makes new memory alone. -/
theorem post3 {H : Type} {enc : TypeId × Value → H} {W W' : World} {h z : Int} {s t u : ByteArray}
    (hW : DataW.Whole enc Tryz.prog [23, 9, 9] Rows.updateTotalsSpec.vars false W [.agg #[.int .i64 h, .int .i64 z, .string s], .string t, .string u] [.agg [.lit (.int .i64 h), .lit (.int .i64 z), .lit (.string s.data.toList)], .lit (.string t.data.toList), .lit (.string u.data.toList)] [] [])
    (w0 : (Lit.int .i64 h).wf = true) (w1 : (Lit.int .i64 z).wf = true) (w2 : s.size ≤ maxLen) (w3 : t.size ≤ maxLen) (w4 : u.size ≤ maxLen) (hb : Below W.heap.size W W') :
    Rows.updateTotalsSpec.post enc Tryz.prog Tryz.f4 false true false false W #[.agg #[.int .i64 h, .int .i64 z, .string s], .string t, .string u] (.bool true) W' :=
  ⟨[.agg [.lit (.int .i64 h), .lit (.int .i64 z), .lit (.string s.data.toList)], .lit (.string t.data.toList), .lit (.string u.data.toList)], [], [], [], [], [], by rw [Tryz.params4]; exact hW, trodAll_mk1 (shut_bool Tryz.underlying4 _), by rw [Tryz.params4]; exact trodAll_cons_mk (shut_cfg w0 w1 w2) (trodAll_cons_mk (Go.ChangeMaps.shut_string Tryz.underlying9 w3) (trodAll_cons_mk (Go.ChangeMaps.shut_string Tryz.underlying9 w4) trodAll_mk0)), rfl, hb.frame _, fun h => by cases h⟩
theorem reads (os : Os) {H : Type} (enc : TypeId × Value → H) : ∃ places, DataW.whole enc Tryz.prog ((World.laidAll Tryz.prog os laid3).forCall (fun _ _ => 0) ⟨#[], #[.agg #[.int .i64 0, .int .i64 0, .string ⟨#[]⟩], .string ⟨#[]⟩, .string ⟨#[]⟩], []⟩).memory Tryz.f4.params.toList Rows.updateTotalsSpec.vars false #[.agg #[.int .i64 0, .int .i64 0, .string ⟨#[]⟩], .string ⟨#[]⟩, .string ⟨#[]⟩].toList 8 = some ([.agg [.lit (.int .i64 0), .lit (.int .i64 0), .lit (.string [])], .lit (.string []), .lit (.string [])], [], places) :=
  ⟨[], by kernel_rfl⟩
theorem laid_met (os : Os) (args : Array Value) : laidMetH Tryz.prog laid3 ((World.laidAll Tryz.prog os laid3).forCall (fun _ _ => 0) ⟨#[], args, []⟩).memory := by
  rw [MakeChecks.laidMetH_plain _ _ _ (by kernel_rfl)]; exact laidMet_laidAll _ (by kernel_rfl) (by kernel_rfl)
theorem three_of {H : Type} {enc : TypeId × Value → H} {W : World} {base : Nat} {sp : Nat → Bool} {held : Bool} {t0 t1 t2 : TypeId} {args : List Value} {ds : List (DataW H)} {p : List MemPlace} (h : DataW.TrodAll enc Tryz.prog W base sp held [t0, t1, t2] args ds p) :
    ∃ v0 d0 p0 v1 d1 p1 v2 d2 p2, args = [v0, v1, v2] ∧ ds = [d0, d1, d2] ∧ p = p0 ++ (p1 ++ (p2 ++ [])) ∧ DataW.Trod enc Tryz.prog W base sp held t0 v0 d0 p0 ∧ DataW.Trod enc Tryz.prog W base sp held t1 v1 d1 p1 ∧ DataW.Trod enc Tryz.prog W base sp held t2 v2 d2 p2 := by
  obtain ⟨v0, vs0, d0, ds0, p0, q0, rfl, rfl, rfl, h0, r0⟩ := trodAll_cons h
  obtain ⟨v1, vs1, d1, ds1, p1, q1, rfl, rfl, rfl, h1, r1⟩ := trodAll_cons r0
  obtain ⟨v2, vs2, d2, ds2, p2, q2, rfl, rfl, rfl, h2, r2⟩ := trodAll_cons r1
  obtain ⟨rfl, rfl, rfl⟩ := trodAll_nil r2
  exact ⟨v0, d0, p0, v1, d1, p1, v2, d2, p2, rfl, rfl, rfl, h0, h1, h2⟩
theorem lifted (os : Os) (started : os.Started) (H : Type) (enc : TypeId × Value → H) (F : Stop.Interp) :
    ReturnsInHanded {} Tryz.checked os 4 .any ((OpenSpec.ofChange Rows.updateTotalsSpec).preRow enc Tryz.prog Tryz.f4 Rows.updateTotalsRow.domain false Rows.updateTotalsRow.laid) (((OpenSpec.ofChange Rows.updateTotalsSpec).at F).post enc Tryz.prog Tryz.f4 false true false false) := by
  obtain ⟨places, hx⟩ := reads os enc
  refine returnsInHanded_of_row (C := Tryz.checked) (s := OpenSpec.ofChange Rows.updateTotalsSpec) own started (by kernel_rfl) Tryz.func4
    (witness_row_at (enc := enc) (C := Tryz.checked) false (World.laidAll Tryz.prog os laid3) #[.agg #[.int .i64 0, .int .i64 0, .string ⟨#[]⟩], .string ⟨#[]⟩, .string ⟨#[]⟩] (World.laidAll_os _ _ _) (by kernel_rfl) (by kernel_rfl) (by kernel_rfl)
      (OpenSpec.preRow_of_cond 8 hx (by kernel_rfl) (fun k hk => by cases hk) (by kernel_rfl) (laid_met os _))) ?_
  intro W base args ds gs before hval hW _ _ _ hL hs _
  obtain ⟨p, q, hA0, hV, rfl, hfz, hnd⟩ := id hW
  have hA : DataW.TrodAll enc Tryz.prog W 0 (fun _ => true) true Tryz.f4.params.toList args.toList ds p := hA0
  rw [Tryz.params4] at hA hval
  obtain ⟨v0, d0, p0, v1, d1, p1, v2, d2, p2, ha, rfl, rfl, h0, h1, h2⟩ := three_of hA
  obtain rfl : args = #[v0, v1, v2] := by cases args; simp_all
  obtain ⟨rfl, rfl⟩ := trodVars_none hV
  obtain ⟨h, z, s, rfl, rfl, rfl, w0, w1, w2⟩ := open_cfg (hval 0 23 v0 rfl rfl) h0
  obtain ⟨t, rfl, rfl, rfl, w3⟩ := Go.ChangeMaps.open_string Tryz.underlying9 (hval 1 9 v1 rfl rfl) h1
  obtain ⟨u, rfl, rfl, rfl, w4⟩ := Go.ChangeMaps.open_string Tryz.underlying9 (hval 2 9 v2 rfl rfl) h2
  have hG := glob hL hs
  refine (Go.Eng.ut_true (cfg := ⟨h, z, s⟩) (one := t) (other := u) hG (fun W hG => Go.Eng.awake_ok hG)).mono fun e W' ⟨he, hb⟩ => ?_
  subst he
  refine ⟨_, rfl, post3 ?_ w0 w1 w2 w3 w4 hb⟩
  have hW2 := hW
  rw [Tryz.params4] at hW2
  exact hW2
theorem and_l {a b : Bool} (h1 : a = true) (h2 : b = true) : (a && b) = true := by rw [h1, h2]; rfl
theorem k0 : (Rows.updateTotalsRow.wf (OpenSpec.ofChange ((OpenSpec.ofChange Rows.updateTotalsSpec).bare))) = true := by kernel_rfl
theorem k1 : (laidOutB Tryz.pinned.checked.prog) = true := by kernel_rfl
theorem k2 : (mapsRowed Tryz.pinned.checked.prog) = true := by kernel_rfl
theorem k3 : (Tryz.f4.params.all (Tryz.pinned.checked.prog.readableRec ·)) = true := by kernel_rfl
theorem k4 : (namedTie Tryz.pinned.checked.prog Rows.updateTotalsRow.named ((OpenSpec.ofChange Rows.updateTotalsSpec).bare).vars) = true := by kernel_rfl
theorem k5 : ((Rows.updateTotalsRow.stops == [])) = true := by kernel_rfl
theorem k6 : ((Tryz.pinned.checked.prog.stops == [])) = true := by kernel_rfl
theorem k7 : ((Rows.updateTotalsRow.knobs == [])) = true := by kernel_rfl
theorem k8 : ((Tryz.pinned.checked.prog.stopKnobs == [])) = true := by kernel_rfl
theorem k9 : ((Rows.updateTotalsRow.inPlace == Tryz.pinned.checked.prog.inPlace 4)) = true := by kernel_rfl
theorem k10 : ((Rows.updateTotalsRow.unfollowed == Tryz.pinned.checked.prog.unfollowed 4)) = true := by kernel_rfl
theorem k11 : ((Rows.updateTotalsRow.recurses == Tryz.pinned.checked.prog.recurses 4)) = true := by kernel_rfl
theorem k12 : ((Rows.updateTotalsRow.named == Tryz.pinned.checked.prog.varsNamed 4)) = true := by kernel_rfl
theorem k13 : ((Rows.updateTotalsRow.maps == (Tryz.f4.params.toList ++ ((OpenSpec.ofChange Rows.updateTotalsSpec).bare).plain.varTypes Tryz.pinned.checked.prog).any (Tryz.pinned.checked.prog.mapsRec ·))) = true := by kernel_rfl
theorem k14 : ((Rows.updateTotalsRow.ifaces == (Tryz.f4.params.toList ++ ((OpenSpec.ofChange Rows.updateTotalsSpec).bare).plain.varTypes Tryz.pinned.checked.prog).any (Tryz.pinned.checked.prog.ifacesRec ·))) = true := by kernel_rfl
theorem k15 : ((Rows.updateTotalsRow.mapsOut == Tryz.pinned.checked.prog.mapsAmong Tryz.f4.resultTypes.toList)) = true := by kernel_rfl
theorem k16 : ((Rows.updateTotalsRow.loops == (Tryz.f4.params.toList ++ ((OpenSpec.ofChange Rows.updateTotalsSpec).bare).plain.varTypes Tryz.pinned.checked.prog).any (Tryz.pinned.checked.prog.loopsFrom ·))) = true := by kernel_rfl
theorem k17 : ((Rows.updateTotalsRow.wideKeys == (Tryz.f4.params.toList ++ ((OpenSpec.ofChange Rows.updateTotalsSpec).bare).plain.varTypes Tryz.pinned.checked.prog ++ Tryz.f4.resultTypes.toList).any (Tryz.pinned.checked.prog.wideKeysFrom ·))) = true := by kernel_rfl
theorem k18 : (((OpenSpec.ofChange Rows.updateTotalsSpec).bare).vars.all (Tryz.pinned.checked.prog.varReadable ·)) = true := by kernel_rfl
theorem k19 : (Tryz.f4.resultTypes.all (fun t => Tryz.pinned.checked.prog.readableRec t && decide (t < Tryz.pinned.checked.prog.types.size))) = true := by kernel_rfl
theorem k20 : ((Rows.updateTotalsRow.ifacesOut == Tryz.f4.resultTypes.toList.any (Tryz.pinned.checked.prog.ifacesRec ·))) = true := by kernel_rfl
theorem k21 : ((Rows.updateTotalsRow.loopsOut == Tryz.f4.resultTypes.toList.any (Tryz.pinned.checked.prog.loopsFrom ·))) = true := by kernel_rfl
theorem k22 : ((Rows.updateTotalsRow.plainKeys == Tryz.pinned.checked.prog.plainKeys)) = true := by kernel_rfl
theorem k23 : (Rows.updateTotalsRow.shortTexts.isNone) = true := by kernel_rfl
theorem k24 : (Tryz.pinned.checked.prog.stopsHeard) = true := by kernel_rfl
theorem k25 : (Tryz.pinned.checked.prog.mayEnter) = true := by kernel_rfl
theorem k26 : ((Rows.updateTotalsRow.lifted == Tryz.pinned.checked.prog.liftsFinal)) = true := by kernel_rfl
theorem k27 : ((Tryz.pinned.checked.prog.make == some Rows.updateTotalsRow.make)) = true := by kernel_rfl
theorem k28 : ((Rows.updateTotalsRow.kinds == (if Rows.updateTotalsRow.domain.isEmpty then [] else Tryz.f4.params.toList.map fun t => match Tryz.pinned.checked.prog.underlying t with | some (.int k) => some k | _ => none))) = true := by kernel_rfl
theorem k29 : ((Rows.updateTotalsRow.pinned == Rows.updateTotalsRow.pinnedBy)) = true := by kernel_rfl
theorem k30 : ((Rows.updateTotalsRow.veiled == (Tryz.f4.params.toList ++ ((OpenSpec.ofChange Rows.updateTotalsSpec).bare).plain.varTypes Tryz.pinned.checked.prog ++ Tryz.f4.resultTypes.toList).any (Tryz.pinned.checked.prog.veiledRec ·))) = true := by kernel_rfl
theorem k31 : (Rows.updateTotalsRow.veiledFits Tryz.pinned.checked.prog Tryz.f4.params.toList (Tryz.f4.params.toList ++ ((OpenSpec.ofChange Rows.updateTotalsSpec).bare).plain.varTypes Tryz.pinned.checked.prog ++ Tryz.f4.resultTypes.toList)) = true := by kernel_rfl
theorem closed : joinedFacts Tryz.pinned.checked.prog 4 Tryz.f4 ((OpenSpec.ofChange Rows.updateTotalsSpec).bare) Rows.updateTotalsRow = true := by
  unfold joinedFacts
  exact and_l (and_l (and_l (and_l (and_l (and_l (and_l (and_l (and_l (and_l (and_l (and_l (and_l (and_l (and_l (and_l (and_l (and_l (and_l (and_l (and_l (and_l (and_l (and_l (and_l (and_l (and_l (and_l (and_l (and_l (and_l k0 k1) k2) k3) k4) k5) k6) k7) k8) k9) k10) k11) k12) k13) k14) k15) k16) k17) k18) k19) k20) k21) k22) k23) k24) k25) k26) k27) k28) k29) k30) k31

theorem said : Rows.UpdateTotalsSaid :=
  OpenClaim.holds_of_cond 4 Tryz.f4 rfl rfl rfl rfl rfl rfl rfl ⟨rfl, rfl, rfl, rfl, rfl⟩ rfl rfl rfl rfl rfl (by kernel_rfl) Tryz.func4 closed
    (of_decide_eq_true (by kernel_rfl)) (by unfold Func.isWrapper; first | (rw [if_pos (by decide +kernel)]; kernel_rfl) | (rw [if_neg (by decide +kernel)]; exact ⟨rfl, rfl⟩))
    (fun os started H enc _ F => by rw [OpenClaim.pre_eq_preRow]; exact lifted os started H enc F)
theorem plain (f : FuncId) (fn : Func) (hf : Tryz.pinned.checked.prog.funcNamed "paymaster/paymasterlaw24.UpdateTotals" = some f) (hfn : Tryz.pinned.checked.prog.funcs[f]? = some fn) :
    false = Tryz.pinned.checked.prog.looks [] ∧ ∀ (j : Nat) t, fn.params[j]? = some t → Tryz.pinned.checked.prog.wantsStandIn t = false := by
  obtain rfl : f = 4 := Option.some.inj ((show Tryz.prog.funcNamed "paymaster/paymasterlaw24.UpdateTotals" = some 4 by kernel_rfl).symm.trans hf) |>.symm
  obtain rfl : fn = Tryz.f4 := (Option.some.inj (Tryz.func4.symm.trans hfn)).symm
  refine ⟨by kernel_rfl, fun j t ht => ?_⟩
  rw [Tryz.params4] at ht
  have hm : t ∈ [23, 9, 9] := by simpa using Array.mem_of_getElem? ht
  have hall : ([23, 9, 9].all fun u => !Tryz.prog.wantsStandIn u) = true := by kernel_rfl
  exact (show Tryz.prog.wantsStandIn t = false by simpa using List.all_eq_true.1 hall t hm)
/-- The card. -/
theorem card : Rows.UpdateTotalsCardSaid :=
  Claim7.holds_tied_plain_at .later [] _ _ _ _ said (fun _ h => by cases h) (by kernel_rfl) (fun _ h => by cases h) updateTotals_row_tie rfl ⟨rfl, rfl⟩ (by kernel_rfl) rfl plain (by kernel_rfl)
end Go.Proofs.YtfdnhjfbbggmiaaGreatDoor
