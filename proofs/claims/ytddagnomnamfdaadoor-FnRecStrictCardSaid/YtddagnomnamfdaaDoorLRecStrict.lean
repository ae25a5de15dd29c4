/- The law RecStrict: for every input that the statement lets in the law's function laws.FnRecStrict returns true and leaves its input as it was. Then the tied card. -/
import Derived.Test.YtddagnomnamfdaaDoorRows
import Derived.Test.YtddagnomnamfdaaDoorTie
import Derived.Test.YtddagnomnamfdaaDoorCards
import Derived.Test.YtddagnomnamfdaaDoorSpecRead
import Derived.Test.YtddagnomnamfdaaDoorDrawRead
import Derived.Test.YtddagnomnamfdaaDoorWArg
import Derived.WalkKit
import Derived.ProofKit
import Derived.OpenShut
import Derived.ShutString
import Derived.ChangeOld
import Derived.Below
import Derived.SizedLaws
import Derived.HandedShaped
import Derived.Lay
import Derived.Shelf.Vars
import Derived.LaidMore
import Derived.Stop.LaidErr
import Derived.Stop.Joined
import Derived.Lib.LaidTab
import Derived.SevenTiedAt
namespace Go.Proofs.YtddagnomnamfdaaDoor.Ta
open Go.RowKit Go.Proofs.YtddagnomnamfdaaDoorW.PrintWords Go.Proofs.YtddagnomnamfdaaDoorW.PrintLast Go.Proofs.YtddagnomnamfdaaDoorW.PrintMore
set_option maxHeartbeats 2000000 in
set_option maxRecDepth 100000 in
theorem laws_FnRecStrict.calls (A0 : Option Addr) (c0 : Nat) (l0 : List Int) (m : Int) (ev : Value) (w : World) (hr0 : Kd.C (Kd.int .u8) w A0 l0.length l0) (hc0 : l0.length ≤ c0) (hb0 : Bytes l0) (htab : Lib.TabIs Tryd.prog w "internal/strconv.uint64pow10" .u64 Lib.pow10Tab)
    (hE : w.cell? ⟨0, 0, none⟩ = some ev) (hev : ev = .nilIface ∨ ∃ te pe, ev = .iface te pe) (hM : w.cell? ⟨3, 0, none⟩ = some (.int .i64 m)) :
    Calls Tryd.prog 5 #[.slice A0 l0.length c0] w fun e w' => e = .returned (.bool true) ∧ Below w.heap.size w w' := by
  have hu := Tryd.underlying24
  have HW := Aside0.mk (And.intro hE (And.intro hev hM))
  obtain ⟨s, hd1⟩ := drawRecRead_ok hb0
  have HD1 := Aside0.mk hd1
  have HC0 := Aside0.mk hc0
  clear hd1 hc0 hb0 hE hev hM
  by_cases g0 : 1048576 < (l0.length : Int)
  · have h0 := decide_eq_true g0
    go_enter Tryd.func5, Tryd.ntmps5
    go_wp2
    go_ret
    exact ⟨rfl, Below.refl _ _⟩
  have h0 := decide_eq_false g0
  clear g0
  go_enter Tryd.func5, Tryd.ntmps5
  go_wp2_with fail
  refine (Tc.spec_DrawRecRead.calls 6 A0 c0 l0 s _ hr0 HC0.out HD1.out).mono ?_
  rintro e w1 ⟨rfl, hB1⟩
  clear h0
  go_wp2_with fail
  refine (spec_RecRead.calls s _).mono ?_
  rintro e w2 ⟨a, b, c, d, ok, rfl, hR, hb⟩
  have hB2 := below_then hB1 hB1.size hb
  clear hB1 hb
  have hx := blk_new w2 (.cells #[.int .i64 a, .int .i64 b, .int .i64 c, .int .i64 d] 24)
  have hB3 := below_alloc hB2 (.cells #[.int .i64 a, .int .i64 b, .int .i64 c, .int .i64 d] 24)
  go_wp2_with fail
  refine (impl_RecRead.calls s m ev _ (tabKept htab hB3) (up hB3 HW.out.1) HW.out.2.1 (up hB3 HW.out.2.2)).mono ?_
  rintro e w4 ⟨a', b', c', d', ok', rfl, hR', hb⟩
  obtain ⟨rfl, rfl, rfl, rfl, rfl⟩ := reads_one hR hR'
  have hB4 := below_then hB3 hB3.size hb
  have hx4 := blk_below hx hb
  clear hB2 hB3 hx hb hR'
  have q0 : w4.cell? ⟨w2.heap.size, 0, none⟩ = some (.int .i64 a) := (blk_cell hx4 0).trans rfl
  have q1 : w4.cell? ⟨w2.heap.size, 1, none⟩ = some (.int .i64 b) := (blk_cell hx4 1).trans rfl
  have q2 : w4.cell? ⟨w2.heap.size, 2, none⟩ = some (.int .i64 c) := (blk_cell hx4 2).trans rfl
  have q3 : w4.cell? ⟨w2.heap.size, 3, none⟩ = some (.int .i64 d) := (blk_cell hx4 3).trans rfl
  have hlt := blk_lt hx4
  have hB5 := below_alloc hB4 (.cells #[.int .i64 a, .int .i64 b, .int .i64 c, .int .i64 d] 24)
  have hy5 := blk_new w4 (.cells #[.int .i64 a, .int .i64 b, .int .i64 c, .int .i64 d] 24)
  have HR := Aside0.mk hR
  clear hR
  cases ok with
  | false =>
    go_wp2
    go_ret
    exact ⟨rfl, hB5⟩
  | true =>
    have hok : Aside0 (recOkB a b c d = true ∧ recTextS a b c d = s) := ⟨by
      rcases HR.out with ⟨_, h2, h3⟩ | ⟨h1, _⟩
      · exact ⟨h2, h3⟩
      · cases h1⟩
    go_wp2_with fail
    refine (impl_RecOk.calls a b c d (recOkB a b c d) _ rfl).mono ?_
    rintro e w6 ⟨rfl, hb⟩
    rw [hok.out.1]
    have hB6 := below_then hB5 hB5.size hb
    have hy6 := blk_below hy5 hb
    clear hB4 hB5 hb hx4 hy5 q0 q1 q2 q3 hlt
    have q0 : w6.cell? ⟨w4.heap.size, 0, none⟩ = some (.int .i64 a) := (blk_cell hy6 0).trans rfl
    have q1 : w6.cell? ⟨w4.heap.size, 1, none⟩ = some (.int .i64 b) := (blk_cell hy6 1).trans rfl
    have q2 : w6.cell? ⟨w4.heap.size, 2, none⟩ = some (.int .i64 c) := (blk_cell hy6 2).trans rfl
    have q3 : w6.cell? ⟨w4.heap.size, 3, none⟩ = some (.int .i64 d) := (blk_cell hy6 3).trans rfl
    go_wp2_with fail
    refine (impl_RecText.calls a b c d _ (tabKept htab hB6)).mono ?_
    rintro e w7 ⟨rfl, hb⟩
    have hB7 := below_then hB6 hB6.size hb
    have et := strL_eq hok.out.2
    clear hB6 hb hy6 q0 q1 q2 q3
    go_wp2
    go_ret
    exact ⟨rfl, hB7⟩
end Go.Proofs.YtddagnomnamfdaaDoor.Ta
namespace Go.Proofs.YtddagnomnamfdaaDoor
namespace LFnRecStrict
open Go.ChangeShapes Go.WideShapes Go.ChangeAt Go.RowKit Go.Proofs.YtddagnomnamfdaaDoor.Ta Go.Proofs.YtddagnomnamfdaaDoorW.PrintWords
open Go.ChangeMaps (open_string shut_string)
set_option linter.unusedVariables false
def IsRow (k : IntKind) (w : World) (a : Option Addr) (len cap : Nat) (zs : List Int) : Prop :=
  (a = none ∧ len = 0 ∧ cap = 0 ∧ zs = []) ∨ ∃ x, a = some x ∧ len ≤ cap ∧ cap ≤ maxLen ∧ zs.length = cap ∧ (∀ i, i < zs.length → w.cell? (x.add i) = some (.int k (zs.getD i 0))) ∧ ∀ n ∈ zs, (Lit.int k n).wf = true
theorem maxLen_cell {w : World} (h : w.ShapedOpen Tryd.prog) : ∃ m, w.cell? ⟨3, 0, none⟩ = some (.int .i64 m) := Go.Proofs.cell_of_shapedOpen_int (zero := #[.int .i64 0]) (t := 3) h (of_decide_eq_true (by kernel_rfl)) (by kernel_rfl) rfl (by kernel_rfl) (by kernel_rfl) Tryd.underlying3
theorem err_cell {W : World} (h : laidMetH Tryd.prog Rows.fnRecStrictRow.laid W) : ∃ ev, W.cell? ⟨0, 0, none⟩ = some ev ∧ (ev = .nilIface ∨ ∃ te pe, ev = .iface te pe) := by
  rw [MakeChecks.laidMetH_plain _ _ _ (by kernel_rfl)] at h
  have h2 := laidMet.tail (laidMet.tail (laidMet.tail (laidMet.tail (laidMet.tail h))))
  obtain ⟨a, s, hv, _⟩ := laid_sentinel (g := 0) h2 (by kernel_rfl) (ti := 49) (by kernel_rfl) Tryd.underlying49 (tp := 106) (fun u h => typeName_ptr_named (nm := "errors.errorString") (by rw [show "*" ++ "errors.errorString" = "*errors.errorString" by decide]; kernel_rfl) (by kernel_rfl) (by decide) u (by rw [show "*" ++ "errors.errorString" = "*errors.errorString" by decide]; exact h)) Tryd.underlying106 Tryd.underlying108 rfl rfl Tryd.underlying9 (by kernel_rfl) (by kernel_rfl)
  have h0 := World.var?_cell (g := 0) (by kernel_rfl) hv 0
  exact ⟨_, by simpa using h0, Or.inr ⟨_, _, rfl⟩⟩
/-- The wrap that keeps both: the listed variables, and the world's shape. -/
theorem handed_both {H : Type} {enc : TypeId × Value → H} {a : Assume} {C : Checked} {os : Os} {f : FuncId} {fn : Func} {s : ChangeSpec} {conds : List PathCond} {apart fresh handsOn again : Bool} {X : World → Array Value → Prop}
    (hX : ∀ (w w' : World) (args : Array Value), w.heap = w'.heap → X w args → X w' args)
    (own : ownKnob C.prog.godebug = none) (started : os.Started) (noInit : C.prog.inits.idxOf? f = none) (hfn : C.prog.funcs[f]? = some fn)
    (witness : ∃ (w : World) (tape : Tape) (i : Input), w.os = os ∧ (w.forCall tape i).Shaped C.prog ∧ i.vars = [] ∧ Input.okWide C.prog (w.forCall tape i) .any w.heap.size f i ∧
      ((s.pre enc C.prog fn conds apart (w.forCall tape i).memory i.args ∧ X (w.forCall tape i).memory i.args) ∧ sizedMet enc C.prog fn (OpenSpec.ofChange s) apart (w.forCall tape i).memory i.args) ∧ a.holds C.prog (lone (Frame.enter C.prog f i.args .normal) [] (w.forCall tape i)))
    (contract : ∀ (W : World) (base : Nat) (args : Array Value) (ds gs : List (DataW H)) (before : List MemPlace),
      (∀ (j : Nat) t v, fn.params[j]? = some t → args[j]? = some v → Value.okWide C.prog W .any base t v) →
      DataW.Whole enc C.prog fn.params.toList s.vars apart W args.toList ds gs before →
      (DataW.weightsEach C.prog (fn.params.toList ++ s.plain.varTypes C.prog) (ds ++ gs)).all (· ≤ reachBytes) = true → X W args → W.ShapedOpen C.prog →
      Calls C.prog f args W fun e W' => ∃ v, e = .returned v ∧ s.post enc C.prog fn apart fresh handsOn again W args v W') :
    ReturnsInHanded a C os f .any (fun w args => (s.pre enc C.prog fn conds apart w args ∧ X w args) ∧ sizedMet enc C.prog fn (OpenSpec.ofChange s) apart w args) (s.post enc C.prog fn apart fresh handsOn again) := by
  refine returnsInHanded_of_calls own started noInit witness ?_
  intro w tape i _ hsh _ hok hpre hholds
  obtain ⟨_, _, _, fn', hfn', _, _, _, _, hval⟩ := hok
  have e : fn' = fn := Option.some.inj (hfn'.symm.trans hfn)
  subst e
  obtain ⟨⟨⟨ds, gs, before, hw, hc⟩, hx⟩, hz⟩ := hpre
  have hw' := DataW.Whole.of_heap (w' := w.forCall tape i) (by rfl) hw
  refine (contract (w.forCall tape i) w.heap.size i.args ds gs before hval hw' (hz.weights hw) (hX _ _ _ (by rfl) hx) hsh).mono fun e W' ⟨v, he, hp⟩ => ?_
  subst he
  exact ChangeSpec.post_blind hp
theorem own : ownKnob Tryd.prog.godebug = none := by kernel_rfl
theorem laidOut : laidOutB Tryd.prog = true := by kernel_rfl
theorem pow10 : (Rows.laid_internal_strconv_uint64pow10 : DataW Unit) = Lib.tabData .u64 Lib.pow10Tab := by rfl
theorem pow10_type : (Tryd.prog.globals[2]?).map (·.type) = some 101 := by kernel_rfl
theorem tab_of {W : World} (h : laidMetH Tryd.prog Rows.fnRecStrictRow.laid W) : Lib.TabIs Tryd.prog W "internal/strconv.uint64pow10" .u64 Lib.pow10Tab := by
  rw [MakeChecks.laidMetH_plain _ _ _ (by kernel_rfl)] at h
  have h2 := laidMet.tail (laidMet.tail h)
  rw [pow10] at h2
  exact Lib.tabIs_of_head (by kernel_rfl) pow10_type Tryd.underlying101 Tryd.underlying82 (by kernel_rfl) (by kernel_rfl) h2
theorem door_met (os : Os) : laidMetH Tryd.prog Rows.fnRecStrictRow.laid ((World.laidAll Tryd.prog os Rows.fnRecStrictRow.laid).forCall (fun _ _ => 0) ⟨#[], #[.slice none 0 0], []⟩).memory := by
  rw [MakeChecks.laidMetH_plain _ _ _ (by kernel_rfl)]
  exact laidMet_laidAll _ (by kernel_rfl) (by kernel_rfl)
set_option maxRecDepth 100000 in
theorem lifted (os : Os) (started : os.Started) (H : Type) (enc : TypeId × Value → H) :
    ReturnsInHanded {} Tryd.checked os 5 .any (fun w args => (Rows.fnRecStrictSpec.pre enc Tryd.prog Tryd.f5 Rows.fnRecStrictRow.domain false w args ∧ laidMetH Tryd.prog Rows.fnRecStrictRow.laid w) ∧ sizedMet enc Tryd.prog Tryd.f5 (OpenSpec.ofChange Rows.fnRecStrictSpec) false w args)
      (Rows.fnRecStrictSpec.post enc Tryd.prog Tryd.f5 false true false false) := by
  refine handed_both (C := Tryd.checked) (X := fun w _ => laidMetH Tryd.prog Rows.fnRecStrictRow.laid w) (fun _ _ _ hh h => h.of_heap hh) own started (by kernel_rfl) Tryd.func5
    (ChangeSpec.witness_shaped (enc := enc) (C := Tryd.checked) (os := os) (X := fun w _ => laidMetH Tryd.prog Rows.fnRecStrictRow.laid w) false (World.laidAll Tryd.prog os Rows.fnRecStrictRow.laid) #[.slice none 0 0] 8 (World.laidAll_os _ _ _) (World.shaped_of_ZipB (by kernel_rfl) (by kernel_rfl)) (by kernel_rfl) (by kernel_rfl) (by kernel_rfl) (door_met os)) ?_
  intro W base args ds gs before hval0 hW hsz0 hL hsh
  have hval : ∀ (j : Nat) t v, Tryd.f5.params[j]? = some t → args[j]? = some v → Value.okWide Tryd.prog W .any base t v := hval0
  have htab := tab_of hL
  obtain ⟨mx, hM⟩ := maxLen_cell hsh
  obtain ⟨ev, hE, hev⟩ := err_cell hL
  have hW' := hW
  obtain ⟨p, q, hA0, hV, rfl, hfz, hnd⟩ := hW
  have hA : DataW.TrodAll enc Tryd.prog W 0 (fun _ => true) true Tryd.f5.params.toList args.toList ds p := hA0
  rw [Tryd.params5] at hA hval
  have hsz : (DataW.weightsEach Tryd.prog (Tryd.f5.params.toList ++ Rows.fnRecStrictSpec.plain.varTypes Tryd.prog) (ds ++ gs)).all (· ≤ reachBytes) = true := hsz0
  rw [Tryd.params5] at hsz
  obtain ⟨v0, vs0, d0, ds0, p0, q0, hargs, rfl, rfl, h0, r0⟩ := trodAll_cons hA
  obtain ⟨rfl, rfl, rfl⟩ := trodAll_nil r0
  obtain rfl : args = #[v0] := by cases args; simp_all
  obtain ⟨rfl, rfl⟩ := trodVars_none hV
  obtain ⟨a0, len0, cap0, rfl⟩ := okWide_slice Tryd.underlying22 (hval 0 22 v0 rfl rfl)
  have k0 := h0
  have lt0 : ∀ x ∈ p0, x.block < W.heap.size := by obtain ⟨m, hm⟩ := k0; exact DataW.trod_lt m _ _ _ hm
  obtain ⟨z0, w0⟩ : ∃ zs, IsRow .u8 W a0 len0 cap0 zs := by
    obtain ⟨fuel, hf⟩ := h0
    rcases open_ints Tryd.underlying22 Tryd.underlying5 (by kernel_rfl) hf with ⟨hcs, _⟩ | ⟨x, l, c, zs, hcs, _, hl, hm, hz, _, hcell, hwz⟩
    · simp [Value.cells] at hcs
      obtain ⟨rfl, rfl, rfl⟩ := hcs
      exact ⟨[], .inl ⟨rfl, rfl, rfl, rfl⟩⟩
    · simp [Value.cells] at hcs
      obtain ⟨rfl, rfl, rfl⟩ := hcs
      exact ⟨zs, .inr ⟨_, rfl, hl, hm, by simpa using hz, hcell, hwz⟩⟩
  clear hA0 hval0 hsz0 hsz
  obtain ⟨l0, rfl, hr0, hm0, hw0, hc0⟩ := ReadsInt.ofRowC w0
  refine (laws_FnRecStrict.calls _ _ l0 mx ev W (Kd.C_of_reads (d := (0 : Int)) (h1 := fun _ => rfl) hr0) hc0 (bytes_of hw0) htab hE hev hM).mono fun e W' ⟨he, bel⟩ => ?_
  subst he
  exact ⟨_, rfl, _, _, _, [], _, [], hW', trodAll_mk1 (shut_bool Tryd.underlying4 _), (trodAll_cons_mk (Below.trod laidOut (by kernel_rfl) (of_decide_eq_true (by kernel_rfl)) k0 bel lt0) trodAll_mk0), rfl, bel.frame _, fun h => by cases h⟩
theorem over : Rows.fnRecStrictRow.holds Tryd.pinned (OpenSpec.ofChange Rows.fnRecStrictSpec) :=
  OpenClaim.holds_of_wide 5 Tryd.f5 rfl rfl rfl rfl rfl rfl rfl ⟨rfl, rfl, rfl, rfl, rfl⟩ rfl rfl rfl rfl rfl (by kernel_rfl) Tryd.func5 (by kernel_rfl)
    (of_decide_eq_true (by kernel_rfl)) (by unfold Func.isWrapper; first | (rw [if_pos (by decide +kernel)]; kernel_rfl) | (rw [if_neg (by decide +kernel)]; exact ⟨rfl, rfl⟩))
    (fun os started H enc _ => lifted os started H enc)
end LFnRecStrict
/-- The given statement: the tied card. -/
theorem fnRecStrict_holds : Rows.FnRecStrictCardSaid :=
  Claim7.holds_tied_plain_at .later [] [.data, .data, .data, .data, .sentinel, .sentinel, .pinned] true Rows.fnRecStrictCard.stood.harness true
    LFnRecStrict.over (fun _ h => by cases h) (by kernel_rfl) (fun _ h => by cases h) fnRecStrict_row_tie rfl ⟨rfl, rfl⟩ (by kernel_rfl) rfl
    (fun f fn hf hfn => by
      obtain rfl : f = 5 := Option.some.inj ((show Tryd.prog.funcNamed "loop.example/buttery/laws.FnRecStrict" = some 5 by kernel_rfl).symm.trans hf) |>.symm
      obtain rfl : fn = Tryd.f5 := (Option.some.inj (Tryd.func5.symm.trans hfn)).symm
      exact ⟨by kernel_rfl, fun j t ht => by
        rw [Tryd.params5] at ht
        have hm : t ∈ [22] := by simpa using Array.mem_of_getElem? ht
        have hall : ([22].all fun u => !Tryd.prog.wantsStandIn u) = true := by kernel_rfl
        exact (show Tryd.prog.wantsStandIn t = false by simpa using List.all_eq_true.1 hall t hm)⟩)
    (by kernel_rfl)
#print axioms fnRecStrict_holds
end Go.Proofs.YtddagnomnamfdaaDoor
