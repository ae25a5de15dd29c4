/- The program's RecText answers as the reference's RecText: for every input that the statement lets in the law's function laws.FnExactRecText returns true and leaves its input as it was. Then the tied card. -/
import Derived.Test.YtoedphbikgoapaaDoorRows
import Derived.Test.YtoedphbikgoapaaDoorTie
import Derived.Test.YtoedphbikgoapaaDoorCards
import Derived.Test.YtoedphbikgoapaaDoorRecSpec
import Derived.Test.YtoedphbikgoapaaDoorWArg
import Derived.WalkKit
import Derived.ProofKit
import Derived.OpenShut
import Derived.ShutString
import Derived.ChangeOld
import Derived.Below
import Derived.SizedLaws
import Derived.LaidMore
import Derived.Stop.LaidErr
import Derived.Stop.Joined
import Derived.Lib.LaidTab
import Derived.SevenTiedAt
namespace Go.Proofs.YtoedphbikgoapaaDoor.Ta
open Go.RowKit Go.Proofs.YtoedphbikgoapaaDoorW.PrintWords Go.Proofs.YtoedphbikgoapaaDoorW.PrintLast Go.Proofs.YtoedphbikgoapaaDoorW.PrintMore
set_option maxHeartbeats 2000000 in
set_option maxRecDepth 100000 in
theorem laws_FnExactRecText.calls (a b c d : Int) (w : World) (htab : Lib.TabIs Tryd.prog w "internal/strconv.uint64pow10" .u64 Lib.pow10Tab) :
    Calls Tryd.prog 5 #[.agg #[.int .i64 a, .int .i64 b, .int .i64 c, .int .i64 d]] w fun e w' => e = .returned (.bool true) ∧ Below w.heap.size w w' := by
  have hu := Tryd.underlying32
  have hbox := blk_new w (.cells #[.int .i64 a, .int .i64 b, .int .i64 c, .int .i64 d] 32)
  have hB1 := below_alloc (Below.refl _ w) (.cells #[.int .i64 a, .int .i64 b, .int .i64 c, .int .i64 d] 32)
  go_enter Tryd.func5, Tryd.ntmps5
  go_wp2_with fail
  refine (laws_toRec.calls a b c d a b c d _ rfl).mono ?_
  rintro e w2 ⟨rfl, hb⟩
  have hB2 := below_then hB1 hB1.size hb
  have hbx := blk_below hbox hb
  clear hbox hB1 hb
  go_wp2_with fail
  refine (spec_RecText.calls 5 a b c d _ _ (specRecText_ok a b c d 5 (by decide))).mono ?_
  rintro e w3 ⟨rfl, hb⟩
  have hB3 := below_then hB2 hB2.size hb
  have hbx := blk_below hbx hb
  have hq0 : w3.cell? ⟨w.heap.size, 0, none⟩ = some (.int .i64 a) := (blk_cell hbx 0).trans rfl
  have hq1 : w3.cell? ⟨w.heap.size, 1, none⟩ = some (.int .i64 b) := (blk_cell hbx 1).trans rfl
  have hq2 : w3.cell? ⟨w.heap.size, 2, none⟩ = some (.int .i64 c) := (blk_cell hbx 2).trans rfl
  have hq3 : w3.cell? ⟨w.heap.size, 3, none⟩ = some (.int .i64 d) := (blk_cell hbx 3).trans rfl
  clear hB2 hb
  go_wp2_with fail
  refine (laws_toRec.calls a b c d a b c d _ rfl).mono ?_
  rintro e w4 ⟨rfl, hb⟩
  have hB4 := below_then hB3 hB3.size hb
  clear hB3 hb hbx hq0 hq1 hq2 hq3
  go_wp2_with fail
  refine (impl_RecText.calls a b c d _ (tabKept htab hB4)).mono ?_
  rintro e w5 ⟨rfl, hb⟩
  have hB5 := below_then hB4 hB4.size hb
  clear hB4 hb
  go_wp2
  go_ret
  exact ⟨rfl, hB5⟩
end Go.Proofs.YtoedphbikgoapaaDoor.Ta
namespace Go.Proofs.YtoedphbikgoapaaDoor
namespace LFnExactRecText
open Go.ChangeShapes Go.WideShapes Go.ChangeAt Go.RowKit Go.Proofs.YtoedphbikgoapaaDoor.Ta Go.Proofs.YtoedphbikgoapaaDoorW.PrintWords
open Go.ChangeMaps (open_string shut_string)
set_option linter.unusedVariables false
theorem rdRecF : Rd Tryd.prog 32 (Kd.pair (Kd.int .i64) (Kd.pair (Kd.int .i64) (Kd.pair (Kd.int .i64) (Kd.int .i64)))) := Rd.struct4 Tryd.underlying32 (by kernel_rfl) (Rd.int Tryd.underlying3 (by kernel_rfl)) (Rd.int Tryd.underlying3 (by kernel_rfl)) (Rd.int Tryd.underlying3 (by kernel_rfl)) (Rd.int Tryd.underlying3 (by kernel_rfl)) (by kernel_rfl) (by kernel_rfl) (by kernel_rfl) (by kernel_rfl)
theorem own : ownKnob Tryd.prog.godebug = none := by kernel_rfl
theorem laidOut : laidOutB Tryd.prog = true := by kernel_rfl
theorem pow10 : (Rows.laid_internal_strconv_uint64pow10 : DataW Unit) = Lib.tabData .u64 Lib.pow10Tab := by rfl
theorem pow10_type : (Tryd.prog.globals[2]?).map (·.type) = some 105 := by kernel_rfl
theorem tab_of {W : World} (h : laidMetH Tryd.prog Rows.fnExactRecTextRow.laid W) : Lib.TabIs Tryd.prog W "internal/strconv.uint64pow10" .u64 Lib.pow10Tab := by
  rw [MakeChecks.laidMetH_plain _ _ _ (by kernel_rfl)] at h
  have h2 := laidMet.tail (laidMet.tail h)
  rw [pow10] at h2
  exact Lib.tabIs_of_head (by kernel_rfl) pow10_type Tryd.underlying105 Tryd.underlying86 (by kernel_rfl) (by kernel_rfl) h2
theorem door_met (os : Os) : laidMetH Tryd.prog Rows.fnExactRecTextRow.laid ((World.doorLaid Tryd.prog 4000 os).forCall (fun _ _ => 0) ⟨#[], #[.agg #[.int .i64 0, .int .i64 0, .int .i64 0, .int .i64 0]], []⟩).memory :=
  laidMetH_of_parts3 (fuel := 8) (laidMet_of_run' 8 (by kernel_rfl) (by kernel_rfl)) (by kernel_rfl) (by kernel_rfl)
set_option maxRecDepth 100000 in
theorem lifted (os : Os) (started : os.Started) (H : Type) (enc : TypeId × Value → H) :
    ReturnsInHanded {} Tryd.checked os 5 .any (fun w args => (Rows.fnExactRecTextSpec.pre enc Tryd.prog Tryd.f5 Rows.fnExactRecTextRow.domain false w args ∧ laidMetH Tryd.prog Rows.fnExactRecTextRow.laid w) ∧ sizedMet enc Tryd.prog Tryd.f5 (OpenSpec.ofChange Rows.fnExactRecTextSpec) false w args)
      (Rows.fnExactRecTextSpec.post enc Tryd.prog Tryd.f5 false true false false) := by
  refine returnsInHanded_of_change_and (C := Tryd.checked) (X := fun w _ => laidMetH Tryd.prog Rows.fnExactRecTextRow.laid w) (fun _ _ _ hh h => h.of_heap hh) own started (by kernel_rfl) Tryd.func5
    (ChangeSpec.witness_shaped (enc := enc) (C := Tryd.checked) (os := os) (X := fun w _ => laidMetH Tryd.prog Rows.fnExactRecTextRow.laid w) false (World.doorLaid Tryd.prog 4000 os) #[.agg #[.int .i64 0, .int .i64 0, .int .i64 0, .int .i64 0]] 8 rfl (World.shaped_of_RefB (by kernel_rfl) (by kernel_rfl)) (by kernel_rfl) (by kernel_rfl) (by kernel_rfl) (door_met os)) ?_
  intro W base args ds gs before hval0 hW hcnd hsz0 hL _
  have hval : ∀ (j : Nat) t v, Tryd.f5.params[j]? = some t → args[j]? = some v → Value.okWide Tryd.prog W .any base t v := hval0
  have htab := tab_of hL
  have hW' := hW
  obtain ⟨p, q, hA0, hV, rfl, hfz, hnd⟩ := hW
  have hA : DataW.TrodAll enc Tryd.prog W 0 (fun _ => true) true Tryd.f5.params.toList args.toList ds p := hA0
  rw [Tryd.params5] at hA hval
  obtain ⟨v0, vs0, d0, ds0, p0, q0, hargs, rfl, rfl, h0, r0⟩ := trodAll_cons hA
  obtain ⟨rfl, rfl, rfl⟩ := trodAll_nil r0
  obtain rfl : args = #[v0] := by cases args; simp_all
  obtain ⟨rfl, rfl⟩ := trodVars_none hV
  have k0 := h0
  have lt0 : ∀ x ∈ p0, x.block < W.heap.size := by obtain ⟨m, hm⟩ := k0; exact DataW.trod_lt m _ _ _ hm
  obtain ⟨cs0, rfl, _⟩ := okWide_struct Tryd.underlying32 (hval 0 32 v0 rfl rfl)
  obtain ⟨x0_0, x0_1, x0_2, x0_3, e0⟩ : ∃ x y z u : Int, cs0 = #[.int .i64 x, .int .i64 y, .int .i64 z, .int .i64 u] := by
    obtain ⟨m, hm⟩ := h0
    obtain ⟨l, ca, cb, e, ea, cc, cd, e2, ec, cf, cg, e3, ef, eg⟩ := rdRecF.out hm
    cases (show ca = _ from ea)
    cases (show cc = _ from ec)
    cases (show cf = _ from ef)
    cases (show cg = _ from eg)
    subst e3
    subst e2
    exact ⟨_, _, _, _, Array.ext' e⟩
  subst e0
  clear hA0 hval0 hsz0
  refine (laws_FnExactRecText.calls x0_0 x0_1 x0_2 x0_3 W htab).mono fun e W' ⟨he, bel⟩ => ?_
  subst he
  exact ⟨_, rfl, _, _, _, [], _, [], hW', trodAll_mk1 (shut_bool Tryd.underlying4 _), (trodAll_cons_mk (Below.trod laidOut (by kernel_rfl) (of_decide_eq_true (by kernel_rfl)) k0 bel lt0) trodAll_mk0), rfl, bel.frame _, fun h => by cases h⟩
theorem over : Rows.fnExactRecTextRow.holds Tryd.pinned (OpenSpec.ofChange Rows.fnExactRecTextSpec) :=
  OpenClaim.holds_of_wide 5 Tryd.f5 rfl rfl rfl rfl rfl rfl rfl ⟨rfl, rfl, rfl, rfl, rfl⟩ rfl rfl rfl rfl rfl (by kernel_rfl) Tryd.func5 (by kernel_rfl)
    (of_decide_eq_true (by kernel_rfl)) (by unfold Func.isWrapper; first | (rw [if_pos (by decide +kernel)]; kernel_rfl) | (rw [if_neg (by decide +kernel)]; exact ⟨rfl, rfl⟩))
    (fun os started H enc _ => lifted os started H enc)
end LFnExactRecText
/-- The given statement: the tied card. -/
theorem fnExactRecText_holds : Rows.FnExactRecTextCardSaid :=
  Claim7.holds_tied_plain_at .later [] [.data, .data, .data] true Rows.fnExactRecTextCard.stood.harness true
    LFnExactRecText.over (fun _ h => by cases h) (by kernel_rfl) (fun _ h => by cases h) fnExactRecText_row_tie rfl ⟨rfl, rfl⟩ (by kernel_rfl) rfl
    (fun f fn hf hfn => by
      obtain rfl : f = 5 := Option.some.inj ((show Tryd.prog.funcNamed "loop.example/buttery/laws.FnExactRecText" = some 5 by kernel_rfl).symm.trans hf) |>.symm
      obtain rfl : fn = Tryd.f5 := (Option.some.inj (Tryd.func5.symm.trans hfn)).symm
      exact ⟨by kernel_rfl, fun j t ht => by
        rw [Tryd.params5] at ht
        have hm : t ∈ [32] := by simpa using Array.mem_of_getElem? ht
        have hall : ([32].all fun u => !Tryd.prog.wantsStandIn u) = true := by kernel_rfl
        exact (show Tryd.prog.wantsStandIn t = false by simpa using List.all_eq_true.1 hall t hm)⟩)
    (by kernel_rfl)
#print axioms fnExactRecText_holds
end Go.Proofs.YtoedphbikgoapaaDoor
