/- The law RecOne: for every input that the statement lets in the law's function laws.FnRecOne returns true and leaves its input as it was. Then the tied card. -/
import Derived.Test.YtoedphbikgoapaaDoorRows
import Derived.Test.YtoedphbikgoapaaDoorTie
import Derived.Test.YtoedphbikgoapaaDoorCards
import Derived.Test.YtoedphbikgoapaaDoorRecPlain
import Derived.Test.YtoedphbikgoapaaDoorWArg
import Derived.WalkKit
import Derived.ProofKit
import Derived.OpenShut
import Derived.ShutString
import Derived.ChangeOld
import Derived.Below
import Derived.SizedLaws
import Derived.LaidMore
import Derived.Stop.LaidErr
import Derived.Stop.Joined
import Derived.Lib.LaidTab
import Derived.SevenTiedAt
namespace Go.Proofs.YtoedphbikgoapaaDoor.Ta
open Go.RowKit Go.Proofs.YtoedphbikgoapaaDoorW.PrintWords Go.Proofs.YtoedphbikgoapaaDoorW.PrintLast Go.Proofs.YtoedphbikgoapaaDoorW.PrintMore
theorem bytes_list (l : List UInt8) : (⟨l.toArray⟩ : ByteArray).toList = l := by
  rw [ByteArray.toList_eq]
theorem full {a b c d : Int} (h : ¬ (recTextS a b c d).toList = []) : recOkB a b c d = true := by
  cases hk : recOkB a b c d with
  | true => rfl
  | false =>
    refine absurd ?_ h
    rw [(text_empty a b c d).2 hk]
    exact bytes_list []
theorem differ {a b c d a' b' c' d' : Int} (h1 : ¬ (recTextS a b c d).toList = []) (h2 : ¬ (recTextS a' b' c' d').toList = []) (hne : ¬ (a = a' ∧ b = b' ∧ c = c' ∧ d = d')) : (!(recTextS a b c d).toList == (recTextS a' b' c' d').toList) = true := by
  cases he : (recTextS a b c d).toList == (recTextS a' b' c' d').toList with
  | false => rfl
  | true =>
    have e := eq_of_beq he
    unfold recTextS at e
    rw [bytes_list, bytes_list] at e
    exact absurd (text_inj (full h1) (full h2) e) hne
set_option maxHeartbeats 2000000 in
set_option maxRecDepth 100000 in
theorem laws_FnRecOne.calls (A0 : Option Addr) (c0 : Nat) (l0 : List Int) (A1 : Option Addr) (c1 : Nat) (l1 : List Int) (w : World) (hr0 : Kd.C (Kd.int .u8) w A0 l0.length l0) (hc0 : l0.length ≤ c0) (hr1 : Kd.C (Kd.int .u8) w A1 l1.length l1) (hc1 : l1.length ≤ c1) (hb0 : Bytes l0) (hb1 : Bytes l1) (htab : Lib.TabIs Tryd.prog w "internal/strconv.uint64pow10" .u64 Lib.pow10Tab) :
    Calls Tryd.prog 6 #[.slice A0 l0.length c0, .slice A1 l1.length c1] w fun e w' => e = .returned (.bool true) ∧ Below w.heap.size w w' := by
  have hu := Tryd.underlying24
  obtain ⟨a, b, c, d, hd1⟩ := drawRecText_ok 4 hb0
  obtain ⟨a', b', c', d', hd2⟩ := drawRecText_ok 4 hb1
  have HD1 := Aside0.mk hd1
  have HD2 := Aside0.mk hd2
  have HC0 := Aside0.mk hc0
  have HC1 := Aside0.mk hc1
  clear hd1 hd2 hc0 hc1 hb0 hb1
  by_cases g0 : 1048576 < (l0.length : Int)
  · have h0 := decide_eq_true g0
    go_enter Tryd.func6, Tryd.ntmps6
    go_wp2
    go_ret
    exact ⟨rfl, Below.refl _ _⟩
  by_cases g1 : 1048576 < (l1.length : Int)
  · have h0 := decide_eq_false g0
    have h1 := decide_eq_true g1
    go_enter Tryd.func6, Tryd.ntmps6
    go_wp2
    go_ret
    exact ⟨rfl, Below.refl _ _⟩
  have h0 := decide_eq_false g0
  have h1 := decide_eq_false g1
  clear g0 g1
  go_enter Tryd.func6, Tryd.ntmps6
  go_wp2_with fail
  refine (spec_DrawRecText.calls 5 A0 c0 l0 a b c d _ hr0 HC0.out HD1.out).mono ?_
  rintro e w2 ⟨rfl, hb⟩
  have hB2 := hb
  clear hb h0 h1
  have hx := blk_new w2 (.cells #[.int .i64 a, .int .i64 b, .int .i64 c, .int .i64 d] 24)
  have hB3 := below_alloc hB2 (.cells #[.int .i64 a, .int .i64 b, .int .i64 c, .int .i64 d] 24)
  go_wp2_with fail
  refine (spec_DrawRecText.calls 5 A1 c1 l1 a' b' c' d' _ (Kd.C_below hr1 hB3) HC1.out HD2.out).mono ?_
  rintro e w4 ⟨rfl, hb⟩
  have hB4 := below_then hB3 hB3.size hb
  have hx4 := blk_below hx hb
  clear hB2 hB3 hx hb
  have hy := blk_new w4 (.cells #[.int .i64 a', .int .i64 b', .int .i64 c', .int .i64 d'] 24)
  have hB5 := below_alloc hB4 (.cells #[.int .i64 a', .int .i64 b', .int .i64 c', .int .i64 d'] 24)
  have hx5 := blk_alloc hx4 (.cells #[.int .i64 a', .int .i64 b', .int .i64 c', .int .i64 d'] 24)
  have q0 : w4.cell? ⟨w2.heap.size, 0, none⟩ = some (.int .i64 a) := (blk_cell hx4 0).trans rfl
  have q1 : w4.cell? ⟨w2.heap.size, 1, none⟩ = some (.int .i64 b) := (blk_cell hx4 1).trans rfl
  have q2 : w4.cell? ⟨w2.heap.size, 2, none⟩ = some (.int .i64 c) := (blk_cell hx4 2).trans rfl
  have q3 : w4.cell? ⟨w2.heap.size, 3, none⟩ = some (.int .i64 d) := (blk_cell hx4 3).trans rfl
  have hlt := blk_lt hx4
  go_wp2_with fail
  refine (impl_RecText.calls a b c d _ (tabKept htab hB5)).mono ?_
  rintro e w6 ⟨rfl, hb⟩
  have hB6 := below_then hB5 hB5.size hb
  have hx6 := blk_below hx5 hb
  have hy6 := blk_below hy hb
  clear hB4 hB5 hb q0 q1 q2 q3 hx4 hx5 hy hlt
  have q0 : w6.cell? ⟨w2.heap.size, 0, none⟩ = some (.int .i64 a) := (blk_cell hx6 0).trans rfl
  have q1 : w6.cell? ⟨w2.heap.size, 1, none⟩ = some (.int .i64 b) := (blk_cell hx6 1).trans rfl
  have q2 : w6.cell? ⟨w2.heap.size, 2, none⟩ = some (.int .i64 c) := (blk_cell hx6 2).trans rfl
  have q3 : w6.cell? ⟨w2.heap.size, 3, none⟩ = some (.int .i64 d) := (blk_cell hx6 3).trans rfl
  have r0 : w6.cell? ⟨w4.heap.size, 0, none⟩ = some (.int .i64 a') := (blk_cell hy6 0).trans rfl
  have r1 : w6.cell? ⟨w4.heap.size, 1, none⟩ = some (.int .i64 b') := (blk_cell hy6 1).trans rfl
  have r2 : w6.cell? ⟨w4.heap.size, 2, none⟩ = some (.int .i64 c') := (blk_cell hy6 2).trans rfl
  have r3 : w6.cell? ⟨w4.heap.size, 3, none⟩ = some (.int .i64 d') := (blk_cell hy6 3).trans rfl
  go_wp2_with fail
  refine (impl_RecText.calls a' b' c' d' _ (tabKept htab hB6)).mono ?_
  rintro e w7 ⟨rfl, hb⟩
  have hB7 := below_then hB6 hB6.size hb
  have hx7 := blk_below hx6 hb
  have hy7 := blk_below hy6 hb
  clear hB6 hb q0 q1 q2 q3 r0 r1 r2 r3 hx6 hy6
  have q0 : w7.cell? ⟨w2.heap.size, 0, none⟩ = some (.int .i64 a) := (blk_cell hx7 0).trans rfl
  have q1 : w7.cell? ⟨w2.heap.size, 1, none⟩ = some (.int .i64 b) := (blk_cell hx7 1).trans rfl
  have q2 : w7.cell? ⟨w2.heap.size, 2, none⟩ = some (.int .i64 c) := (blk_cell hx7 2).trans rfl
  have q3 : w7.cell? ⟨w2.heap.size, 3, none⟩ = some (.int .i64 d) := (blk_cell hx7 3).trans rfl
  have r0 : w7.cell? ⟨w4.heap.size, 0, none⟩ = some (.int .i64 a') := (blk_cell hy7 0).trans rfl
  have r1 : w7.cell? ⟨w4.heap.size, 1, none⟩ = some (.int .i64 b') := (blk_cell hy7 1).trans rfl
  have r2 : w7.cell? ⟨w4.heap.size, 2, none⟩ = some (.int .i64 c') := (blk_cell hy7 2).trans rfl
  have r3 : w7.cell? ⟨w4.heap.size, 3, none⟩ = some (.int .i64 d') := (blk_cell hy7 3).trans rfl
  go_wp2_with fail
  refine (spec_RecText.calls 5 a b c d _ _ (specRecText_ok a b c d 5 (by decide))).mono ?_
  rintro e w8 ⟨rfl, hb⟩
  have hB8 := below_then hB7 hB7.size hb
  have hx8 := blk_below hx7 hb
  have hy8 := blk_below hy7 hb
  clear hB7 hb q0 q1 q2 q3 r0 r1 r2 r3 hx7 hy7
  have q0 : w8.cell? ⟨w2.heap.size, 0, none⟩ = some (.int .i64 a) := (blk_cell hx8 0).trans rfl
  have q1 : w8.cell? ⟨w2.heap.size, 1, none⟩ = some (.int .i64 b) := (blk_cell hx8 1).trans rfl
  have q2 : w8.cell? ⟨w2.heap.size, 2, none⟩ = some (.int .i64 c) := (blk_cell hx8 2).trans rfl
  have q3 : w8.cell? ⟨w2.heap.size, 3, none⟩ = some (.int .i64 d) := (blk_cell hx8 3).trans rfl
  have r0 : w8.cell? ⟨w4.heap.size, 0, none⟩ = some (.int .i64 a') := (blk_cell hy8 0).trans rfl
  have r1 : w8.cell? ⟨w4.heap.size, 1, none⟩ = some (.int .i64 b') := (blk_cell hy8 1).trans rfl
  have r2 : w8.cell? ⟨w4.heap.size, 2, none⟩ = some (.int .i64 c') := (blk_cell hy8 2).trans rfl
  have r3 : w8.cell? ⟨w4.heap.size, 3, none⟩ = some (.int .i64 d') := (blk_cell hy8 3).trans rfl
  go_wp2_with fail
  refine (spec_RecText.calls 5 a' b' c' d' _ _ (specRecText_ok a' b' c' d' 5 (by decide))).mono ?_
  rintro e w9 ⟨rfl, hb⟩
  have hB9 := below_then hB8 hB8.size hb
  have hx9 := blk_below hx8 hb
  have hy9 := blk_below hy8 hb
  clear hB8 hb q0 q1 q2 q3 r0 r1 r2 r3 hx8 hy8
  have q0 : w9.cell? ⟨w2.heap.size, 0, none⟩ = some (.int .i64 a) := (blk_cell hx9 0).trans rfl
  have q1 : w9.cell? ⟨w2.heap.size, 1, none⟩ = some (.int .i64 b) := (blk_cell hx9 1).trans rfl
  have q2 : w9.cell? ⟨w2.heap.size, 2, none⟩ = some (.int .i64 c) := (blk_cell hx9 2).trans rfl
  have q3 : w9.cell? ⟨w2.heap.size, 3, none⟩ = some (.int .i64 d) := (blk_cell hx9 3).trans rfl
  have r0 : w9.cell? ⟨w4.heap.size, 0, none⟩ = some (.int .i64 a') := (blk_cell hy9 0).trans rfl
  have r1 : w9.cell? ⟨w4.heap.size, 1, none⟩ = some (.int .i64 b') := (blk_cell hy9 1).trans rfl
  have r2 : w9.cell? ⟨w4.heap.size, 2, none⟩ = some (.int .i64 c') := (blk_cell hy9 2).trans rfl
  have r3 : w9.cell? ⟨w4.heap.size, 3, none⟩ = some (.int .i64 d') := (blk_cell hy9 3).trans rfl
  go_wp2_with fail
  · refine (spec_RecText.calls 5 a b c d _ _ (specRecText_ok a b c d 5 (by decide))).mono ?_
    rintro e w10 ⟨rfl, hb⟩
    have hB10 := below_then hB9 hB9.size hb
    have hy10 := blk_below hy9 hb
    clear hB9 hb q0 q1 q2 q3 r0 r1 r2 r3
    have r0 : w10.cell? ⟨w4.heap.size, 0, none⟩ = some (.int .i64 a') := (blk_cell hy10 0).trans rfl
    have r1 : w10.cell? ⟨w4.heap.size, 1, none⟩ = some (.int .i64 b') := (blk_cell hy10 1).trans rfl
    have r2 : w10.cell? ⟨w4.heap.size, 2, none⟩ = some (.int .i64 c') := (blk_cell hy10 2).trans rfl
    have r3 : w10.cell? ⟨w4.heap.size, 3, none⟩ = some (.int .i64 d') := (blk_cell hy10 3).trans rfl
    go_wp2_with fail
    refine (spec_RecText.calls 5 a' b' c' d' _ _ (specRecText_ok a' b' c' d' 5 (by decide))).mono ?_
    rintro e w11 ⟨rfl, hb⟩
    have hB11 := below_then hB10 hB10.size hb
    clear hB10 hb r0 r1 r2 r3
    go_wp2
    go_ret
    exact ⟨rfl, hB11⟩
  · refine (spec_RecText.calls 5 a b c d _ _ (specRecText_ok a b c d 5 (by decide))).mono ?_
    rintro e w10 ⟨rfl, hb⟩
    have hB10 := below_then hB9 hB9.size hb
    have hy10 := blk_below hy9 hb
    clear hB9 hb q0 q1 q2 q3 r0 r1 r2 r3
    have r0 : w10.cell? ⟨w4.heap.size, 0, none⟩ = some (.int .i64 a') := (blk_cell hy10 0).trans rfl
    have r1 : w10.cell? ⟨w4.heap.size, 1, none⟩ = some (.int .i64 b') := (blk_cell hy10 1).trans rfl
    have r2 : w10.cell? ⟨w4.heap.size, 2, none⟩ = some (.int .i64 c') := (blk_cell hy10 2).trans rfl
    have r3 : w10.cell? ⟨w4.heap.size, 3, none⟩ = some (.int .i64 d') := (blk_cell hy10 3).trans rfl
    go_wp2_with fail
    refine (spec_RecText.calls 5 a' b' c' d' _ _ (specRecText_ok a' b' c' d' 5 (by decide))).mono ?_
    rintro e w11 ⟨rfl, hb⟩
    have hB11 := below_then hB10 hB10.size hb
    clear hB10 hb r0 r1 r2 r3
    go_wp2
    go_ret
    exact ⟨rfl, hB11⟩
  all_goals go_ret
  all_goals subst_vars
  all_goals refine ⟨?_, hB9⟩
  all_goals first | rfl | (refine congrArg (fun z => Ending.returned (Value.bool z)) ?_; exact differ (by assumption) (by simp_all) (by rintro ⟨h1, h2, h3, h4⟩; first | exact absurd h1 (by assumption) | exact absurd h2 (by assumption) | exact absurd h3 (by assumption) | exact absurd h4 (by assumption)))
end Go.Proofs.YtoedphbikgoapaaDoor.Ta
namespace Go.Proofs.YtoedphbikgoapaaDoor
namespace LFnRecOne
open Go.ChangeShapes Go.WideShapes Go.ChangeAt Go.RowKit Go.Proofs.YtoedphbikgoapaaDoor.Ta Go.Proofs.YtoedphbikgoapaaDoorW.PrintWords
open Go.ChangeMaps (open_string shut_string)
set_option linter.unusedVariables false
def IsRow (k : IntKind) (w : World) (a : Option Addr) (len cap : Nat) (zs : List Int) : Prop :=
  (a = none ∧ len = 0 ∧ cap = 0 ∧ zs = []) ∨ ∃ x, a = some x ∧ len ≤ cap ∧ cap ≤ maxLen ∧ zs.length = cap ∧ (∀ i, i < zs.length → w.cell? (x.add i) = some (.int k (zs.getD i 0))) ∧ ∀ n ∈ zs, (Lit.int k n).wf = true
theorem own : ownKnob Tryd.prog.godebug = none := by kernel_rfl
theorem laidOut : laidOutB Tryd.prog = true := by kernel_rfl
theorem pow10 : (Rows.laid_internal_strconv_uint64pow10 : DataW Unit) = Lib.tabData .u64 Lib.pow10Tab := by rfl
theorem pow10_type : (Tryd.prog.globals[2]?).map (·.type) = some 105 := by kernel_rfl
theorem tab_of {W : World} (h : laidMetH Tryd.prog Rows.fnRecOneRow.laid W) : Lib.TabIs Tryd.prog W "internal/strconv.uint64pow10" .u64 Lib.pow10Tab := by
  rw [MakeChecks.laidMetH_plain _ _ _ (by kernel_rfl)] at h
  have h2 := laidMet.tail (laidMet.tail h)
  rw [pow10] at h2
  exact Lib.tabIs_of_head (by kernel_rfl) pow10_type Tryd.underlying105 Tryd.underlying86 (by kernel_rfl) (by kernel_rfl) h2
theorem door_met (os : Os) : laidMetH Tryd.prog Rows.fnRecOneRow.laid ((World.doorLaid Tryd.prog 4000 os).forCall (fun _ _ => 0) ⟨#[], #[.slice none 0 0, .slice none 0 0], []⟩).memory :=
  laidMetH_of_parts3 (fuel := 8) (laidMet_of_run' 8 (by kernel_rfl) (by kernel_rfl)) (by kernel_rfl) (by kernel_rfl)
set_option maxRecDepth 100000 in
theorem lifted (os : Os) (started : os.Started) (H : Type) (enc : TypeId × Value → H) :
    ReturnsInHanded {} Tryd.checked os 6 .any (fun w args => (Rows.fnRecOneSpec.pre enc Tryd.prog Tryd.f6 Rows.fnRecOneRow.domain false w args ∧ laidMetH Tryd.prog Rows.fnRecOneRow.laid w) ∧ sizedMet enc Tryd.prog Tryd.f6 (OpenSpec.ofChange Rows.fnRecOneSpec) false w args)
      (Rows.fnRecOneSpec.post enc Tryd.prog Tryd.f6 false true false false) := by
  refine returnsInHanded_of_change_and (C := Tryd.checked) (X := fun w _ => laidMetH Tryd.prog Rows.fnRecOneRow.laid w) (fun _ _ _ hh h => h.of_heap hh) own started (by kernel_rfl) Tryd.func6
    (ChangeSpec.witness_shaped (enc := enc) (C := Tryd.checked) (os := os) (X := fun w _ => laidMetH Tryd.prog Rows.fnRecOneRow.laid w) false (World.doorLaid Tryd.prog 4000 os) #[.slice none 0 0, .slice none 0 0] 8 rfl (World.shaped_of_RefB (by kernel_rfl) (by kernel_rfl)) (by kernel_rfl) (by kernel_rfl) (by kernel_rfl) (door_met os)) ?_
  intro W base args ds gs before hval0 hW hcnd hsz0 hL _
  have hval : ∀ (j : Nat) t v, Tryd.f6.params[j]? = some t → args[j]? = some v → Value.okWide Tryd.prog W .any base t v := hval0
  have htab := tab_of hL
  have hW' := hW
  obtain ⟨p, q, hA0, hV, rfl, hfz, hnd⟩ := hW
  have hA : DataW.TrodAll enc Tryd.prog W 0 (fun _ => true) true Tryd.f6.params.toList args.toList ds p := hA0
  rw [Tryd.params6] at hA hval
  have hsz : (DataW.weightsEach Tryd.prog (Tryd.f6.params.toList ++ Rows.fnRecOneSpec.plain.varTypes Tryd.prog) (ds ++ gs)).all (· ≤ reachBytes) = true := hsz0
  rw [Tryd.params6] at hsz
  obtain ⟨v0, vs0, d0, ds0, p0, q0, hargs, rfl, rfl, h0, r0⟩ := trodAll_cons hA
  obtain ⟨v1, vs1, d1, ds1, p1, q1, rfl, rfl, rfl, h1, r1⟩ := trodAll_cons r0
  obtain ⟨rfl, rfl, rfl⟩ := trodAll_nil r1
  obtain rfl : args = #[v0, v1] := by cases args; simp_all
  obtain ⟨rfl, rfl⟩ := trodVars_none hV
  obtain ⟨a0, len0, cap0, rfl⟩ := okWide_slice Tryd.underlying22 (hval 0 22 v0 rfl rfl)
  have k0 := h0
  have lt0 : ∀ x ∈ p0, x.block < W.heap.size := by obtain ⟨m, hm⟩ := k0; exact DataW.trod_lt m _ _ _ hm
  obtain ⟨z0, w0⟩ : ∃ zs, IsRow .u8 W a0 len0 cap0 zs := by
    obtain ⟨fuel, hf⟩ := h0
    rcases open_ints Tryd.underlying22 Tryd.underlying5 (by kernel_rfl) hf with ⟨hcs, _⟩ | ⟨x, l, c, zs, hcs, _, hl, hm, hz, _, hcell, hwz⟩
    · simp [Value.cells] at hcs
      obtain ⟨rfl, rfl, rfl⟩ := hcs
      exact ⟨[], .inl ⟨rfl, rfl, rfl, rfl⟩⟩
    · simp [Value.cells] at hcs
      obtain ⟨rfl, rfl, rfl⟩ := hcs
      exact ⟨zs, .inr ⟨_, rfl, hl, hm, by simpa using hz, hcell, hwz⟩⟩
  obtain ⟨a1, len1, cap1, rfl⟩ := okWide_slice Tryd.underlying22 (hval 1 22 v1 rfl rfl)
  have k1 := h1
  have lt1 : ∀ x ∈ p1, x.block < W.heap.size := by obtain ⟨m, hm⟩ := k1; exact DataW.trod_lt m _ _ _ hm
  obtain ⟨z1, w1⟩ : ∃ zs, IsRow .u8 W a1 len1 cap1 zs := by
    obtain ⟨fuel, hf⟩ := h1
    rcases open_ints Tryd.underlying22 Tryd.underlying5 (by kernel_rfl) hf with ⟨hcs, _⟩ | ⟨x, l, c, zs, hcs, _, hl, hm, hz, _, hcell, hwz⟩
    · simp [Value.cells] at hcs
      obtain ⟨rfl, rfl, rfl⟩ := hcs
      exact ⟨[], .inl ⟨rfl, rfl, rfl, rfl⟩⟩
    · simp [Value.cells] at hcs
      obtain ⟨rfl, rfl, rfl⟩ := hcs
      exact ⟨zs, .inr ⟨_, rfl, hl, hm, by simpa using hz, hcell, hwz⟩⟩
  clear hA0 hval0 hsz0 hsz
  obtain ⟨l0, rfl, hr0, hm0, hw0, hc0⟩ := ReadsInt.ofRowC w0
  obtain ⟨l1, rfl, hr1, hm1, hw1, hc1⟩ := ReadsInt.ofRowC w1
  refine (laws_FnRecOne.calls _ _ l0 _ _ l1 W (Kd.C_of_reads (d := (0 : Int)) (h1 := fun _ => rfl) hr0) hc0 (Kd.C_of_reads (d := (0 : Int)) (h1 := fun _ => rfl) hr1) hc1 (bytes_of hw0) (bytes_of hw1) htab).mono fun e W' ⟨he, bel⟩ => ?_
  subst he
  exact ⟨_, rfl, _, _, _, [], _, [], hW', trodAll_mk1 (shut_bool Tryd.underlying4 _), (trodAll_cons_mk (Below.trod laidOut (by kernel_rfl) (of_decide_eq_true (by kernel_rfl)) k0 bel lt0) (trodAll_cons_mk (Below.trod laidOut (by kernel_rfl) (of_decide_eq_true (by kernel_rfl)) k1 bel lt1) trodAll_mk0)), rfl, bel.frame _, fun h => by cases h⟩
theorem over : Rows.fnRecOneRow.holds Tryd.pinned (OpenSpec.ofChange Rows.fnRecOneSpec) :=
  OpenClaim.holds_of_wide 6 Tryd.f6 rfl rfl rfl rfl rfl rfl rfl ⟨rfl, rfl, rfl, rfl, rfl⟩ rfl rfl rfl rfl rfl (by kernel_rfl) Tryd.func6 (by kernel_rfl)
    (of_decide_eq_true (by kernel_rfl)) (by unfold Func.isWrapper; first | (rw [if_pos (by decide +kernel)]; kernel_rfl) | (rw [if_neg (by decide +kernel)]; exact ⟨rfl, rfl⟩))
    (fun os started H enc _ => lifted os started H enc)
end LFnRecOne
/-- The given statement: the tied card. -/
theorem fnRecOne_holds : Rows.FnRecOneCardSaid :=
  Claim7.holds_tied_plain_at .later [] [.data, .data, .data] true Rows.fnRecOneCard.stood.harness true
    LFnRecOne.over (fun _ h => by cases h) (by kernel_rfl) (fun _ h => by cases h) fnRecOne_row_tie rfl ⟨rfl, rfl⟩ (by kernel_rfl) rfl
    (fun f fn hf hfn => by
      obtain rfl : f = 6 := Option.some.inj ((show Tryd.prog.funcNamed "loop.example/buttery/laws.FnRecOne" = some 6 by kernel_rfl).symm.trans hf) |>.symm
      obtain rfl : fn = Tryd.f6 := (Option.some.inj (Tryd.func6.symm.trans hfn)).symm
      exact ⟨by kernel_rfl, fun j t ht => by
        rw [Tryd.params6] at ht
        have hm : t ∈ [22, 22] := by simpa using Array.mem_of_getElem? ht
        have hall : ([22, 22].all fun u => !Tryd.prog.wantsStandIn u) = true := by kernel_rfl
        exact (show Tryd.prog.wantsStandIn t = false by simpa using List.all_eq_true.1 hall t hm)⟩)
    (by kernel_rfl)
#print axioms fnRecOne_holds
end Go.Proofs.YtoedphbikgoapaaDoor
