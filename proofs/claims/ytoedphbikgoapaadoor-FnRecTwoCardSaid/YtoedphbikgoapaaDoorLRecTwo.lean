/- The law RecTwo: for every input that the statement lets in the law's function laws.FnRecTwo returns true and leaves its input as it was. Then the tied card. -/
import Derived.Test.YtoedphbikgoapaaDoorRows
import Derived.Test.YtoedphbikgoapaaDoorTie
import Derived.Test.YtoedphbikgoapaaDoorCards
import Derived.Test.YtoedphbikgoapaaDoorRecPlain
import Derived.Test.YtoedphbikgoapaaDoorWArg
import Derived.WalkKit
import Derived.ProofKit
import Derived.OpenShut
import Derived.ShutString
import Derived.ChangeOld
import Derived.Below
import Derived.SizedLaws
import Derived.LaidMore
import Derived.Stop.LaidErr
import Derived.Stop.Joined
import Derived.Lib.LaidTab
import Derived.SevenTiedAt
namespace Go.Proofs.YtoedphbikgoapaaDoor.Ta
open Go.RowKit Go.Proofs.YtoedphbikgoapaaDoorW.PrintWords Go.Proofs.YtoedphbikgoapaaDoorW.PrintLast Go.Proofs.YtoedphbikgoapaaDoorW.PrintMore
theorem bytes_list (l : List UInt8) : (⟨l.toArray⟩ : ByteArray).toList = l := by
  rw [ByteArray.toList_eq]
theorem text_full {a b c d : Int} (h : recOkB a b c d = true) : (recTextS a b c d).toList.isEmpty = false := by
  unfold recTextS
  rw [bytes_list, text_eq h]
  cases wordL a <;> rfl
theorem text_short {a b c d : Int} (h : recOkB a b c d = true) : (⟨(recTextL a b c d).toArray⟩ : ByteArray).size ≤ 1000 := by
  obtain ⟨p1, p2, p3, p4, p5, p6, p7⟩ := ok_parts h
  have h1 : (wordL a).length = 5 := by rcases p1 with rfl | rfl <;> rfl
  have h2 := Lib.itoa_length_le b (by omega) (by omega)
  have h3 := Lib.itoa_length_le c (by omega) (by omega)
  have h4 := Lib.itoa_length_le d (by omega) (by omega)
  show (recTextL a b c d).toArray.size ≤ 1000
  rw [List.size_toArray, text_eq h]
  simp only [List.length_append, List.length_cons]
  omega
theorem byte_at {s : ByteArray} {j : Nat} (h : j < s.size) : s.data.toList.take (j + 1) = s.data.toList.take j ++ [s[j]] := by
  have hl : j < s.data.toList.length := by simpa using h
  rw [List.take_add_one, List.getElem?_eq_getElem hl]
  simp
  rfl
theorem count_hit {s : ByteArray} {m j : Nat} (h : j < s.size) (hc : (((s[j].toNat : Nat) : Int) == 32) = true) (hm : m = (s.data.toList.take j).count 32) : m + 1 = (s.data.toList.take (j + 1)).count 32 := by
  have e : s[j] = 32 := by
    have h2 := eq_of_beq hc
    apply UInt8.toNat_inj.1
    have h3 : (32 : UInt8).toNat = 32 := rfl
    omega
  rw [byte_at h, e, List.count_append, ← hm]
  rfl
theorem count_miss {s : ByteArray} {m j : Nat} (h : j < s.size) (hc : (((s[j].toNat : Nat) : Int) == 32) = false) (hm : m = (s.data.toList.take j).count 32) : m = (s.data.toList.take (j + 1)).count 32 := by
  have e : s[j] ≠ 32 := by
    intro e
    rw [e] at hc
    exact absurd hc (by decide)
  rw [byte_at h, List.count_append, ← hm, List.count_singleton, if_neg (by simpa using e)]
  rfl
theorem three {a b c d : Int} {s : ByteArray} (h : recOkB a b c d = true) (hs : recTextS a b c d = s) : s.data.toList.count 32 = 3 := by
  obtain ⟨p1, p2, p3, p4, p5, p6, p7⟩ := ok_parts h
  subst hs
  show ((recTextL a b c d).toArray.toList).count 32 = 3
  rw [List.toList_toArray, text_eq h]
  simp only [List.count_append, List.count_cons, beq_self_eq_true, if_true, List.count_eq_zero.2 (word_noBlank a), List.count_eq_zero.2 (itoa_noBlank (n := b) (by omega)), List.count_eq_zero.2 (itoa_noBlank (n := c) (by omega)), List.count_eq_zero.2 (itoa_noBlank (n := d) (by omega))]
theorem tellsApart {a b c d z : Int} {s t : ByteArray} (h : recOkB a b c d = true) (hz : 1 ≤ z ∧ z ≤ 600) (hs : recTextS a b c d = s) (ht : recTextS a z c d = t) : ((t.toList == s.toList) == (b == z)) = true := by
  subst hs
  subst ht
  obtain ⟨p1, p2, p3, p4, p5, p6, p7⟩ := ok_parts h
  by_cases e : b = z
  · subst e
    rw [beq_self_eq_true, beq_self_eq_true]
    rfl
  · have h2 : recOkB a z c d = true := by unfold recOkB; exact decide_eq_true ⟨p1, hz.1, hz.2, p4, p5, p6, p7⟩
    have e1 : (b == z) = false := by simpa using e
    rw [e1]
    cases he : (recTextS a z c d).toList == (recTextS a b c d).toList with
    | false => rfl
    | true =>
      have q := eq_of_beq he
      unfold recTextS at q
      rw [bytes_list, bytes_list] at q
      exact absurd (text_inj h2 h q).2.1.symm e
set_option maxHeartbeats 2000000 in
set_option maxRecDepth 100000 in
theorem laws_FnRecTwo.calls (A0 : Option Addr) (c0 : Nat) (l0 : List Int) (A1 : Option Addr) (c1 : Nat) (l1 : List Int) (w : World) (hr0 : Kd.C (Kd.int .u8) w A0 l0.length l0) (hc0 : l0.length ≤ c0) (_hr1 : Kd.C (Kd.int .u8) w A1 l1.length l1) (_hc1 : l1.length ≤ c1) (hb0 : Bytes l0) (_hb1 : Bytes l1) (htab : Lib.TabIs Tryd.prog w "internal/strconv.uint64pow10" .u64 Lib.pow10Tab) :
    Calls Tryd.prog 7 #[.slice A0 l0.length c0, .slice A1 l1.length c1] w fun e w' => e = .returned (.bool true) ∧ Below w.heap.size w w' := by
  have hu := Tryd.underlying24
  obtain ⟨a, b, c, d, hd1⟩ := drawRecText_ok 4 hb0
  have HD1 := Aside0.mk hd1
  have HC0 := Aside0.mk hc0
  clear hd1 hc0 hb0
  by_cases g0 : 1048576 < (l0.length : Int)
  · have h0 := decide_eq_true g0
    go_enter Tryd.func7, Tryd.ntmps7
    go_wp2
    go_ret
    exact ⟨rfl, Below.refl _ _⟩
  by_cases g1 : 1048576 < (l1.length : Int)
  · have h0 := decide_eq_false g0
    have h1 := decide_eq_true g1
    go_enter Tryd.func7, Tryd.ntmps7
    go_wp2
    go_ret
    exact ⟨rfl, Below.refl _ _⟩
  have h0 := decide_eq_false g0
  have h1 := decide_eq_false g1
  have G1 := Aside0.mk g1
  clear g0 g1
  go_enter Tryd.func7, Tryd.ntmps7
  go_wp2_with fail
  refine (spec_DrawRecText.calls 5 A0 c0 l0 a b c d _ hr0 HC0.out HD1.out).mono ?_
  rintro e w2 ⟨rfl, hb⟩
  have hB2 := hb
  clear hb h0 h1
  have hx := blk_new w2 (.cells #[.int .i64 a, .int .i64 b, .int .i64 c, .int .i64 d] 24)
  have hB3 := below_alloc hB2 (.cells #[.int .i64 a, .int .i64 b, .int .i64 c, .int .i64 d] 24)
  go_wp2_with fail
  refine (impl_RecText.calls a b c d _ (tabKept htab hB3)).mono ?_
  rintro e w4 ⟨rfl, hb⟩
  have hB4 := below_then hB3 hB3.size hb
  have hx4 := blk_below hx hb
  clear hB2 hB3 hx hb
  have q0 : w4.cell? ⟨w2.heap.size, 0, none⟩ = some (.int .i64 a) := (blk_cell hx4 0).trans rfl
  have q1 : w4.cell? ⟨w2.heap.size, 1, none⟩ = some (.int .i64 b) := (blk_cell hx4 1).trans rfl
  have q2 : w4.cell? ⟨w2.heap.size, 2, none⟩ = some (.int .i64 c) := (blk_cell hx4 2).trans rfl
  have q3 : w4.cell? ⟨w2.heap.size, 3, none⟩ = some (.int .i64 d) := (blk_cell hx4 3).trans rfl
  cases hok : recOkB a b c d with
  | false =>
    rw [(text_empty a b c d).2 hok]
    have hsp := Aside0.mk ((specRecText_ok a b c d 5 (by decide)).trans (congrArg some ((text_empty a b c d).2 hok)))
    clear hok
    go_wp2_with fail
    refine (spec_RecText.calls 5 a b c d _ _ hsp.out).mono ?_
    rintro e w5 ⟨rfl, hb⟩
    have hB5 := below_then hB4 hB4.size hb
    have hx5 := blk_below hx4 hb
    clear hB4 hb q0 q1 q2 q3 hx4
    have q0 : w5.cell? ⟨w2.heap.size, 0, none⟩ = some (.int .i64 a) := (blk_cell hx5 0).trans rfl
    have q1 : w5.cell? ⟨w2.heap.size, 1, none⟩ = some (.int .i64 b) := (blk_cell hx5 1).trans rfl
    have q2 : w5.cell? ⟨w2.heap.size, 2, none⟩ = some (.int .i64 c) := (blk_cell hx5 2).trans rfl
    have q3 : w5.cell? ⟨w2.heap.size, 3, none⟩ = some (.int .i64 d) := (blk_cell hx5 3).trans rfl
    go_wp2_with fail
    refine (spec_RecText.calls 5 a b c d _ _ hsp.out).mono ?_
    rintro e w6 ⟨rfl, hb⟩
    have hB6 := below_then hB5 hB5.size hb
    clear hB5 hb q0 q1 q2 q3 hx5
    go_wp2
    go_ret
    exact ⟨rfl, hB6⟩
  | true =>
    have hne := text_full hok
    have HOK := Aside0.mk hok
    clear hok
    go_wp2_with fail
    refine (spec_RecText.calls 5 a b c d _ _ (specRecText_ok a b c d 5 (by decide))).mono ?_
    rintro e w5 ⟨rfl, hb⟩
    have hB5 := below_then hB4 hB4.size hb
    have hx5 := blk_below hx4 hb
    clear hB4 hb q0 q1 q2 q3 hx4
    have q0 : w5.cell? ⟨w2.heap.size, 0, none⟩ = some (.int .i64 a) := (blk_cell hx5 0).trans rfl
    have q1 : w5.cell? ⟨w2.heap.size, 1, none⟩ = some (.int .i64 b) := (blk_cell hx5 1).trans rfl
    have q2 : w5.cell? ⟨w2.heap.size, 2, none⟩ = some (.int .i64 c) := (blk_cell hx5 2).trans rfl
    have q3 : w5.cell? ⟨w2.heap.size, 3, none⟩ = some (.int .i64 d) := (blk_cell hx5 3).trans rfl
    have hlt := blk_lt hx5
    go_wp2_with fail
    have hz : 1 ≤ wrap64 (1 + (wrap64 (b + (l1.length : Int) % 7)).tmod 600) ∧ wrap64 (1 + (wrap64 (b + (l1.length : Int) % 7)).tmod 600) ≤ 600 := by
      obtain ⟨p1, p2, p3, p4⟩ := ok_parts HOK.out
      have e1 : wrap64 (b + (l1.length : Int) % 7) = b + (l1.length : Int) % 7 := wrap64_id _ (by omega) (by omega)
      rw [e1, Int.tmod_eq_emod_of_nonneg (by omega), wrap64_id _ (by omega) (by omega)]
      omega
    generalize wrap64 (1 + (wrap64 (b + (l1.length : Int) % 7)).tmod 600) = z at hz ⊢
    have HZ := Aside0.mk hz
    have hB6 := below_alloc hB5 (.cells #[.int .i64 a, .int .i64 z, .int .i64 c, .int .i64 d] 24)
    have hx6 := blk_alloc hx5 (.cells #[.int .i64 a, .int .i64 z, .int .i64 c, .int .i64 d] 24)
    have hy6 := blk_new w5 (.cells #[.int .i64 a, .int .i64 z, .int .i64 c, .int .i64 d] 24)
    clear hz hlt q0 q1 q2 q3 hx5 hB5
    refine (impl_RecText.calls a z c d _ (tabKept htab hB6)).mono ?_
    rintro e w7 ⟨rfl, hb⟩
    have hB7 := below_then hB6 hB6.size hb
    have hx7 := blk_below hx6 hb
    have hy7 := blk_below hy6 hb
    clear hB6 hx6 hy6 hb hne
    have q0 : w7.cell? ⟨w2.heap.size, 0, none⟩ = some (.int .i64 a) := (blk_cell hx7 0).trans rfl
    have q1 : w7.cell? ⟨w2.heap.size, 1, none⟩ = some (.int .i64 b) := (blk_cell hx7 1).trans rfl
    have q2 : w7.cell? ⟨w2.heap.size, 2, none⟩ = some (.int .i64 c) := (blk_cell hx7 2).trans rfl
    have q3 : w7.cell? ⟨w2.heap.size, 3, none⟩ = some (.int .i64 d) := (blk_cell hx7 3).trans rfl
    have r0 : w7.cell? ⟨w5.heap.size, 0, none⟩ = some (.int .i64 a) := (blk_cell hy7 0).trans rfl
    have r1 : w7.cell? ⟨w5.heap.size, 1, none⟩ = some (.int .i64 z) := (blk_cell hy7 1).trans rfl
    have r2 : w7.cell? ⟨w5.heap.size, 2, none⟩ = some (.int .i64 c) := (blk_cell hy7 2).trans rfl
    have r3 : w7.cell? ⟨w5.heap.size, 3, none⟩ = some (.int .i64 d) := (blk_cell hy7 3).trans rfl
    have HS : Aside0 (recTextS a b c d = ⟨(recTextL a b c d).toArray⟩) := ⟨rfl⟩
    generalize hs : recTextS a b c d = s at HS ⊢
    generalize ht : recTextS a z c d = t
    have HS2 := Aside0.mk hs
    have HT2 := Aside0.mk ht
    clear hs ht
    have hsz : s.size ≤ 1000 := by
      rw [HS.out]
      exact text_short HOK.out
    go_wp2
    go_loop [9, 10] (fun n i => ∃ m j : Nat, j ≤ s.size ∧ m ≤ j ∧ n = .int .i64 m ∧ i = .int .i64 j ∧ Aside0 (m = (s.data.toList.take j).count 32)) (fun _ i => s.size - (intOf i).toNat)
    case atStart => exact ⟨0, 0, Nat.zero_le _, Nat.le_refl _, rfl, rfl, ⟨rfl⟩⟩
    case round =>
      obtain ⟨m, j, hj, hm, rfl, rfl, HM⟩ := hrel
      go_wp2
      · go_round
        case rel => exact ⟨m + 1, j + 1, by omega, by omega, by go_num, by go_num, ⟨count_hit (by assumption) (by assumption) HM.out⟩⟩
        case measure => simp [intOf]; omega
      · go_round
        case rel => exact ⟨m, j + 1, by omega, by omega, by go_num, by go_num, ⟨count_miss (by assumption) (by assumption) HM.out⟩⟩
        case measure => simp [intOf]; omega
      · go_ret
        exact ⟨congrArg (fun q => Ending.returned (Value.bool q)) (tellsApart HOK.out HZ.out HS2.out HT2.out), hB7⟩
      · exfalso
        have e : j = s.size := by omega
        have h3 := three HOK.out HS2.out
        have hm3 := HM.out
        rw [e, show s.size = s.data.toList.length by simp, List.take_length, h3] at hm3
        omega
end Go.Proofs.YtoedphbikgoapaaDoor.Ta
namespace Go.Proofs.YtoedphbikgoapaaDoor
namespace LFnRecTwo
open Go.ChangeShapes Go.WideShapes Go.ChangeAt Go.RowKit Go.Proofs.YtoedphbikgoapaaDoor.Ta Go.Proofs.YtoedphbikgoapaaDoorW.PrintWords
open Go.ChangeMaps (open_string shut_string)
set_option linter.unusedVariables false
def IsRow (k : IntKind) (w : World) (a : Option Addr) (len cap : Nat) (zs : List Int) : Prop :=
  (a = none ∧ len = 0 ∧ cap = 0 ∧ zs = []) ∨ ∃ x, a = some x ∧ len ≤ cap ∧ cap ≤ maxLen ∧ zs.length = cap ∧ (∀ i, i < zs.length → w.cell? (x.add i) = some (.int k (zs.getD i 0))) ∧ ∀ n ∈ zs, (Lit.int k n).wf = true
theorem own : ownKnob Tryd.prog.godebug = none := by kernel_rfl
theorem laidOut : laidOutB Tryd.prog = true := by kernel_rfl
theorem pow10 : (Rows.laid_internal_strconv_uint64pow10 : DataW Unit) = Lib.tabData .u64 Lib.pow10Tab := by rfl
theorem pow10_type : (Tryd.prog.globals[2]?).map (·.type) = some 105 := by kernel_rfl
theorem tab_of {W : World} (h : laidMetH Tryd.prog Rows.fnRecTwoRow.laid W) : Lib.TabIs Tryd.prog W "internal/strconv.uint64pow10" .u64 Lib.pow10Tab := by
  rw [MakeChecks.laidMetH_plain _ _ _ (by kernel_rfl)] at h
  have h2 := laidMet.tail (laidMet.tail h)
  rw [pow10] at h2
  exact Lib.tabIs_of_head (by kernel_rfl) pow10_type Tryd.underlying105 Tryd.underlying86 (by kernel_rfl) (by kernel_rfl) h2
theorem door_met (os : Os) : laidMetH Tryd.prog Rows.fnRecTwoRow.laid ((World.doorLaid Tryd.prog 4000 os).forCall (fun _ _ => 0) ⟨#[], #[.slice none 0 0, .slice none 0 0], []⟩).memory :=
  laidMetH_of_parts3 (fuel := 8) (laidMet_of_run' 8 (by kernel_rfl) (by kernel_rfl)) (by kernel_rfl) (by kernel_rfl)
set_option maxRecDepth 100000 in
theorem lifted (os : Os) (started : os.Started) (H : Type) (enc : TypeId × Value → H) :
    ReturnsInHanded {} Tryd.checked os 7 .any (fun w args => (Rows.fnRecTwoSpec.pre enc Tryd.prog Tryd.f7 Rows.fnRecTwoRow.domain false w args ∧ laidMetH Tryd.prog Rows.fnRecTwoRow.laid w) ∧ sizedMet enc Tryd.prog Tryd.f7 (OpenSpec.ofChange Rows.fnRecTwoSpec) false w args)
      (Rows.fnRecTwoSpec.post enc Tryd.prog Tryd.f7 false true false false) := by
  refine returnsInHanded_of_change_and (C := Tryd.checked) (X := fun w _ => laidMetH Tryd.prog Rows.fnRecTwoRow.laid w) (fun _ _ _ hh h => h.of_heap hh) own started (by kernel_rfl) Tryd.func7
    (ChangeSpec.witness_shaped (enc := enc) (C := Tryd.checked) (os := os) (X := fun w _ => laidMetH Tryd.prog Rows.fnRecTwoRow.laid w) false (World.doorLaid Tryd.prog 4000 os) #[.slice none 0 0, .slice none 0 0] 8 rfl (World.shaped_of_RefB (by kernel_rfl) (by kernel_rfl)) (by kernel_rfl) (by kernel_rfl) (by kernel_rfl) (door_met os)) ?_
  intro W base args ds gs before hval0 hW hcnd hsz0 hL _
  have hval : ∀ (j : Nat) t v, Tryd.f7.params[j]? = some t → args[j]? = some v → Value.okWide Tryd.prog W .any base t v := hval0
  have htab := tab_of hL
  have hW' := hW
  obtain ⟨p, q, hA0, hV, rfl, hfz, hnd⟩ := hW
  have hA : DataW.TrodAll enc Tryd.prog W 0 (fun _ => true) true Tryd.f7.params.toList args.toList ds p := hA0
  rw [Tryd.params7] at hA hval
  have hsz : (DataW.weightsEach Tryd.prog (Tryd.f7.params.toList ++ Rows.fnRecTwoSpec.plain.varTypes Tryd.prog) (ds ++ gs)).all (· ≤ reachBytes) = true := hsz0
  rw [Tryd.params7] at hsz
  obtain ⟨v0, vs0, d0, ds0, p0, q0, hargs, rfl, rfl, h0, r0⟩ := trodAll_cons hA
  obtain ⟨v1, vs1, d1, ds1, p1, q1, rfl, rfl, rfl, h1, r1⟩ := trodAll_cons r0
  obtain ⟨rfl, rfl, rfl⟩ := trodAll_nil r1
  obtain rfl : args = #[v0, v1] := by cases args; simp_all
  obtain ⟨rfl, rfl⟩ := trodVars_none hV
  obtain ⟨a0, len0, cap0, rfl⟩ := okWide_slice Tryd.underlying22 (hval 0 22 v0 rfl rfl)
  have k0 := h0
  have lt0 : ∀ x ∈ p0, x.block < W.heap.size := by obtain ⟨m, hm⟩ := k0; exact DataW.trod_lt m _ _ _ hm
  obtain ⟨z0, w0⟩ : ∃ zs, IsRow .u8 W a0 len0 cap0 zs := by
    obtain ⟨fuel, hf⟩ := h0
    rcases open_ints Tryd.underlying22 Tryd.underlying5 (by kernel_rfl) hf with ⟨hcs, _⟩ | ⟨x, l, c, zs, hcs, _, hl, hm, hz, _, hcell, hwz⟩
    · simp [Value.cells] at hcs
      obtain ⟨rfl, rfl, rfl⟩ := hcs
      exact ⟨[], .inl ⟨rfl, rfl, rfl, rfl⟩⟩
    · simp [Value.cells] at hcs
      obtain ⟨rfl, rfl, rfl⟩ := hcs
      exact ⟨zs, .inr ⟨_, rfl, hl, hm, by simpa using hz, hcell, hwz⟩⟩
  obtain ⟨a1, len1, cap1, rfl⟩ := okWide_slice Tryd.underlying22 (hval 1 22 v1 rfl rfl)
  have k1 := h1
  have lt1 : ∀ x ∈ p1, x.block < W.heap.size := by obtain ⟨m, hm⟩ := k1; exact DataW.trod_lt m _ _ _ hm
  obtain ⟨z1, w1⟩ : ∃ zs, IsRow .u8 W a1 len1 cap1 zs := by
    obtain ⟨fuel, hf⟩ := h1
    rcases open_ints Tryd.underlying22 Tryd.underlying5 (by kernel_rfl) hf with ⟨hcs, _⟩ | ⟨x, l, c, zs, hcs, _, hl, hm, hz, _, hcell, hwz⟩
    · simp [Value.cells] at hcs
      obtain ⟨rfl, rfl, rfl⟩ := hcs
      exact ⟨[], .inl ⟨rfl, rfl, rfl, rfl⟩⟩
    · simp [Value.cells] at hcs
      obtain ⟨rfl, rfl, rfl⟩ := hcs
      exact ⟨zs, .inr ⟨_, rfl, hl, hm, by simpa using hz, hcell, hwz⟩⟩
  clear hA0 hval0 hsz0 hsz
  obtain ⟨l0, rfl, hr0, hm0, hw0, hc0⟩ := ReadsInt.ofRowC w0
  obtain ⟨l1, rfl, hr1, hm1, hw1, hc1⟩ := ReadsInt.ofRowC w1
  refine (laws_FnRecTwo.calls _ _ l0 _ _ l1 W (Kd.C_of_reads (d := (0 : Int)) (h1 := fun _ => rfl) hr0) hc0 (Kd.C_of_reads (d := (0 : Int)) (h1 := fun _ => rfl) hr1) hc1 (bytes_of hw0) (bytes_of hw1) htab).mono fun e W' ⟨he, bel⟩ => ?_
  subst he
  exact ⟨_, rfl, _, _, _, [], _, [], hW', trodAll_mk1 (shut_bool Tryd.underlying4 _), (trodAll_cons_mk (Below.trod laidOut (by kernel_rfl) (of_decide_eq_true (by kernel_rfl)) k0 bel lt0) (trodAll_cons_mk (Below.trod laidOut (by kernel_rfl) (of_decide_eq_true (by kernel_rfl)) k1 bel lt1) trodAll_mk0)), rfl, bel.frame _, fun h => by cases h⟩
theorem over : Rows.fnRecTwoRow.holds Tryd.pinned (OpenSpec.ofChange Rows.fnRecTwoSpec) :=
  OpenClaim.holds_of_wide 7 Tryd.f7 rfl rfl rfl rfl rfl rfl rfl ⟨rfl, rfl, rfl, rfl, rfl⟩ rfl rfl rfl rfl rfl (by kernel_rfl) Tryd.func7 (by kernel_rfl)
    (of_decide_eq_true (by kernel_rfl)) (by unfold Func.isWrapper; first | (rw [if_pos (by decide +kernel)]; kernel_rfl) | (rw [if_neg (by decide +kernel)]; exact ⟨rfl, rfl⟩))
    (fun os started H enc _ => lifted os started H enc)
end LFnRecTwo
/-- The given statement: the tied card. -/
theorem fnRecTwo_holds : Rows.FnRecTwoCardSaid :=
  Claim7.holds_tied_plain_at .later [] [.data, .data, .data] true Rows.fnRecTwoCard.stood.harness true
    LFnRecTwo.over (fun _ h => by cases h) (by kernel_rfl) (fun _ h => by cases h) fnRecTwo_row_tie rfl ⟨rfl, rfl⟩ (by kernel_rfl) rfl
    (fun f fn hf hfn => by
      obtain rfl : f = 7 := Option.some.inj ((show Tryd.prog.funcNamed "loop.example/buttery/laws.FnRecTwo" = some 7 by kernel_rfl).symm.trans hf) |>.symm
      obtain rfl : fn = Tryd.f7 := (Option.some.inj (Tryd.func7.symm.trans hfn)).symm
      exact ⟨by kernel_rfl, fun j t ht => by
        rw [Tryd.params7] at ht
        have hm : t ∈ [22, 22] := by simpa using Array.mem_of_getElem? ht
        have hall : ([22, 22].all fun u => !Tryd.prog.wantsStandIn u) = true := by kernel_rfl
        exact (show Tryd.prog.wantsStandIn t = false by simpa using List.all_eq_true.1 hall t hm)⟩)
    (by kernel_rfl)
#print axioms fnRecTwo_holds
end Go.Proofs.YtoedphbikgoapaaDoor
