-- printed by wip/pp/pp.py
import Derived.Test.YtbhchamohldehaaP40
import Derived.Test.YtbhchamohldehaaP41
import Derived.Test.YtbhchamohldehaaP412
import Derived.RangeFuncNested
import Derived.RangeFuncBound
import Derived.RangeFuncCalls
import Derived.RangeFuncLeaves
import Derived.Shelf.Abstract
import Derived.WalkKit
import Derived.OwnWalkIn
import Derived.TacticsInMore
import Derived.LoopNIn
import Derived.LoopIn
import Derived.IntWalk
import Derived.Test.YtbhchamohldehaaP413
namespace Go.Proofs.Ytbhchamohldehaa.P4
set_option maxHeartbeats 8000000
set_option maxRecDepth 100000
open Go.RowKit Go.Proofs.YtbhchamohldehaaW.PrintWords Go.Proofs.YtbhchamohldehaaW.PrintLast Go.Proofs.YtbhchamohldehaaW.PrintMore
attribute [local go_sem] max2_int min2_int max_two min_two max_three min_three max_four min_four
set_option linter.unusedVariables false
set_option linter.unusedSimpArgs false
attribute [local go_sem] Oper.semAt_some
def lastStep (a : Int) (r : S36) (p : S69) : S36 := if p.f0 = 1 ∧ p.f1.f2 = a ∧ p.f1.f1 > r.f1 then p.f1 else r
def lastA (l : List S73) (a : Int) : S36 := (pagesL l).foldl (lastStep a) ⟨0, 0, 0, 0⟩
def impl_FindLast.f (l0 : List (S73)) (a1 : Int) : Option (Int × Int × Int × Int × Bool) := some (if addrB a1 = true ∧ flashOkB l0 = true then ((lastA l0 a1).f0, (lastA l0 a1).f1, (lastA l0 a1).f2, (lastA l0 a1).f3, decide ((lastA l0 a1).f1 > 0)) else (0, 0, 0, 0, false))
def lastOf (a : Int) (pre : List AnyPage) : S36 := pre.foldl (fun m x => lastStep a m x.1.2.2) ⟨0, 0, 0, 0⟩
theorem lastOf_snoc (a : Int) (pre : List AnyPage) (x : AnyPage) : lastOf a (pre ++ [x]) = lastStep a (lastOf a pre) x.1.2.2 := by simp [lastOf]
theorem lastOf_all {a : Int} {ys : List AnyPage} {l0 : List S73} (h : ys.map (·.1) = spotsF 0 l0) : lastOf a ys = lastA l0 a := by
 unfold lastOf lastA pagesL
 rw [← h, List.foldl_map, List.foldl_map]
theorem impl_FindLast.calls (A0 : Option Addr) (c0 : Nat) (l0 : List (S73)) (a1 : Int) (r1 : Int) (r2 : Int) (r3 : Int) (r4 : Int) (r5 : Bool) (w : World) (hr0 : Kd.C k73 w A0 l0.length l0) (hc0 : l0.length ≤ c0) (h : impl_FindLast.f l0 a1 = some (r1, r2, r3, r4, r5)) :
 Calls Try.prog 16 #[.slice A0 l0.length c0, .int .i64 a1] w fun e w' => e = .returned (.tuple #[.agg #[.int .i64 r1, .int .i64 r2, .int .i64 r3, .int .i64 r4], .bool r5]) ∧ Below w.heap.size w w' := by
 have hu := Try.underlying36
 refine (callsIn_wide (n := 3)).1 ?_
 have hak : ∀ w, CallsIn Fence.wide 2 Try.prog 25 #[.int .i64 a1] w fun e w' => e = .returned (.bool (addrB a1)) ∧ w = w' := fun w => callsIn_wide.2 (addrOk_any a1 w)
 unfold impl_FindLast.f at h
 have h := Option.some.inj h
 have b3 := Boxed.new w 3 (.int .i64 a1)
 have b4 : RecBox ((w.alloc (.cells #[.int .i64 a1] 3)).alloc (.cells #[.int .i64 0, .int .i64 0, .int .i64 0, .int .i64 0] 36)) (w.heap.size + 1) ⟨0, 0, 0, 0⟩ := by have := blk_new (w.alloc (.cells #[.int .i64 a1] 3)) (.cells #[.int .i64 0, .int .i64 0, .int .i64 0, .int .i64 0] 36); rw [World.size_alloc] at this; exact this
 replace b3 := b3.alloc (.cells #[.int .i64 0, .int .i64 0, .int .i64 0, .int .i64 0] 36)
 have hbw : Below w.heap.size w ((w.alloc (.cells #[.int .i64 a1] 3)).alloc (.cells #[.int .i64 0, .int .i64 0, .int .i64 0, .int .i64 0] 36)) := ((Below.refl _ w).alloc (Nat.le_refl _) _).alloc (by simp) _
 cases ha : addrB a1 with
 | false =>
  simp only [ha] at hak
  rw [ha, if_neg (by simp)] at h
  cases h
  refine callsIn_of_wp_marks Try.func16 rfl trivial ?_ rfl
  simp only [Try.ntmps16, List.size_toArray, List.length_cons, List.length_nil, Nat.reduceAdd, Nat.reduceSub, Array.replicate_succ, Array.replicate_zero, List.push_toArray, List.append_toArray, List.nil_append, List.cons_append]
  gi_wp2_with (first | (refine ⟨trivial, ?_⟩; gi_at_call 25; refine (hak _).mono ?_; rintro e w1 ⟨rfl, rfl⟩) | (refine And.intro (show Fence.wide.fn 32 from trivial) ?_))
  exact ⟨_, results_ct rfl _ _ (w.heap.size + 1) _ _ _ _ rfl b4 hu rfl (by kernel_rfl), rfl, hbw⟩
 | true =>
  simp only [ha] at hak
  have hok := callsIn_wide (n := 2).2 (impl_FlashOk.calls A0 c0 l0 _ _ (Kd.C_below hr0 hbw) hc0 rfl)
  cases hf : flashOkB l0 with
  | false =>
   rw [hf] at hok
   rw [hf, if_neg (by simp)] at h
   cases h
   refine callsIn_of_wp_marks Try.func16 rfl trivial ?_ rfl
   simp only [Try.ntmps16, List.size_toArray, List.length_cons, List.length_nil, Nat.reduceAdd, Nat.reduceSub, Array.replicate_succ, Array.replicate_zero, List.push_toArray, List.append_toArray, List.nil_append, List.cons_append]
   gi_wp2_with (first | (refine ⟨trivial, ?_⟩; gi_at_call 25; refine (hak _).mono ?_; rintro e w1 ⟨rfl, rfl⟩) | (refine ⟨trivial, ?_⟩; gi_at_call 32; refine hok.mono ?_; rintro e w1 ⟨rfl, hb⟩; have b4' : RecBox w1 (w.heap.size + 1) ⟨0, 0, 0, 0⟩ := blk_below b4 hb; obtain ⟨hq0, hq1, hq2, hq3⟩ := b4'.cells; have hg0 := b4'.frozen 0; have hg1 := b4'.frozen 1; have hg2 := b4'.frozen 2; have hg3 := b4'.frozen 3))
   exact ⟨_, results_ct rfl _ _ (w.heap.size + 1) _ _ _ _ rfl (b4'.put ⟨0, 0, 0, 0⟩) hu rfl (by kernel_rfl), rfl, below_set4 (below_then hbw hbw.size hb) (by omega) ⟨0, 0, 0, 0⟩⟩
  | true =>
   rw [hf] at hok
   rw [ha, hf, if_pos ⟨rfl, rfl⟩] at h
   refine callsIn_of_wp_marks Try.func16 rfl trivial ?_ rfl
   simp only [Try.ntmps16, List.size_toArray, List.length_cons, List.length_nil, Nat.reduceAdd, Nat.reduceSub, Array.replicate_succ, Array.replicate_zero, List.push_toArray, List.append_toArray, List.nil_append, List.cons_append]
   gi_wp2_with (first | (refine ⟨trivial, ?_⟩; gi_at_call 25; refine (hak _).mono ?_; rintro e w1 ⟨rfl, rfl⟩) | (refine ⟨trivial, ?_⟩; gi_at_call 32; refine hok.mono ?_; rintro e w1 ⟨rfl, hb⟩) | (refine ⟨trivial, ?_⟩; gi_at_call 33; refine (eachPage_in Fence.wide 2 trivial rfl _ _ _ _).mono ?_; rintro e w2 ⟨rfl, rfl⟩))
   have hs1 := hb.size
   simp only [World.size_alloc] at hs1
   have b3' : Boxed w1 w.heap.size 3 (.int .i64 a1) := blk_below b3 hb
   have b4' : RecBox w1 (w.heap.size + 1) ⟨0, 0, 0, 0⟩ := blk_below b4 hb
   have hbw1 := below_then hbw hbw.size hb
   have bL : RecBox (w1.alloc (.cells #[.int .i64 0, .int .i64 0, .int .i64 0, .int .i64 0] 36)) w1.heap.size ⟨0, 0, 0, 0⟩ := blk_new w1 _
   have bN := Boxed.new (w1.alloc (.cells #[.int .i64 0, .int .i64 0, .int .i64 0, .int .i64 0] 36)) 23 (.slice A0 l0.length c0)
   rw [World.size_alloc] at bN
   have bL2 : RecBox ((w1.alloc (.cells #[.int .i64 0, .int .i64 0, .int .i64 0, .int .i64 0] 36)).alloc (.cells #[.slice A0 l0.length c0] 23)) w1.heap.size ⟨0, 0, 0, 0⟩ := blk_alloc bL _
   have hB0 : Below w.heap.size w ((w1.alloc (.cells #[.int .i64 0, .int .i64 0, .int .i64 0, .int .i64 0] 36)).alloc (.cells #[.slice A0 l0.length c0] 23)) := (hbw1.alloc hbw1.size _).alloc (hbw1.alloc hbw1.size _).size _
   refine wpIn_rangeFunc_ownH (F := Fence.wide) rfl (by decide) (gf := 54) (lb := #[.pointer (some ⟨w1.heap.size + 1, 0, none⟩)]) rfl trivial (enters_of Try.func54 (by kernel_rfl) rfl)
    (eachPage_stops Fence.wide 2 trivial rfl (by decide) (fun _ => True) (w1.heap.size + 1) A0 c0 l0 w _ hr0 (fun _ _ => trivial) hB0 bN.cell) belowK_t (belowK_b hB0.size) (Below.refl _ _) (fun _ => rfl)
    (fun pre W => RecBox W w1.heap.size (lastOf a1 pre) ∧ Boxed W w.heap.size 3 (.int .i64 a1) ∧ RecBox W (w.heap.size + 1) ⟨0, 0, 0, 0⟩ ∧ Below w.heap.size w W) (fun _ _ _ => False)
    (OwnFrom.and (Own.from (RecBox.own _ _) _) (OwnFrom.and (Own.from (boxed_own _ _ _) _) (OwnFrom.and (Own.from (RecBox.own _ _) _) (ownFrom_below (Nat.le_refl _) hB0.size)))) (fun _ _ _ _ _ hs _ _ => hs)
    ⟨bL2, (b3'.alloc _).alloc _, blk_alloc (blk_alloc b4' _) _, hB0⟩
    (fun x a' W => ∃ Bx, w1.heap.size < Bx ∧ PageBox W Bx x.1.2.2 ∧ a' = { tmps := #[.slice A0 l0.length c0, .int .i64 a1, undef, .pointer (some ⟨w.heap.size, 0, none⟩), .pointer (some ⟨w.heap.size + 1, 0, none⟩), .bool false, .pointer (some ⟨w1.heap.size, 0, none⟩), undef, .pointer (some ⟨Bx, 0, none⟩), .int .i64 a1, .bool true, .bool false, .bool false, .slice A0 l0.length c0, .bool true, .bool false, .bool false, undef, .slice A0 l0.length c0, .func (.func 54) #[] #[.pointer (some ⟨w1.heap.size + 1, 0, none⟩)], .agg #[.int .i64 (x.1.1 : Int), .int .i64 (x.1.2.1 : Int)], .agg #[.int .i64 x.1.2.2.f0, .int .i64 x.1.2.2.f1.f0, .int .i64 x.1.2.2.f1.f1, .int .i64 x.1.2.2.f1.f2, .int .i64 x.1.2.2.f1.f3], undef, undef, undef, undef, undef, undef, undef, undef, undef, undef, undef, undef, undef, undef, undef, undef, undef, undef, undef, undef, undef, undef, undef, undef], defers := [] })
    (fun x a' s X Y row hs hg hr => by obtain ⟨Bx, h1, h2, h3⟩ := hs; exact ⟨Bx, h1, PageBox.own Bx _ _ () X Y row h2 hg hr, h3⟩) ?assign ?body ?done ?stop
   case assign =>
    rintro l pre x W K ⟨hbx, hb3, hb4, hB⟩ hK
    gi_wp2
    exact hK _ _ ((KeepsOthers.alloc _ _).from _) ((Below.refl _ W).alloc hB.size _) ⟨blk_alloc hbx _, hb3.alloc _, blk_alloc hb4 _, hB.alloc hB.size _⟩ ⟨W.heap.size, blk_lt hbx, blk_new W _, rfl⟩
   case body =>
    rintro l pre x a' W hl ⟨r, hr⟩ ⟨hbx, hb3, hb4, hB⟩ ⟨Bx, hBx, bX, rfl⟩ hlt
    obtain ⟨hc0_, hc1_, hc2_, hc3_, hc4_⟩ := bX.cells
    have hcl := hb3.cell
    obtain ⟨hq0, hq1, hq2, hq3⟩ := hbx.cells
    have hg0 := hbx.frozen 0
    have hg1 := hbx.frozen 1
    have hg2 := hbx.frozen 2
    have hg3 := hbx.frozen 3
    have hsn := lastOf_snoc a1 pre x
    unfold lastStep at hsn
    by_cases hs1 : x.1.2.2.f0 = 1
    rotate_left
    · have hs2 : (x.1.2.2.f0 == 1) = false := by simp [hs1]
      rw [if_neg (fun h => hs1 h.1)] at hsn
      gi_wp2
      exact ⟨KeepsFrom.refl _ _, Below.refl _ _, by rw [hsn]; exact hbx, hb3, hb4, hB⟩
    have hs2 : (x.1.2.2.f0 == 1) = true := by simp [hs1]
    by_cases ht1 : x.1.2.2.f1.f2 = a1
    rotate_left
    · have ht2 : (x.1.2.2.f1.f2 == a1) = false := by simp [ht1]
      rw [if_neg (fun h => ht1 h.2.1)] at hsn
      gi_wp2
      exact ⟨KeepsFrom.refl _ _, Below.refl _ _, by rw [hsn]; exact hbx, hb3, hb4, hB⟩
    have ht2 : (x.1.2.2.f1.f2 == a1) = true := by simp [ht1]
    by_cases hv1 : x.1.2.2.f1.f1 > (lastOf a1 pre).f1
    rotate_left
    · have hv2 : decide ((lastOf a1 pre).f1 < x.1.2.2.f1.f1) = false := decide_eq_false hv1
      rw [if_neg (fun h => hv1 h.2.2)] at hsn
      gi_wp2
      exact ⟨KeepsFrom.refl _ _, Below.refl _ _, by rw [hsn]; exact hbx, hb3, hb4, hB⟩
    have hv2 : decide ((lastOf a1 pre).f1 < x.1.2.2.f1.f1) = true := decide_eq_true hv1
    rw [if_pos ⟨hs1, ht1, hv1⟩] at hsn
    obtain ⟨q, hq, hq_⟩ : ∃ q : S36, q = ⟨x.1.2.2.f1.f0, x.1.2.2.f1.f1, a1, x.1.2.2.f1.f3⟩ ∧ x.1.2.2.f1 = q := ⟨_, rfl, by rw [← ht1]⟩
    rw [hq_] at hsn
    have ok1 : RecBox (set4 W w1.heap.size q) w1.heap.size (lastOf a1 (pre ++ [x])) := by rw [hsn]; exact RecBox.put hbx _
    have ok2 : Boxed (set4 W w1.heap.size q) w.heap.size 3 (.int .i64 a1) := Boxed.far4 hb3 (by omega) _
    have ok3 : RecBox (set4 W w1.heap.size q) (w.heap.size + 1) ⟨0, 0, 0, 0⟩ := RecBox.far hb4 (by omega) _
    have ok4 : Below w.heap.size w (set4 W w1.heap.size q) := below_set4 hB (by omega) _
    have ok5 : Below w.heap.size W (set4 W w1.heap.size q) := below_set4 (Below.refl _ W) (by omega) _
    have OK1 := am ok1
    have OK2 := am ok2
    have OK3 := am ok3
    have OK4 := am ok4
    have OK5 := am ok5
    have OK6 := am ((keeps_set4 W w1.heap.size q).from ((w1.alloc (.cells #[.int .i64 0, .int .i64 0, .int .i64 0, .int .i64 0] 36)).alloc (.cells #[.slice A0 l0.length c0] 23)).heap.size)
    subst hq
    clear ok1 ok2 ok3 ok4 ok5 hsn hq_
    gi_wp2
    exact ⟨OK6.out, OK5.out, OK1.out, OK2.out, OK3.out, OK4.out⟩
   case done =>
    rintro D ys W hD hys ⟨hbx, hb3, hb4, hB⟩ hK
    rw [lastOf_all hys] at hbx
    cases h
    obtain ⟨hq0, hq1, hq2, hq3⟩ := hbx.cells
    obtain ⟨ho0, ho1, ho2, ho3⟩ := hb4.cells
    have hg0 := hb4.frozen 0
    have hg1 := hb4.frozen 1
    have hg2 := hb4.frozen 2
    have hg3 := hb4.frozen 3
    gi_wp2
    gi_region
    gi_wp2
    have hbp : RecBox (set4 W (w.heap.size + 1) (lastA l0 a1)).drew (w.heap.size + 1) (lastA l0 a1) := RecBox.put hb4 _
    have hK' : (set4 W (w.heap.size + 1) (lastA l0 a1)).drew.heap[D]? = some (.deferred (some [])) := (keeps_set4 W (w.heap.size + 1) (lastA l0 a1)).same D _ hK rfl
    have hB' : Below w.heap.size w (set4 W (w.heap.size + 1) (lastA l0 a1)).drew := below_drew (below_set4 hB (by omega) _)
    refine ⟨by simp, .inl ⟨_, _, rfl, run_takeDeferred hK', ?_⟩⟩
    have hbq := RecBox.own (β := Unit) _ (fun _ => lastA l0 a1) () _ _ _ hbp (grownBy_putObj' _ D (.deferred none)) (fun r e => by cases e; exact ⟨_, hK', rfl⟩)
    exact ⟨_, results_ct rfl _ _ (w.heap.size + 1) _ _ _ _ rfl hbq hu rfl (by kernel_rfl), rfl, hB'.trans (belowK_b (w := w) (Nat.le_refl _) _ D _ _ (by have := hB0.size; omega) hK' rfl rfl)⟩
   case stop =>
    rintro D c pre W _ _ h _
    exact h.elim
def impl_Rec_isDirty.f (a0_0 : Int) (a0_1 : Int) (a0_2 : Int) (a0_3 : Int) : Option (Bool) := some (a0_0 == 1)
theorem impl_Rec_isDirty.calls (a0_0 : Int) (a0_1 : Int) (a0_2 : Int) (a0_3 : Int) (r : Bool) (w : World) (h : impl_Rec_isDirty.f a0_0 a0_1 a0_2 a0_3 = some r) :
 Calls Try.prog 17 #[.agg #[.int .i64 a0_0, .int .i64 a0_1, .int .i64 a0_2, .int .i64 a0_3]] w fun e w' => e = .returned (.bool r) ∧ Below w.heap.size w w' := by
 have hu36 := Try.underlying36
 have HB := am (Below.refl w.heap.size w)
 have H : (some (a0_0 == 1)) = some r := h
 clear h
 obtain rfl := Option.some.inj H
 go_enter Try.func17, Try.ntmps17
 go_wp2_with (first | (refine bx 1 #[.int .i64 a0_0, .int .i64 a0_1, .int .i64 a0_2, .int .i64 a0_3] 36 rfl ?_; intro gb402 hg w2 hbox hb; have BK402 := am (hbox); have GW402 := am (ge hg (ph HB.out)); have GE402 := GW402; replace HB := am (below_step (ph HB.out) hb); clear hb hbox hg; obtain ⟨hcz3_0, hcz3_1, hcz3_2, hcz3_3⟩ := b4 BK402.out; obtain ⟨hfz3_0, hfz3_1, hfz3_2, hfz3_3⟩ := f4 BK402.out))
 go_ret
 exact (rq (bg1 HB.out GE402.out))
def impl_diskStep.f (a0_0 : Int) (a0_1 : Int) (a0_2 : Int) (a0_3 : Int) : Option (Int × Int × Int × Int × Int × Int × Int × Int) := some (1, a0_2, a0_3, 0, 0, 0, 0, 0)
theorem impl_diskStep.calls (a0_0 : Int) (a0_1 : Int) (a0_2 : Int) (a0_3 : Int) (r1 : Int) (r2 : Int) (r3 : Int) (r4 : Int) (r5 : Int) (r6 : Int) (r7 : Int) (r8 : Int) (w : World) (h : impl_diskStep.f a0_0 a0_1 a0_2 a0_3 = some (r1, r2, r3, r4, r5, r6, r7, r8)) :
 Calls Try.prog 19 #[.agg #[.int .i64 a0_0, .int .i64 a0_1, .int .i64 a0_2, .int .i64 a0_3]] w fun e w' => e = .returned (.agg #[.int .i64 r1, .int .i64 r2, .int .i64 r3, .int .i64 r4, .int .i64 r5, .int .i64 r6, .int .i64 r7, .int .i64 r8]) ∧ Below w.heap.size w w' := by
 have hu36 := Try.underlying36
 have hu38 := Try.underlying38
 have HB := am (Below.refl w.heap.size w)
 have H : (some (1, a0_2, a0_3, 0, 0, 0, 0, 0)) = some (r1, r2, r3, r4, r5, r6, r7, r8) := h
 clear h
 simp only [Option.some.injEq, Prod.mk.injEq] at H
 obtain ⟨rfl, rfl, rfl, rfl, rfl, rfl, rfl, rfl⟩ := H
 go_enter Try.func19, Try.ntmps19
 go_wp2_with (first | (refine bx 1 #[.int .i64 a0_0, .int .i64 a0_1, .int .i64 a0_2, .int .i64 a0_3] 36 rfl ?_; intro gb403 hg w2 hbox hb; have BK403 := am (hbox); have GW403 := am (ge hg (ph HB.out)); have GE403 := GW403; replace HB := am (below_step (ph HB.out) hb); clear hb hbox hg) | (refine bx 2 #[.int .i64 0, .int .i64 0, .int .i64 0, .int .i64 0, .int .i64 0, .int .i64 0, .int .i64 0, .int .i64 0] 38 rfl ?_; intro gb404 hg w3 hbox hb; have BK404 := am (hbox); have GW404 := am (ge hg (bg1 HB.out GE403.out)); have GE404 := GW404; replace HB := am (below_step (bg1 HB.out GE403.out) hb); have NB403_404 := am (nb hg (pb BK403.out)); have NB404_403 := am (Ne.symm NB403_404.out); replace BK403 := am (blk_below (pb BK403.out) hb); clear hb hbox hg; have hnb4 := NB403_404.out; have hnc4 := NB404_403.out; obtain ⟨hcz5_0, hcz5_1, hcz5_2, hcz5_3⟩ := b4 BK403.out; obtain ⟨hfz5_0, hfz5_1, hfz5_2, hfz5_3⟩ := f4 BK403.out; obtain ⟨hcz6_0, hcz6_1, hcz6_2, hcz6_3, hcz6_4, hcz6_5, hcz6_6, hcz6_7⟩ := b8 BK404.out; obtain ⟨hfz6_0, hfz6_1, hfz6_2, hfz6_3, hfz6_4, hfz6_5, hfz6_6, hfz6_7⟩ := f8 BK404.out))
 refine bodyPost_ret (results_cell_row rfl _ _ gb404 38 #[.int .i64 1, .int .i64 a0_2, .int .i64 a0_3, .int .i64 0, .int .i64 0, .int .i64 0, .int .i64 0, .int .i64 0] (0, 0) _ rfl (by (with_reducible repeat (first | refine blk_drewN ?_ _ | refine blk_drew ?_ | refine blk_alloc ?_ _)); refine blk_put (cs := #[.int .i64 1, .int .i64 a0_2, .int .i64 a0_3, .int .i64 0, .int .i64 0, .int .i64 0, .int .i64 0, .int .i64 0]) ?_ 7 _ rfl; (with_reducible repeat (first | refine blk_drewN ?_ _ | refine blk_drew ?_ | refine blk_alloc ?_ _)); refine blk_put (cs := #[.int .i64 1, .int .i64 a0_2, .int .i64 a0_3, .int .i64 0, .int .i64 0, .int .i64 0, .int .i64 0, .int .i64 0]) ?_ 6 _ rfl; (with_reducible repeat (first | refine blk_drewN ?_ _ | refine blk_drew ?_ | refine blk_alloc ?_ _)); refine blk_put (cs := #[.int .i64 1, .int .i64 a0_2, .int .i64 a0_3, .int .i64 0, .int .i64 0, .int .i64 0, .int .i64 0, .int .i64 0]) ?_ 5 _ rfl; (with_reducible repeat (first | refine blk_drewN ?_ _ | refine blk_drew ?_ | refine blk_alloc ?_ _)); refine blk_put (cs := #[.int .i64 1, .int .i64 a0_2, .int .i64 a0_3, .int .i64 0, .int .i64 0, .int .i64 0, .int .i64 0, .int .i64 0]) ?_ 4 _ rfl; (with_reducible repeat (first | refine blk_drewN ?_ _ | refine blk_drew ?_ | refine blk_alloc ?_ _)); refine blk_put (cs := #[.int .i64 1, .int .i64 a0_2, .int .i64 a0_3, .int .i64 0, .int .i64 0, .int .i64 0, .int .i64 0, .int .i64 0]) ?_ 3 _ rfl; (with_reducible repeat (first | refine blk_drewN ?_ _ | refine blk_drew ?_ | refine blk_alloc ?_ _)); refine blk_put (cs := #[.int .i64 1, .int .i64 a0_2, .int .i64 0, .int .i64 0, .int .i64 0, .int .i64 0, .int .i64 0, .int .i64 0]) ?_ 2 _ rfl; (with_reducible repeat (first | refine blk_drewN ?_ _ | refine blk_drew ?_ | refine blk_alloc ?_ _)); refine blk_put (cs := #[.int .i64 1, .int .i64 0, .int .i64 0, .int .i64 0, .int .i64 0, .int .i64 0, .int .i64 0, .int .i64 0]) ?_ 1 _ rfl; (with_reducible repeat (first | refine blk_drewN ?_ _ | refine blk_drew ?_ | refine blk_alloc ?_ _)); refine blk_put (cs := #[.int .i64 0, .int .i64 0, .int .i64 0, .int .i64 0, .int .i64 0, .int .i64 0, .int .i64 0, .int .i64 0]) ?_ 0 _ rfl; (with_reducible repeat (first | refine blk_drewN ?_ _ | refine blk_drew ?_ | refine blk_alloc ?_ _)); exact BK404.out) Try.underlying38 rfl (by kernel_rfl)) rfl ?_
 exact (rq (bg2 HB.out GE403.out GE404.out))
attribute [local go_sem] Oper.semAt_some
def stepNext (m : Int) (p : S69) : Int := if p.f0 = 1 then mx m p.f1.f1 else m
def impl_FindNext.f (l0 : List (S73)) : Option (Int) := some (if flashOkB l0 = true then wrap64 ((pagesL l0).foldl stepNext 0 + 1) else 0)
def nextOf (pre : List AnyPage) : Int := pre.foldl (fun m x => stepNext m x.1.2.2) 0
theorem nextOf_snoc (pre : List AnyPage) (x : AnyPage) : nextOf (pre ++ [x]) = stepNext (nextOf pre) x.1.2.2 := by simp [nextOf]
theorem nextOf_all {ys : List AnyPage} {l0 : List S73} (h : ys.map (·.1) = spotsF 0 l0) : nextOf ys = (pagesL l0).foldl stepNext 0 := by
 unfold nextOf pagesL
 rw [← h, List.foldl_map, List.foldl_map]
theorem impl_FindNext.calls (A0 : Option Addr) (c0 : Nat) (l0 : List (S73)) (r : Int) (w : World) (hr0 : Kd.C k73 w A0 l0.length l0) (hc0 : l0.length ≤ c0) (h : impl_FindNext.f l0 = some r) :
 Calls Try.prog 34 #[.slice A0 l0.length c0] w fun e w' => e = .returned (.int .i64 r) ∧ Below w.heap.size w w' := by
 obtain rfl := Option.some.inj h
 clear h
 refine (callsIn_wide (n := 3)).1 ?_
 have hok := callsIn_wide (n := 2).2 (impl_FlashOk.calls A0 c0 l0 _ w hr0 hc0 rfl)
 cases hf : flashOkB l0 with
 | false =>
  refine callsIn_of_wp_marks Try.func34 rfl trivial ?_ rfl
  simp only [Try.ntmps34, List.size_toArray, List.length_cons, List.length_nil, Nat.reduceAdd, Nat.reduceSub, Array.replicate_succ, Array.replicate_zero, List.push_toArray, List.append_toArray, List.nil_append, List.cons_append]
  rw [hf] at hok
  gi_wp2_with (first | (refine ⟨trivial, ?_⟩; gi_at_call 32; refine hok.mono ?_; rintro e w1 ⟨rfl, hb⟩))
  exact ⟨_, results_tmp rfl _ _ _, rfl, hb⟩
 | true =>
  refine callsIn_of_wp_marks Try.func34 rfl trivial ?_ rfl
  simp only [Try.ntmps34, List.size_toArray, List.length_cons, List.length_nil, Nat.reduceAdd, Nat.reduceSub, Array.replicate_succ, Array.replicate_zero, List.push_toArray, List.append_toArray, List.nil_append, List.cons_append]
  rw [hf] at hok
  gi_wp2_with (first | (refine ⟨trivial, ?_⟩; gi_at_call 32; refine hok.mono ?_; rintro e w1 ⟨rfl, hb⟩) | (refine ⟨trivial, ?_⟩; gi_at_call 33; refine (eachPage_in Fence.wide 2 trivial rfl _ _ _ _).mono ?_; rintro e w2 ⟨rfl, rfl⟩))
  have bL := Boxed.new w1 3 (.int .i64 0)
  have bN := Boxed.new (w1.alloc (.cells #[.int .i64 0] 3)) 23 (.slice A0 l0.length c0)
  rw [World.size_alloc] at bN
  have bL2 := bL.alloc (.cells #[.slice A0 l0.length c0] 23)
  have hB0 : Below w.heap.size w ((w1.alloc (.cells #[.int .i64 0] 3)).alloc (.cells #[.slice A0 l0.length c0] 23)) := (hb.alloc hb.size _).alloc (hb.alloc hb.size _).size _
  refine wpIn_rangeFunc_ownH (F := Fence.wide) rfl (by decide) (gf := 54) (lb := #[.pointer (some ⟨w1.heap.size + 1, 0, none⟩)]) rfl trivial (enters_of Try.func54 (by kernel_rfl) rfl)
   (eachPage_stops Fence.wide 2 trivial rfl (by decide) (fun _ => True) (w1.heap.size + 1) A0 c0 l0 w _ hr0 (fun _ _ => trivial) hB0 bN.cell) belowK_t (belowK_b hB0.size) (Below.refl _ _) (fun _ => rfl)
   (fun pre W => Boxed W w1.heap.size 3 (.int .i64 (nextOf pre)) ∧ Below w.heap.size w W) (fun _ _ _ => False)
   (OwnFrom.and (Own.from (boxed_own _ _ _) _) (ownFrom_below (Nat.le_refl _) hB0.size)) (fun _ _ _ _ _ hs _ _ => hs) ⟨bL2, hB0⟩
   (fun x a' W => ∃ Bx, w1.heap.size < Bx ∧ PageBox W Bx x.1.2.2 ∧ a' = { tmps := #[.slice A0 l0.length c0, undef, .int .i64 0, .pointer (some ⟨w1.heap.size, 0, none⟩), undef, .pointer (some ⟨Bx, 0, none⟩), .slice A0 l0.length c0, .bool true, .bool false, .slice A0 l0.length c0, .func (.func 54) #[] #[.pointer (some ⟨w1.heap.size + 1, 0, none⟩)], .agg #[.int .i64 (x.1.1 : Int), .int .i64 (x.1.2.1 : Int)], .agg #[.int .i64 x.1.2.2.f0, .int .i64 x.1.2.2.f1.f0, .int .i64 x.1.2.2.f1.f1, .int .i64 x.1.2.2.f1.f2, .int .i64 x.1.2.2.f1.f3], undef, undef, undef, undef, undef, undef, undef, undef, undef, undef], defers := [] })
   (fun x a' s X Y row hs hg hr => by obtain ⟨Bx, h1, h2, h3⟩ := hs; exact ⟨Bx, h1, PageBox.own Bx _ _ () X Y row h2 hg hr, h3⟩) ?assign ?body ?done ?stop
  case assign =>
   rintro l pre x W K ⟨hbx, hB⟩ hK
   gi_wp2
   exact hK _ _ ((KeepsOthers.alloc _ _).from _) ((Below.refl _ W).alloc hB.size _) ⟨hbx.alloc _, hB.alloc hB.size _⟩ ⟨W.heap.size, hbx.lt, blk_new W _, rfl⟩
  case body =>
   rintro l pre x a' W hl ⟨r, hr⟩ ⟨hbx, hB⟩ ⟨Bx, hBx, bX, rfl⟩ hlt
   obtain ⟨hc0_, hc1_, hc2_, hc3_, hc4_⟩ := bX.cells
   have hcl := hbx.cell
   have hfl := hbx.frozen
   have hsn := nextOf_snoc pre x
   by_cases hs1 : x.1.2.2.f0 = 1
   rotate_left
   · have hs2 : (x.1.2.2.f0 == 1) = false := by simp [hs1]
     rw [stepNext, if_neg hs1] at hsn
     gi_wp2
     exact ⟨KeepsFrom.refl _ _, Below.refl _ _, by rw [hsn]; exact hbx, hB⟩
   have hs2 : (x.1.2.2.f0 == 1) = true := by simp [hs1]
   rw [stepNext, if_pos hs1] at hsn
   gi_wp2
   all_goals
    refine ⟨(KeepsOthers.setCell _ _ _).from _, (Below.refl _ W).setCell (p := ⟨w1.heap.size, 0, none⟩) hb.size _, ?_, hB.setCell (p := ⟨w1.heap.size, 0, none⟩) hb.size _⟩
    rw [hsn]
    unfold mx
    first
     | (rw [if_pos (by omega)]; exact hbx.set _)
     | (rw [if_neg (by omega)]; exact hbx.set _)
  case done =>
   rintro D ys W hD hys ⟨hbx, hB⟩ hK
   have hcl := hbx.cell
   gi_wp2
   refine ⟨by simp, .inl ⟨_, _, rfl, run_takeDeferred hK, ?_⟩⟩
   exact ⟨_, results_tmp rfl _ _ _, by rw [← nextOf_all hys]; rfl, hB.trans (belowK_b (w := w) (Nat.le_refl _) W D _ _ (by have := hB0.size; omega) hK rfl rfl)⟩
  case stop =>
   rintro D c pre W _ _ h _
   exact h.elim
mutual
def impl_FindOpen.l0 : Nat → List (S73) → List (S73) → Int → Int → Option (Int × Bool)
 | 0, _, _, _, _ => none
 | k + 1, x0, x13, x14, x15 => if x15 < x14 then (if 0 ≤ x15 then (if x15 < (x13.length : Int) then ((impl_partlyUsed.f k ((rd_T73 x13 x15).f0) ((rd_T73 x13 x15).f1)).bind fun t408 => (if t408 = true then (some (x15, true)) else (impl_FindOpen.l0 k x0 x13 x14 (wrap64 (x15 + 1))))) else (none)) else (none)) else (impl_FindOpen.l1 k x0 0 false x0 (x0.length : Int) 0)
def impl_FindOpen.l1 : Nat → List (S73) → Int → Bool → List (S73) → Int → Int → Option (Int × Bool)
 | 0, _, _, _, _, _, _ => none
 | k + 1, x0, x6, x7, x24, x25, x26 => if x26 < x25 then (if 0 ≤ x26 then (if x26 < (x24.length : Int) then ((impl_freePages.f k ((rd_T73 x24 x26).f0) ((rd_T73 x24 x26).f1)).bind fun t411 => (if t411 = 4 then (if x7 = true then (if 0 ≤ x6 then (if x6 < (x0.length : Int) then (if ((rd_T73 x24 x26).f1) < ((rd_T73 x0 x6).f1) then (impl_FindOpen.l1 k x0 x26 true x24 x25 (wrap64 (x26 + 1))) else (impl_FindOpen.l1 k x0 x6 x7 x24 x25 (wrap64 (x26 + 1)))) else (none)) else (none)) else (impl_FindOpen.l1 k x0 x26 true x24 x25 (wrap64 (x26 + 1)))) else (impl_FindOpen.l1 k x0 x6 x7 x24 x25 (wrap64 (x26 + 1))))) else (none)) else (none)) else (some (x6, x7))
end
def impl_FindOpen.f (k : Nat) (l0 : List (S73)) : Option (Int × Bool) := (impl_FlashOk.f l0).bind fun t405 => (if t405 = true then (impl_FindOpen.l0 k l0 l0 (l0.length : Int) 0) else (some (0, false)))
def impl_FindOpen.T13 : Bool × List (List Nat × List Nat) := (true, [([], []), ([0], [0]), ([1], [1]), ([2, 1], [2]), ([3], [3]), ([4, 3], [3, 4]), ([5, 3, 3], [3, 5]), ([6], [6]), ([7, 6], [6, 7]), ([6], [6]), ([6], [6]), ([9, 10, 6], [6, 9, 10]), ([11, 6], [6, 11]), ([12, 6], [6, 12]), ([8, 13, 6], [6, 8, 13]), ([6, 14, 3], [3, 6, 14]), ([3, 15], [3, 15])])
def impl_FindOpen.B13 : List Nat := [0, 1, 3, 7, 15, 31, 63, 127, 255, 127, 127, 1663, 3711, 7807, 16383, 32767, 65535]
theorem impl_FindOpen.tab13 : rtab .any (opsOf Try.f36 13) = impl_FindOpen.T13 := by kernel_rfl
theorem impl_FindOpen.bits13 : waitsOk impl_FindOpen.T13.2 impl_FindOpen.B13 = true := by kernel_rfl
theorem impl_FindOpen.calls (k : Nat) (A0 : Option Addr) (c0 : Nat) (l0 : List (S73)) (r1 : Int) (r2 : Bool) (w : World) (hr0 : Kd.C k73 w A0 l0.length l0) (hc0 : l0.length ≤ c0) (h : impl_FindOpen.f k l0 = some (r1, r2)) :
 Calls Try.prog 36 #[.slice A0 l0.length c0] w fun e w' => e = .returned (.tuple #[.int .i64 r1, .bool r2]) ∧ Below w.heap.size w w' := by
 have hu73 := Try.underlying73
 have HR0 := am hr0
 have HC0 := am hc0
 clear hr0 hc0
 have HB := am (Below.refl w.heap.size w)
 have H : ((impl_FlashOk.f l0).bind fun t405 => (if t405 = true then (impl_FindOpen.l0 k l0 l0 (l0.length : Int) 0) else (some (0, false)))) = some (r1, r2) := h
 clear h
 replace H := Option.bind_eq_some_iff.mp H
 obtain ⟨t405, A20, H⟩ := H
 have A2 := am A20
 clear A20
 by_cases c3 : t405 = true
 rotate_left
 · replace c3 := Bool.eq_false_iff.mpr c3
   subst c3
   rw [if_neg (show ¬ (false = true) by decide)] at H
   simp only [Option.some.injEq, Prod.mk.injEq] at H
   obtain ⟨rfl, rfl⟩ := H
   go_enter Try.func36, Try.ntmps36
   go_wp2_with (first | (refine gl 11 Try.func32 #[.slice A0 l0.length c0] rfl ?_; (with_reducible refine (impl_FlashOk.calls _ _ l0 false _ ?side1 ?side2 A2.out).mono ?_); (case side1 => exact pc HR0.out); (case side2 => exact HC0.out); rintro e w45 ⟨rfl, hb⟩; refine ⟨_, rfl, ?_⟩; replace HB := am (below_step (ph HB.out) hb); clear hb))
   go_ret2
   exact (rq (ph HB.out))
 subst c3
 rw [if_pos rfl] at H
 have H' := am H
 clear H
 go_enter Try.func36, Try.ntmps36
 go_wp2_with (first | (refine gl 11 Try.func32 #[.slice A0 l0.length c0] rfl ?_; (with_reducible refine (impl_FlashOk.calls _ _ l0 true _ ?side1 ?side2 A2.out).mono ?_); (case side1 => exact pc HR0.out); (case side2 => exact HC0.out); rintro e w4 ⟨rfl, hb⟩; refine ⟨_, rfl, ?_⟩; replace HB := am (below_step (ph HB.out) hb); clear hb))
 go_loopg [15] k (fun kq v15 w' => ∃ (x15_1 : Int), v15 = .int .i64 x15_1 ∧ Aside0 (impl_FindOpen.l0 kq l0 l0 (l0.length : Int) x15_1 = some (r1, r2)) ∧ Aside0 (kq ≤ k) ∧ Aside0 (Below w.heap.size w w'))
 case atStart => exact ⟨(0), rf, H', ⟨Nat.le_refl _⟩, ⟨ph HB.out⟩⟩
 case round =>
  clear H'
  obtain ⟨x15_1, rfl, HA, HK1, HB⟩ := hrel
  cases gk with
  | zero => exact absurd HA.out (by simp [impl_FindOpen.l0])
  | succ k1 =>
   have H := HA.out
   clear HA
   simp only [impl_FindOpen.l0] at H
   by_cases c5 : x15_1 < (l0.length : Int)
   · rw [if_pos c5] at H
     have c5b0 := decide_eq_true c5
     clear c5
     obtain ⟨c6b0, H⟩ := ifd H
     obtain ⟨c7b0, H⟩ := ifd H
     replace H := Option.bind_eq_some_iff.mp H
     obtain ⟨t408, A80, H⟩ := H
     have A8 := am A80
     clear A80
     by_cases c9 : t408 = true
     · subst c9
       rw [if_pos rfl] at H
       simp only [Option.some.injEq, Prod.mk.injEq] at H
       obtain ⟨rfl, rfl⟩ := H
       have p406 : 0 ≤ (x15_1 : Int) := ofb
       have q406 : x15_1 < (l0.length : Int) := ofb
       obtain ⟨ad406, A406_0, c406_0, e406, hx406_0, hx406_1, hl406_0, hi406_0⟩ := at_T73 HR0.out x15_1 p406 q406
       cases e406
       replace hx406_0 := up HB.out hx406_0
       replace hx406_1 := up HB.out hx406_1
       have HR406_0 := am hi406_0
       have HC406_0 := am hl406_0
       clear hi406_0 hl406_0
       replace p406 := eq_true p406
       replace q406 := eq_true q406
       go_wp2_with (first | (refine bx 5 #[.slice none 0 0, .int .i64 0] 73 rfl ?_; intro gb407 hg w10 hbox hb; have BK407 := am (hbox); have GW407 := am (ge hg (ph HB.out)); have GE407 := GW407; replace HB := am (below_step (ph HB.out) hb); clear hb hbox hg; obtain ⟨hcz11_0, hcz11_1⟩ := b2 BK407.out; obtain ⟨hfz11_0, hfz11_1⟩ := f2 BK407.out) | (refine gl 21 Try.func51 #[.agg #[.slice A406_0 ((rd_T73 l0 x15_1).f0).length c406_0, .int .i64 ((rd_T73 l0 x15_1).f1)]] rfl ?_; (with_reducible refine (impl_partlyUsed.calls k1 _ _ ((rd_T73 l0 x15_1).f0) ((rd_T73 l0 x15_1).f1) true _ ?side1 ?side2 A8.out).mono ?_); (case side1 => exact Kd.C_below HR406_0.out (bg1 HB.out GE407.out)); (case side2 => exact HC406_0.out); rintro e w12 ⟨rfl, hb⟩; refine ⟨_, rfl, ?_⟩; replace BK407 := am (blk_below (bp2 (pb BK407.out)) hb); replace HB := am (below_step (bg1 HB.out GE407.out) hb); clear hb))
       go_ret2
       exact (rq (bg1 HB.out GE407.out))
     replace c9 := Bool.eq_false_iff.mpr c9
     subst c9
     rw [if_neg (show ¬ (false = true) by decide)] at H
     have H' := am H
     clear H
     have p406 : 0 ≤ (x15_1 : Int) := ofb
     have q406 : x15_1 < (l0.length : Int) := ofb
     obtain ⟨ad406, A406_0, c406_0, e406, hx406_0, hx406_1, hl406_0, hi406_0⟩ := at_T73 HR0.out x15_1 p406 q406
     cases e406
     replace hx406_0 := up HB.out hx406_0
     replace hx406_1 := up HB.out hx406_1
     have HR406_0 := am hi406_0
     have HC406_0 := am hl406_0
     clear hi406_0 hl406_0
     replace p406 := eq_true p406
     replace q406 := eq_true q406
     go_wp2_with (first | (refine bx 5 #[.slice none 0 0, .int .i64 0] 73 rfl ?_; intro gb407 hg w13 hbox hb; have BK407 := am (hbox); have GW407 := am (ge hg (ph HB.out)); have GE407 := GW407; replace HB := am (below_step (ph HB.out) hb); clear hb hbox hg; obtain ⟨hcz14_0, hcz14_1⟩ := b2 BK407.out; obtain ⟨hfz14_0, hfz14_1⟩ := f2 BK407.out) | (refine gl 21 Try.func51 #[.agg #[.slice A406_0 ((rd_T73 l0 x15_1).f0).length c406_0, .int .i64 ((rd_T73 l0 x15_1).f1)]] rfl ?_; (with_reducible refine (impl_partlyUsed.calls k1 _ _ ((rd_T73 l0 x15_1).f0) ((rd_T73 l0 x15_1).f1) false _ ?side1 ?side2 A8.out).mono ?_); (case side1 => exact Kd.C_below HR406_0.out (bg1 HB.out GE407.out)); (case side2 => exact HC406_0.out); rintro e w15 ⟨rfl, hb⟩; refine ⟨_, rfl, ?_⟩; replace BK407 := am (blk_below (bp2 (pb BK407.out)) hb); replace HB := am (below_step (bg1 HB.out GE407.out) hb); clear hb))
     go_roundg k1
     case measure => have := HK1.out; omega
     case rel => exact ⟨(wrap64 (x15_1 + 1)), rf, H', ⟨by have := HK1.out; omega⟩, ⟨bg1 HB.out GE407.out⟩⟩
   rw [if_neg c5] at H
   have c5b0 := decide_eq_false c5
   clear c5
   have H' := am H
   clear H
   go_wp2
   go_loopg [6, 7, 26] k1 (fun kq v6 v7 v26 w' => ∃ (x6_2 : Int) (x7_2 : Bool) (x26_2 : Int), v6 = .int .i64 x6_2 ∧ v7 = .bool x7_2 ∧ v26 = .int .i64 x26_2 ∧ Aside0 (impl_FindOpen.l1 kq l0 x6_2 x7_2 l0 (l0.length : Int) x26_2 = some (r1, r2)) ∧ Aside0 (kq ≤ k1) ∧ Aside0 (Below w.heap.size w w'))
   case atStart => exact ⟨(0), (false), (0), rf, rf, rf, H', ⟨Nat.le_refl _⟩, ⟨ph HB.out⟩⟩
   case round =>
    clear H'
    obtain ⟨x6_2, x7_2, x26_2, rfl, rfl, rfl, HA, HK2, HB⟩ := hrel
    cases gk with
    | zero => exact absurd HA.out (by simp [impl_FindOpen.l1])
    | succ k2 =>
     have H := HA.out
     clear HA
     simp only [impl_FindOpen.l1] at H
     by_cases c16 : x26_2 < (l0.length : Int)
     rotate_left
     · rw [if_neg c16] at H
       have c16b0 := decide_eq_false c16
       clear c16
       simp only [Option.some.injEq, Prod.mk.injEq] at H
       obtain ⟨rfl, rfl⟩ := H
       go_wp2
       go_ret2
       exact (rq (ph HB.out))
     rw [if_pos c16] at H
     have c16b0 := decide_eq_true c16
     clear c16
     obtain ⟨c17b0, H⟩ := ifd H
     obtain ⟨c18b0, H⟩ := ifd H
     replace H := Option.bind_eq_some_iff.mp H
     obtain ⟨t411, A190, H⟩ := H
     have A19 := am A190
     clear A190
     by_cases c20 : t411 = 4
     rotate_left
     · rw [if_neg c20] at H
       have c20b0 : (t411 == 4) = false := beq_eq_false_iff_ne.mpr c20
       have c20b1 : (t411 != 4) = true := bne_iff_ne.mpr c20
       have H' := am H
       clear H
       have p409 : 0 ≤ (x26_2 : Int) := ofb
       have q409 : x26_2 < (l0.length : Int) := ofb
       obtain ⟨ad409, A409_0, c409_0, e409, hx409_0, hx409_1, hl409_0, hi409_0⟩ := at_T73 HR0.out x26_2 p409 q409
       cases e409
       replace hx409_0 := up HB.out hx409_0
       replace hx409_1 := up HB.out hx409_1
       have HR409_0 := am hi409_0
       have HC409_0 := am hl409_0
       clear hi409_0 hl409_0
       replace p409 := eq_true p409
       replace q409 := eq_true q409
       try go_wp2_with (first | (refine bx 9 #[.slice none 0 0, .int .i64 0] 73 rfl ?_; intro gb410 hg w40 hbox hb; have BK410 := am (hbox); have GW410 := am (ge hg (ph HB.out)); have GE410 := GW410; replace HB := am (below_step (ph HB.out) hb); clear hb hbox hg; obtain ⟨hcz41_0, hcz41_1⟩ := b2 BK410.out; obtain ⟨hfz41_0, hfz41_1⟩ := f2 BK410.out))
       have n0_ : Aside0 (((w40.setCell ⟨gb410, 0, none⟩ (.slice A409_0 ((rd_T73 l0 x26_2).f0).length c409_0)).setCell ⟨gb410, 1, none⟩ (.int .i64 ((rd_T73 l0 x26_2).f1))).heap[gb410]? = some (.cells #[.slice A409_0 ((rd_T73 l0 x26_2).f0).length c409_0, .int .i64 ((rd_T73 l0 x26_2).f1)] 73 (0, 0))) := ⟨bp2 (pb BK410.out)⟩
       have n1_ : Aside0 (Below w.heap.size w ((w40.setCell ⟨gb410, 0, none⟩ (.slice A409_0 ((rd_T73 l0 x26_2).f0).length c409_0)).setCell ⟨gb410, 1, none⟩ (.int .i64 ((rd_T73 l0 x26_2).f1)))) := ⟨bg1 HB.out GE410.out⟩
       (try clear BK410)
       (try clear HB)
       generalize ((w40.setCell ⟨gb410, 0, none⟩ (.slice A409_0 ((rd_T73 l0 x26_2).f0).length c409_0)).setCell ⟨gb410, 1, none⟩ (.int .i64 ((rd_T73 l0 x26_2).f1))) = w42 at n0_ n1_ ⊢
       have BK410 := n0_
       have HB := n1_
       clear n0_ n1_
       replace BK410 := am (blk_drew BK410.out)
       replace HB := am (below_drew1 HB.out)
       refine start_ (n := 17) (S := fun w' => w'.cell? ⟨gb410, 0, none⟩ = some (.slice A409_0 ((rd_T73 l0 x26_2).f0).length c409_0) ∧ w'.cell? ⟨gb410, 1, none⟩ = some (.int .i64 ((rd_T73 l0 x26_2).f1))) (ds := []) (bt 17 0) (by kernel_rfl) rfl rfl ⟨(blk_cell BK410.out 0).trans rfl, (blk_cell BK410.out 1).trans rfl⟩ (fun hHeld => ?_); refine with_tabW impl_FindOpen.tab13 impl_FindOpen.bits13 (fun HT_ HW_ => ?_)
       generalize w42.drew = w43 at BK410 HB hHeld ⊢
       refine qm 0 31 (bt 17 1) rfl rfl HT_.out HW_.out hHeld ?_
       refine qo 1 (some 32) (bt 17 3) rfl rfl HT_.out fun K hK => ?_
       refine qg Try.func56 #[.agg #[.slice A409_0 ((rd_T73 l0 x26_2).f0).length c409_0, .int .i64 ((rd_T73 l0 x26_2).f1)]] rfl rfl ?_
       with_reducible refine (impl_freePages.calls k2 _ _ ((rd_T73 l0 x26_2).f0) ((rd_T73 l0 x26_2).f1) t411 _ ?side1 ?side2 A19.out).mono ?_
       (case side1 => exact pc (Kd.C_below HR409_0.out HB.out))
       (case side2 => exact HC409_0.out)
       rintro e w44 ⟨rfl, hb⟩
       refine ⟨_, rfl, ?_⟩
       replace BK410 := am (blk_below (pb BK410.out) hb)
       replace HB := am (below_step (bg1 HB.out GE410.out) hb)
       clear hb
       refine hK.out _ _ ⟨(blk_cell BK410.out 0).trans rfl, (blk_cell BK410.out 1).trans rfl⟩ (fun hHeld => ?_)
       clear hK K
       refine qn (some 32) ?_
       refine qj 2 33 (bt 17 7) rfl rfl HT_.out ?_
       refine qj 3 34 (bt 17 15) rfl rfl HT_.out ?_
       refine qv 4 35 (bt 17 31) rfl rfl HT_.out ?_
       refine qv 5 36 (bt 17 63) rfl rfl HT_.out ?_
       refine qv 6 37 (bt 17 127) rfl rfl HT_.out ?_
       refine qv 7 38 (bt 17 255) rfl rfl HT_.out ?_
       refine qv 8 39 (bt 17 511) rfl rfl HT_.out ?_
       refine qv 9 40 (bt 17 1023) rfl rfl HT_.out ?_
       refine qv 10 41 (bt 17 2047) rfl rfl HT_.out ?_
       refine qv 11 42 (bt 17 4095) rfl rfl HT_.out ?_
       refine qv 12 43 (bt 17 8191) rfl rfl HT_.out ?_
       refine qv 13 44 (bt 17 16383) rfl rfl HT_.out ?_
       refine qv 14 45 (bt 17 32767) rfl rfl HT_.out ?_
       refine qv 15 46 (bt 17 65535) rfl rfl HT_.out ?_
       refine qj 16 47 (bt 17 131071) rfl rfl HT_.out ?_
       refine done_ (done_of HT_.out (by kernel_rfl)) ?_
       try go_wp2
       go_roundg k2
       case measure => have := HK1.out; have := HK2.out; omega
       case rel => exact ⟨(x6_2), (x7_2), (wrap64 (x26_2 + 1)), rf, rf, rf, H', ⟨by have := HK1.out; have := HK2.out; omega⟩, ⟨bg1 HB.out GE410.out⟩⟩
     rw [if_pos c20] at H
     have c20b0 : (t411 == 4) = true := beq_iff_eq.mpr c20
     have c20b1 : (t411 != 4) = false := bne_eq_false_iff_eq.mpr c20
     clear c20
     by_cases c21 : x7_2 = true
     rotate_left
     · replace c21 := Bool.eq_false_iff.mpr c21
       subst c21
       rw [if_neg (show ¬ (false = true) by decide)] at H
       have H' := am H
       clear H
       have p409 : 0 ≤ (x26_2 : Int) := ofb
       have q409 : x26_2 < (l0.length : Int) := ofb
       obtain ⟨ad409, A409_0, c409_0, e409, hx409_0, hx409_1, hl409_0, hi409_0⟩ := at_T73 HR0.out x26_2 p409 q409
       cases e409
       replace hx409_0 := up HB.out hx409_0
       replace hx409_1 := up HB.out hx409_1
       have HR409_0 := am hi409_0
       have HC409_0 := am hl409_0
       clear hi409_0 hl409_0
       replace p409 := eq_true p409
       replace q409 := eq_true q409
       try go_wp2_with (first | (refine bx 9 #[.slice none 0 0, .int .i64 0] 73 rfl ?_; intro gb410 hg w35 hbox hb; have BK410 := am (hbox); have GW410 := am (ge hg (ph HB.out)); have GE410 := GW410; replace HB := am (below_step (ph HB.out) hb); clear hb hbox hg; obtain ⟨hcz36_0, hcz36_1⟩ := b2 BK410.out; obtain ⟨hfz36_0, hfz36_1⟩ := f2 BK410.out))
       have n0_ : Aside0 (((w35.setCell ⟨gb410, 0, none⟩ (.slice A409_0 ((rd_T73 l0 x26_2).f0).length c409_0)).setCell ⟨gb410, 1, none⟩ (.int .i64 ((rd_T73 l0 x26_2).f1))).heap[gb410]? = some (.cells #[.slice A409_0 ((rd_T73 l0 x26_2).f0).length c409_0, .int .i64 ((rd_T73 l0 x26_2).f1)] 73 (0, 0))) := ⟨bp2 (pb BK410.out)⟩
       have n1_ : Aside0 (Below w.heap.size w ((w35.setCell ⟨gb410, 0, none⟩ (.slice A409_0 ((rd_T73 l0 x26_2).f0).length c409_0)).setCell ⟨gb410, 1, none⟩ (.int .i64 ((rd_T73 l0 x26_2).f1)))) := ⟨bg1 HB.out GE410.out⟩
       (try clear BK410)
       (try clear HB)
       generalize ((w35.setCell ⟨gb410, 0, none⟩ (.slice A409_0 ((rd_T73 l0 x26_2).f0).length c409_0)).setCell ⟨gb410, 1, none⟩ (.int .i64 ((rd_T73 l0 x26_2).f1))) = w37 at n0_ n1_ ⊢
       have BK410 := n0_
       have HB := n1_
       clear n0_ n1_
       replace BK410 := am (blk_drew BK410.out)
       replace HB := am (below_drew1 HB.out)
       refine start_ (n := 17) (S := fun w' => w'.cell? ⟨gb410, 0, none⟩ = some (.slice A409_0 ((rd_T73 l0 x26_2).f0).length c409_0) ∧ w'.cell? ⟨gb410, 1, none⟩ = some (.int .i64 ((rd_T73 l0 x26_2).f1))) (ds := []) (bt 17 0) (by kernel_rfl) rfl rfl ⟨(blk_cell BK410.out 0).trans rfl, (blk_cell BK410.out 1).trans rfl⟩ (fun hHeld => ?_); refine with_tabW impl_FindOpen.tab13 impl_FindOpen.bits13 (fun HT_ HW_ => ?_)
       generalize w37.drew = w38 at BK410 HB hHeld ⊢
       refine qm 0 31 (bt 17 1) rfl rfl HT_.out HW_.out hHeld ?_
       refine qo 1 (some 32) (bt 17 3) rfl rfl HT_.out fun K hK => ?_
       refine qg Try.func56 #[.agg #[.slice A409_0 ((rd_T73 l0 x26_2).f0).length c409_0, .int .i64 ((rd_T73 l0 x26_2).f1)]] rfl rfl ?_
       with_reducible refine (impl_freePages.calls k2 _ _ ((rd_T73 l0 x26_2).f0) ((rd_T73 l0 x26_2).f1) t411 _ ?side1 ?side2 A19.out).mono ?_
       (case side1 => exact pc (Kd.C_below HR409_0.out HB.out))
       (case side2 => exact HC409_0.out)
       rintro e w39 ⟨rfl, hb⟩
       refine ⟨_, rfl, ?_⟩
       replace BK410 := am (blk_below (pb BK410.out) hb)
       replace HB := am (below_step (bg1 HB.out GE410.out) hb)
       clear hb
       refine hK.out _ _ ⟨(blk_cell BK410.out 0).trans rfl, (blk_cell BK410.out 1).trans rfl⟩ (fun hHeld => ?_)
       clear hK K
       refine qn (some 32) ?_
       refine qj 2 33 (bt 17 7) rfl rfl HT_.out ?_
       refine qj 3 34 (bt 17 15) rfl rfl HT_.out ?_
       refine qj 4 35 (bt 17 31) rfl rfl HT_.out ?_
       refine qj 5 36 (bt 17 63) rfl rfl HT_.out ?_
       refine qj 6 37 (bt 17 127) rfl rfl HT_.out ?_
       refine qv 7 38 (bt 17 255) rfl rfl HT_.out ?_
       refine qv 8 39 (bt 17 511) rfl rfl HT_.out ?_
       refine qv 9 40 (bt 17 1023) rfl rfl HT_.out ?_
       refine qv 10 41 (bt 17 2047) rfl rfl HT_.out ?_
       refine qv 11 42 (bt 17 4095) rfl rfl HT_.out ?_
       refine qv 12 43 (bt 17 8191) rfl rfl HT_.out ?_
       refine qv 13 44 (bt 17 16383) rfl rfl HT_.out ?_
       refine qv 14 45 (bt 17 32767) rfl rfl HT_.out ?_
       refine qj 15 46 (bt 17 65535) rfl rfl HT_.out ?_
       refine qj 16 47 (bt 17 131071) rfl rfl HT_.out ?_
       refine done_ (done_of HT_.out (by kernel_rfl)) ?_
       try go_wp2
       go_roundg k2
       case measure => have := HK1.out; have := HK2.out; omega
       case rel => exact ⟨(x26_2), (true), (wrap64 (x26_2 + 1)), rf, rf, rf, H', ⟨by have := HK1.out; have := HK2.out; omega⟩, ⟨bg1 HB.out GE410.out⟩⟩
     subst c21
     rw [if_pos rfl] at H
     obtain ⟨c22b0, H⟩ := ifd H
     obtain ⟨c23b0, H⟩ := ifd H
     by_cases c24 : ((rd_T73 l0 x26_2).f1) < ((rd_T73 l0 x6_2).f1)
     rotate_left
     · rw [if_neg c24] at H
       have c24b0 := decide_eq_false c24
       clear c24
       have H' := am H
       clear H
       have p409 : 0 ≤ (x26_2 : Int) := ofb
       have q409 : x26_2 < (l0.length : Int) := ofb
       obtain ⟨ad409, A409_0, c409_0, e409, hx409_0, hx409_1, hl409_0, hi409_0⟩ := at_T73 HR0.out x26_2 p409 q409
       cases e409
       replace hx409_0 := up HB.out hx409_0
       replace hx409_1 := up HB.out hx409_1
       have HR409_0 := am hi409_0
       have HC409_0 := am hl409_0
       clear hi409_0 hl409_0
       replace p409 := eq_true p409
       replace q409 := eq_true q409
       try go_wp2_with (first | (refine bx 9 #[.slice none 0 0, .int .i64 0] 73 rfl ?_; intro gb410 hg w30 hbox hb; have BK410 := am (hbox); have GW410 := am (ge hg (ph HB.out)); have GE410 := GW410; replace HB := am (below_step (ph HB.out) hb); clear hb hbox hg; obtain ⟨hcz31_0, hcz31_1⟩ := b2 BK410.out; obtain ⟨hfz31_0, hfz31_1⟩ := f2 BK410.out))
       have n0_ : Aside0 (((w30.setCell ⟨gb410, 0, none⟩ (.slice A409_0 ((rd_T73 l0 x26_2).f0).length c409_0)).setCell ⟨gb410, 1, none⟩ (.int .i64 ((rd_T73 l0 x26_2).f1))).heap[gb410]? = some (.cells #[.slice A409_0 ((rd_T73 l0 x26_2).f0).length c409_0, .int .i64 ((rd_T73 l0 x26_2).f1)] 73 (0, 0))) := ⟨bp2 (pb BK410.out)⟩
       have n1_ : Aside0 (Below w.heap.size w ((w30.setCell ⟨gb410, 0, none⟩ (.slice A409_0 ((rd_T73 l0 x26_2).f0).length c409_0)).setCell ⟨gb410, 1, none⟩ (.int .i64 ((rd_T73 l0 x26_2).f1)))) := ⟨bg1 HB.out GE410.out⟩
       (try clear BK410)
       (try clear HB)
       generalize ((w30.setCell ⟨gb410, 0, none⟩ (.slice A409_0 ((rd_T73 l0 x26_2).f0).length c409_0)).setCell ⟨gb410, 1, none⟩ (.int .i64 ((rd_T73 l0 x26_2).f1))) = w32 at n0_ n1_ ⊢
       have BK410 := n0_
       have HB := n1_
       clear n0_ n1_
       replace BK410 := am (blk_drew BK410.out)
       replace HB := am (below_drew1 HB.out)
       have p412 : 0 ≤ (x6_2 : Int) := ofb
       have q412 : x6_2 < (l0.length : Int) := ofb
       obtain ⟨ad412, A412_0, c412_0, e412, hx412_0, hx412_1, hl412_0, hi412_0⟩ := at_T73 HR0.out x6_2 p412 q412
       have hw412_1 := hx412_1
       have hw412_0 := hx412_0
       obtain rfl : ad409 = ad412 := (by injection e412)
       replace hx412_0 := up HB.out hx412_0
       replace hx412_1 := up HB.out hx412_1
       have HR412_0 := am hi412_0
       have HC412_0 := am hl412_0
       clear hi412_0 hl412_0
       replace p412 := eq_true p412
       replace q412 := eq_true q412
       refine start_ (n := 17) (S := fun w' => w'.cell? ⟨gb410, 0, none⟩ = some (.slice A409_0 ((rd_T73 l0 x26_2).f0).length c409_0) ∧ w'.cell? ⟨gb410, 1, none⟩ = some (.int .i64 ((rd_T73 l0 x26_2).f1)) ∧ w'.cell? (ad409.add ((x6_2).toNat * 2)) = some (.slice A412_0 ((rd_T73 l0 x6_2).f0).length c412_0) ∧ w'.cell? ⟨(ad409.add ((x6_2).toNat * 2)).block, (ad409.add ((x6_2).toNat * 2)).off + 1, none⟩ = some (.int .i64 ((rd_T73 l0 x6_2).f1))) (ds := []) (bt 17 0) (by kernel_rfl) rfl rfl ⟨(blk_cell BK410.out 0).trans rfl, (blk_cell BK410.out 1).trans rfl, ((HB.out.cell (World.block_lt_of_cell? w _ hw412_0)).trans hw412_0), ((HB.out.cell (World.block_lt_of_cell? w _ hw412_1)).trans hw412_1)⟩ (fun hHeld => ?_); refine with_tabW impl_FindOpen.tab13 impl_FindOpen.bits13 (fun HT_ HW_ => ?_)
       generalize w32.drew = w33 at BK410 HB HR412_0 hx412_0 hx412_1 hHeld ⊢
       refine qm 0 31 (bt 17 1) rfl rfl HT_.out HW_.out hHeld ?_
       refine qo 1 (some 32) (bt 17 3) rfl rfl HT_.out fun K hK => ?_
       refine qg Try.func56 #[.agg #[.slice A409_0 ((rd_T73 l0 x26_2).f0).length c409_0, .int .i64 ((rd_T73 l0 x26_2).f1)]] rfl rfl ?_
       with_reducible refine (impl_freePages.calls k2 _ _ ((rd_T73 l0 x26_2).f0) ((rd_T73 l0 x26_2).f1) t411 _ ?side1 ?side2 A19.out).mono ?_
       (case side1 => exact pc (Kd.C_below HR409_0.out HB.out))
       (case side2 => exact HC409_0.out)
       rintro e w34 ⟨rfl, hb⟩
       refine ⟨_, rfl, ?_⟩
       replace BK410 := am (blk_below (pb BK410.out) hb)
       replace HB := am (below_step (bg1 HB.out GE410.out) hb)
       clear hb
       refine hK.out _ _ ⟨(blk_cell BK410.out 0).trans rfl, (blk_cell BK410.out 1).trans rfl, ((HB.out.cell (World.block_lt_of_cell? w _ hw412_0)).trans hw412_0), ((HB.out.cell (World.block_lt_of_cell? w _ hw412_1)).trans hw412_1)⟩ (fun hHeld => ?_)
       clear hK K
       refine qn (some 32) ?_
       refine qj 2 33 (bt 17 7) rfl rfl HT_.out ?_
       refine qj 3 34 (bt 17 15) rfl rfl HT_.out ?_
       refine qj 4 35 (bt 17 31) rfl rfl HT_.out ?_
       refine qj 5 36 (bt 17 63) rfl rfl HT_.out ?_
       refine qj 6 37 (bt 17 127) rfl rfl HT_.out ?_
       refine qj 7 38 (bt 17 255) rfl rfl HT_.out ?_
       refine qj 9 40 (bt 17 767) rfl rfl HT_.out ?_
       refine qj 10 41 (bt 17 1791) rfl rfl HT_.out ?_
       refine qj 11 42 (bt 17 3839) rfl rfl HT_.out ?_
       refine qj 12 43 (bt 17 7935) rfl rfl HT_.out ?_
       refine qm 8 39 (bt 17 8191) rfl rfl HT_.out HW_.out hHeld ?_
       refine qm 13 44 (bt 17 16383) rfl rfl HT_.out HW_.out hHeld ?_
       refine qj 14 45 (bt 17 32767) rfl rfl HT_.out ?_
       refine qj 15 46 (bt 17 65535) rfl rfl HT_.out ?_
       refine qj 16 47 (bt 17 131071) rfl rfl HT_.out ?_
       refine done_ (done_of HT_.out (by kernel_rfl)) ?_
       try go_wp2
       go_roundg k2
       case measure => have := HK1.out; have := HK2.out; omega
       case rel => exact ⟨(x6_2), (true), (wrap64 (x26_2 + 1)), rf, rf, rf, H', ⟨by have := HK1.out; have := HK2.out; omega⟩, ⟨bg1 HB.out GE410.out⟩⟩
     rw [if_pos c24] at H
     have c24b0 := decide_eq_true c24
     clear c24
     have H' := am H
     clear H
     have p409 : 0 ≤ (x26_2 : Int) := ofb
     have q409 : x26_2 < (l0.length : Int) := ofb
     obtain ⟨ad409, A409_0, c409_0, e409, hx409_0, hx409_1, hl409_0, hi409_0⟩ := at_T73 HR0.out x26_2 p409 q409
     cases e409
     replace hx409_0 := up HB.out hx409_0
     replace hx409_1 := up HB.out hx409_1
     have HR409_0 := am hi409_0
     have HC409_0 := am hl409_0
     clear hi409_0 hl409_0
     replace p409 := eq_true p409
     replace q409 := eq_true q409
     try go_wp2_with (first | (refine bx 9 #[.slice none 0 0, .int .i64 0] 73 rfl ?_; intro gb410 hg w25 hbox hb; have BK410 := am (hbox); have GW410 := am (ge hg (ph HB.out)); have GE410 := GW410; replace HB := am (below_step (ph HB.out) hb); clear hb hbox hg; obtain ⟨hcz26_0, hcz26_1⟩ := b2 BK410.out; obtain ⟨hfz26_0, hfz26_1⟩ := f2 BK410.out))
     have n0_ : Aside0 (((w25.setCell ⟨gb410, 0, none⟩ (.slice A409_0 ((rd_T73 l0 x26_2).f0).length c409_0)).setCell ⟨gb410, 1, none⟩ (.int .i64 ((rd_T73 l0 x26_2).f1))).heap[gb410]? = some (.cells #[.slice A409_0 ((rd_T73 l0 x26_2).f0).length c409_0, .int .i64 ((rd_T73 l0 x26_2).f1)] 73 (0, 0))) := ⟨bp2 (pb BK410.out)⟩
     have n1_ : Aside0 (Below w.heap.size w ((w25.setCell ⟨gb410, 0, none⟩ (.slice A409_0 ((rd_T73 l0 x26_2).f0).length c409_0)).setCell ⟨gb410, 1, none⟩ (.int .i64 ((rd_T73 l0 x26_2).f1)))) := ⟨bg1 HB.out GE410.out⟩
     (try clear BK410)
     (try clear HB)
     generalize ((w25.setCell ⟨gb410, 0, none⟩ (.slice A409_0 ((rd_T73 l0 x26_2).f0).length c409_0)).setCell ⟨gb410, 1, none⟩ (.int .i64 ((rd_T73 l0 x26_2).f1))) = w27 at n0_ n1_ ⊢
     have BK410 := n0_
     have HB := n1_
     clear n0_ n1_
     replace BK410 := am (blk_drew BK410.out)
     replace HB := am (below_drew1 HB.out)
     have p412 : 0 ≤ (x6_2 : Int) := ofb
     have q412 : x6_2 < (l0.length : Int) := ofb
     obtain ⟨ad412, A412_0, c412_0, e412, hx412_0, hx412_1, hl412_0, hi412_0⟩ := at_T73 HR0.out x6_2 p412 q412
     have hw412_1 := hx412_1
     have hw412_0 := hx412_0
     obtain rfl : ad409 = ad412 := (by injection e412)
     replace hx412_0 := up HB.out hx412_0
     replace hx412_1 := up HB.out hx412_1
     have HR412_0 := am hi412_0
     have HC412_0 := am hl412_0
     clear hi412_0 hl412_0
     replace p412 := eq_true p412
     replace q412 := eq_true q412
     refine start_ (n := 17) (S := fun w' => w'.cell? ⟨gb410, 0, none⟩ = some (.slice A409_0 ((rd_T73 l0 x26_2).f0).length c409_0) ∧ w'.cell? ⟨gb410, 1, none⟩ = some (.int .i64 ((rd_T73 l0 x26_2).f1)) ∧ w'.cell? (ad409.add ((x6_2).toNat * 2)) = some (.slice A412_0 ((rd_T73 l0 x6_2).f0).length c412_0) ∧ w'.cell? ⟨(ad409.add ((x6_2).toNat * 2)).block, (ad409.add ((x6_2).toNat * 2)).off + 1, none⟩ = some (.int .i64 ((rd_T73 l0 x6_2).f1))) (ds := []) (bt 17 0) (by kernel_rfl) rfl rfl ⟨(blk_cell BK410.out 0).trans rfl, (blk_cell BK410.out 1).trans rfl, ((HB.out.cell (World.block_lt_of_cell? w _ hw412_0)).trans hw412_0), ((HB.out.cell (World.block_lt_of_cell? w _ hw412_1)).trans hw412_1)⟩ (fun hHeld => ?_); refine with_tabW impl_FindOpen.tab13 impl_FindOpen.bits13 (fun HT_ HW_ => ?_)
     generalize w27.drew = w28 at BK410 HB HR412_0 hx412_0 hx412_1 hHeld ⊢
     refine qm 0 31 (bt 17 1) rfl rfl HT_.out HW_.out hHeld ?_
     refine qo 1 (some 32) (bt 17 3) rfl rfl HT_.out fun K hK => ?_
     refine qg Try.func56 #[.agg #[.slice A409_0 ((rd_T73 l0 x26_2).f0).length c409_0, .int .i64 ((rd_T73 l0 x26_2).f1)]] rfl rfl ?_
     with_reducible refine (impl_freePages.calls k2 _ _ ((rd_T73 l0 x26_2).f0) ((rd_T73 l0 x26_2).f1) t411 _ ?side1 ?side2 A19.out).mono ?_
     (case side1 => exact pc (Kd.C_below HR409_0.out HB.out))
     (case side2 => exact HC409_0.out)
     rintro e w29 ⟨rfl, hb⟩
     refine ⟨_, rfl, ?_⟩
     replace BK410 := am (blk_below (pb BK410.out) hb)
     replace HB := am (below_step (bg1 HB.out GE410.out) hb)
     clear hb
     refine hK.out _ _ ⟨(blk_cell BK410.out 0).trans rfl, (blk_cell BK410.out 1).trans rfl, ((HB.out.cell (World.block_lt_of_cell? w _ hw412_0)).trans hw412_0), ((HB.out.cell (World.block_lt_of_cell? w _ hw412_1)).trans hw412_1)⟩ (fun hHeld => ?_)
     clear hK K
     refine qn (some 32) ?_
     refine qj 2 33 (bt 17 7) rfl rfl HT_.out ?_
     refine qj 3 34 (bt 17 15) rfl rfl HT_.out ?_
     refine qj 4 35 (bt 17 31) rfl rfl HT_.out ?_
     refine qj 5 36 (bt 17 63) rfl rfl HT_.out ?_
     refine qj 6 37 (bt 17 127) rfl rfl HT_.out ?_
     refine qj 7 38 (bt 17 255) rfl rfl HT_.out ?_
     refine qj 9 40 (bt 17 767) rfl rfl HT_.out ?_
     refine qj 10 41 (bt 17 1791) rfl rfl HT_.out ?_
     refine qj 11 42 (bt 17 3839) rfl rfl HT_.out ?_
     refine qj 12 43 (bt 17 7935) rfl rfl HT_.out ?_
     refine qm 8 39 (bt 17 8191) rfl rfl HT_.out HW_.out hHeld ?_
     refine qm 13 44 (bt 17 16383) rfl rfl HT_.out HW_.out hHeld ?_
     refine qj 14 45 (bt 17 32767) rfl rfl HT_.out ?_
     refine qj 15 46 (bt 17 65535) rfl rfl HT_.out ?_
     refine qj 16 47 (bt 17 131071) rfl rfl HT_.out ?_
     refine done_ (done_of HT_.out (by kernel_rfl)) ?_
     try go_wp2
     go_roundg k2
     case measure => have := HK1.out; have := HK2.out; omega
     case rel => exact ⟨(x26_2), (true), (wrap64 (x26_2 + 1)), rf, rf, rf, H', ⟨by have := HK1.out; have := HK2.out; omega⟩, ⟨bg1 HB.out GE410.out⟩⟩
attribute [local go_sem] Oper.semAt_some
def oldN (s : Spans) : Nat → Nat
 | 0 => 0
 | n + 1 => if (s n).2 < (s (oldN s n)).2 then n else oldN s n
theorem oldN_lt (s : Spans) : ∀ n, n ≤ 4 → oldN s n < 4
 | 0, _ => by simp [oldN]
 | n + 1, h => by
  have := oldN_lt s n (by omega)
  rw [oldN]
  split <;> omega
def impl_FindOld.f (l0 : List (S73)) : Option (Int) := some (if flashOkB l0 = true then ((oldN (spansF l0) 4 : Nat) : Int) else -1)
theorem flash_four {l : List S73} (h : flashOkB l = true) : l.length = 4 := by
 unfold flashOkB at h
 rw [Bool.and_eq_true, decide_eq_true_eq] at h
 omega
theorem impl_FindOld.calls (A0 : Option Addr) (c0 : Nat) (l0 : List (S73)) (r : Int) (w : World) (hr0 : Kd.C k73 w A0 l0.length l0) (hc0 : l0.length ≤ c0) (h : impl_FindOld.f l0 = some r) :
 Calls Try.prog 37 #[.slice A0 l0.length c0] w fun e w' => e = .returned (.int .i64 r) ∧ Below w.heap.size w w' := by
 obtain rfl := Option.some.inj h
 clear h
 refine (callsIn_wide (n := 3)).1 ?_
 have hok := callsIn_wide (n := 2).2 (impl_FlashOk.calls A0 c0 l0 _ w hr0 hc0 rfl)
 have hu := Try.underlying87
 cases hf : flashOkB l0 with
 | false =>
  rw [hf] at hok
  refine callsIn_of_wp Try.func37 rfl trivial ?_ rfl
  simp only [Try.ntmps37, List.size_toArray, List.length_cons, List.length_nil, Nat.reduceAdd, Nat.reduceSub, Array.replicate_succ, Array.replicate_zero, List.push_toArray, List.append_toArray, List.nil_append, List.cons_append]
  gi_wp2_with (first | (refine ⟨trivial, ?_⟩; gi_at_call 32; refine hok.mono ?_; rintro e w1 ⟨rfl, hb⟩))
  go_ret
  exact ⟨rfl, hb⟩
 | true =>
  rw [hf] at hok
  have hl := flash_four hf
  rw [if_pos rfl]
  have hsp : ∀ W, Below w.heap.size w W → CallsIn Fence.wide 2 Try.prog 50 #[.slice A0 4 c0] W fun e w' => ∃ g, e = .returned (.slice (some ⟨g, 0, none⟩) 4 4) ∧ SpansBox w' g (spansF l0) ∧ W.heap.size ≤ g ∧ Below W.heap.size W w' := fun W hb => callsIn_wide.2 (spansOf_any A0 c0 l0 W (Kd.C_below hr0 hb) hl)
  generalize spansF l0 = s at hsp ⊢
  rw [hl] at hok ⊢
  refine callsIn_of_wp Try.func37 rfl trivial ?_ rfl
  simp only [Try.ntmps37, List.size_toArray, List.length_cons, List.length_nil, Nat.reduceAdd, Nat.reduceSub, Array.replicate_succ, Array.replicate_zero, List.push_toArray, List.append_toArray, List.nil_append, List.cons_append]
  gi_wp2_with (first | (refine ⟨trivial, ?_⟩; gi_at_call 32; refine hok.mono ?_; rintro e w1 ⟨rfl, hb⟩) | (refine ⟨trivial, ?_⟩; gi_at_call 50; refine (hsp _ hb).mono ?_; rintro e w2 ⟨g, rfl, hsb, hg, hb2⟩))
  have hB0 := below_then hb hb.size hb2
  gi_loopw [14, 3] (fun v14 v3 wr => ∃ i : Nat, v14 = .int .i64 (i : Int) ∧ v3 = .int .i64 ((oldN s i : Nat) : Int) ∧ i ≤ 4 ∧ SpansBox wr g s ∧ Below w.heap.size w wr) (fun v14 _ _ => 4 - (intOf v14).toNat)
  case atStart => exact ⟨0, rfl, rfl, by omega, hsb, hB0⟩
  case round =>
   obtain ⟨i, rfl, rfl, hi, hbx, hB⟩ := hrel
   have ho := oldN_lt s i hi
   by_cases ci : i < 4
   rotate_left
   · obtain rfl : i = 4 := by omega
     gi_wp2
     go_ret
     exact ⟨rfl, hB⟩
   have cib : decide ((i : Int) < 4) = true := decide_eq_true (by omega)
   have p1 : 0 ≤ (i : Int) := by omega
   have q1 : (i : Int) < 4 := by omega
   have p2 : 0 ≤ ((oldN s i : Nat) : Int) := by omega
   have q2 : ((oldN s i : Nat) : Int) < 4 := by omega
   obtain ⟨h1, h2⟩ := hbx.at_ i ci
   obtain ⟨h3, h4⟩ := hbx.at_ (oldN s i) ho
   have hglt := blk_lt hbx
   have hst : oldN s (i + 1) = if (s i).2 < (s (oldN s i)).2 then i else oldN s i := rfl
   have hw1 : wrap64 ((i : Int) + 1) = ((i + 1 : Nat) : Int) := by rw [IntWalk.wrap64_in _ (by omega)]; omega
   by_cases hlt : (s i).2 < (s (oldN s i)).2
   · have hlb : decide ((s i).2 < (s (oldN s i)).2) = true := decide_eq_true hlt
     rw [if_pos hlt] at hst
     gi_wp2
     gi_region
     all_goals gi_wp2
     refine ⟨⟨i + 1, by simp, by rw [hst], by omega, blk_drew (blk_alloc hbx _), below_drew (below_alloc hB _)⟩, by simp [intOf]; omega⟩
   have hlb : decide ((s i).2 < (s (oldN s i)).2) = false := decide_eq_false hlt
   rw [if_neg hlt] at hst
   gi_wp2
   gi_region
   all_goals gi_wp2
   refine ⟨⟨i + 1, by simp, by rw [hst], by omega, blk_drew (blk_alloc hbx _), below_drew (below_alloc hB _)⟩, by simp [intOf]; omega⟩
end Go.Proofs.Ytbhchamohldehaa.P4
