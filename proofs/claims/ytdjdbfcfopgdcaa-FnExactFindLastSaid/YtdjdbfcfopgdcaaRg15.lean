-- printed by wip/pp/pp.py
import Derived.Test.YtdjdbfcfopgdcaaRg0
import Derived.Test.YtdjdbfcfopgdcaaRg6
import Derived.Test.YtdjdbfcfopgdcaaRg10
import Derived.Test.YtdjdbfcfopgdcaaRg12
import Derived.Test.YtdjdbfcfopgdcaaRg14
namespace Go.Proofs.Ytdjdbfcfopgdcaa.Rg
open Go.RowKit Go.Proofs.YtdjdbfcfopgdcaaW.PrintWords Go.Proofs.YtdjdbfcfopgdcaaW.PrintLast Go.Proofs.YtdjdbfcfopgdcaaW.PrintMore
attribute [local go_sem] max2_int min2_int max_two min_two max_three min_three max_four min_four   -- for this text's walks alone
set_option linter.unusedVariables false
set_option linter.unusedSimpArgs false

-- ALONE
attribute [local go_sem] Oper.semAt_some
def lastStep (a : Int) (r : S26) (p : S91) : S26 := if p.f0 = 1 ∧ p.f1.f2 = a ∧ p.f1.f1 > r.f1 then p.f1 else r
def lastA (l : List S89) (a : Int) : S26 := (pagesL l).foldl (lastStep a) ⟨0, 0, 0, 0⟩
def impl_FindLast.f (l0 : List (S89)) (a1 : Int) : Option (Int × Int × Int × Int × Bool) := some (if addrB a1 = true ∧ flashOkB l0 = true then ((lastA l0 a1).f0, (lastA l0 a1).f1, (lastA l0 a1).f2, (lastA l0 a1).f3, decide ((lastA l0 a1).f1 > 0)) else (0, 0, 0, 0, false))
def lastOf (a : Int) (pre : List AnyPage) : S26 := pre.foldl (fun m x => lastStep a m x.1.2.2) ⟨0, 0, 0, 0⟩
theorem lastOf_snoc (a : Int) (pre : List AnyPage) (x : AnyPage) : lastOf a (pre ++ [x]) = lastStep a (lastOf a pre) x.1.2.2 := by simp [lastOf]
theorem lastOf_all {a : Int} {ys : List AnyPage} {l0 : List S89} (h : ys.map (·.1) = spotsF 0 l0) : lastOf a ys = lastA l0 a := by
  unfold lastOf lastA pagesL
  rw [← h, List.foldl_map, List.foldl_map]
set_option maxRecDepth 100000 in
set_option maxHeartbeats 4000000 in
theorem impl_FindLast.calls (A0 : Option Addr) (c0 : Nat) (l0 : List (S89)) (a1 : Int) (r1 : Int) (r2 : Int) (r3 : Int) (r4 : Int) (r5 : Bool) (w : World) (hr0 : Kd.C k89 w A0 l0.length l0) (hc0 : l0.length ≤ c0) (h : impl_FindLast.f l0 a1 = some (r1, r2, r3, r4, r5)) :
    Calls Try.prog 34 #[.slice A0 l0.length c0, .int .i64 a1] w fun e w' => e = .returned (.tuple #[.agg #[.int .i64 r1, .int .i64 r2, .int .i64 r3, .int .i64 r4], .bool r5]) ∧ Below w.heap.size w w' := by
  have hu := Try.underlying26
  refine (callsIn_wide (n := 3)).1 ?_
  have hak : ∀ w, CallsIn Fence.wide 2 Try.prog 76 #[.int .i64 a1] w fun e w' => e = .returned (.bool (addrB a1)) ∧ w = w' := fun w => callsIn_wide.2 (addrOk_any a1 w)
  unfold impl_FindLast.f at h
  have h := Option.some.inj h
  have b3 := Boxed.new w 3 (.int .i64 a1)
  have b4 : RecBox ((w.alloc (.cells #[.int .i64 a1] 3)).alloc (.cells #[.int .i64 0, .int .i64 0, .int .i64 0, .int .i64 0] 26)) (w.heap.size + 1) ⟨0, 0, 0, 0⟩ := by have := blk_new (w.alloc (.cells #[.int .i64 a1] 3)) (.cells #[.int .i64 0, .int .i64 0, .int .i64 0, .int .i64 0] 26); rw [World.size_alloc] at this; exact this
  replace b3 := b3.alloc (.cells #[.int .i64 0, .int .i64 0, .int .i64 0, .int .i64 0] 26)
  have hbw : Below w.heap.size w ((w.alloc (.cells #[.int .i64 a1] 3)).alloc (.cells #[.int .i64 0, .int .i64 0, .int .i64 0, .int .i64 0] 26)) := ((Below.refl _ w).alloc (Nat.le_refl _) _).alloc (by simp) _
  cases ha : addrB a1 with
  | false =>
    simp only [ha] at hak
    rw [ha, if_neg (by simp)] at h
    cases h
    refine callsIn_of_wp_marks Try.func34 rfl trivial ?_ rfl
    simp only [Try.ntmps34, List.size_toArray, List.length_cons, List.length_nil, Nat.reduceAdd, Nat.reduceSub, Array.replicate_succ, Array.replicate_zero, List.push_toArray, List.append_toArray, List.nil_append, List.cons_append]
    gi_wp2_with (first | (refine ⟨trivial, ?_⟩; gi_at_call 76; refine (hak _).mono ?_; rintro e w1 ⟨rfl, rfl⟩) | (refine And.intro (show Fence.wide.fn 29 from trivial) ?_))
    exact ⟨_, results_ct rfl _ _ (w.heap.size + 1) _ _ _ _ rfl b4 hu rfl (by kernel_rfl), rfl, hbw⟩
  | true =>
    simp only [ha] at hak
    have hok := callsIn_wide (n := 2).2 (impl_FlashOk.calls A0 c0 l0 _ _ (Kd.C_below hr0 hbw) hc0 rfl)
    cases hf : flashOkB l0 with
    | false =>
      rw [hf] at hok
      rw [hf, if_neg (by simp)] at h
      cases h
      refine callsIn_of_wp_marks Try.func34 rfl trivial ?_ rfl
      simp only [Try.ntmps34, List.size_toArray, List.length_cons, List.length_nil, Nat.reduceAdd, Nat.reduceSub, Array.replicate_succ, Array.replicate_zero, List.push_toArray, List.append_toArray, List.nil_append, List.cons_append]
      gi_wp2_with (first | (refine ⟨trivial, ?_⟩; gi_at_call 76; refine (hak _).mono ?_; rintro e w1 ⟨rfl, rfl⟩) | (refine ⟨trivial, ?_⟩; gi_at_call 29; refine hok.mono ?_; rintro e w1 ⟨rfl, hb⟩; have b4' : RecBox w1 (w.heap.size + 1) ⟨0, 0, 0, 0⟩ := blk_below b4 hb; obtain ⟨hq0, hq1, hq2, hq3⟩ := b4'.cells; have hg0 := b4'.frozen 0; have hg1 := b4'.frozen 1; have hg2 := b4'.frozen 2; have hg3 := b4'.frozen 3))
      exact ⟨_, results_ct rfl _ _ (w.heap.size + 1) _ _ _ _ rfl (b4'.put ⟨0, 0, 0, 0⟩) hu rfl (by kernel_rfl), rfl, below_set4 (below_then hbw hbw.size hb) (by omega) ⟨0, 0, 0, 0⟩⟩
    | true =>
      rw [hf] at hok
      rw [ha, hf, if_pos ⟨rfl, rfl⟩] at h
      refine callsIn_of_wp_marks Try.func34 rfl trivial ?_ rfl
      simp only [Try.ntmps34, List.size_toArray, List.length_cons, List.length_nil, Nat.reduceAdd, Nat.reduceSub, Array.replicate_succ, Array.replicate_zero, List.push_toArray, List.append_toArray, List.nil_append, List.cons_append]
      gi_wp2_with (first | (refine ⟨trivial, ?_⟩; gi_at_call 76; refine (hak _).mono ?_; rintro e w1 ⟨rfl, rfl⟩) | (refine ⟨trivial, ?_⟩; gi_at_call 29; refine hok.mono ?_; rintro e w1 ⟨rfl, hb⟩) | (refine ⟨trivial, ?_⟩; gi_at_call 91; refine (eachPage_in Fence.wide 2 trivial rfl _ _ _ _).mono ?_; rintro e w2 ⟨rfl, rfl⟩))
      have hs1 := hb.size
      simp only [World.size_alloc] at hs1
      have b3' : Boxed w1 w.heap.size 3 (.int .i64 a1) := blk_below b3 hb
      have b4' : RecBox w1 (w.heap.size + 1) ⟨0, 0, 0, 0⟩ := blk_below b4 hb
      have hbw1 := below_then hbw hbw.size hb
      have bL : RecBox (w1.alloc (.cells #[.int .i64 0, .int .i64 0, .int .i64 0, .int .i64 0] 26)) w1.heap.size ⟨0, 0, 0, 0⟩ := blk_new w1 _
      have bN := Boxed.new (w1.alloc (.cells #[.int .i64 0, .int .i64 0, .int .i64 0, .int .i64 0] 26)) 35 (.slice A0 l0.length c0)
      rw [World.size_alloc] at bN
      have bL2 : RecBox ((w1.alloc (.cells #[.int .i64 0, .int .i64 0, .int .i64 0, .int .i64 0] 26)).alloc (.cells #[.slice A0 l0.length c0] 35)) w1.heap.size ⟨0, 0, 0, 0⟩ := blk_alloc bL _
      have hB0 : Below w.heap.size w ((w1.alloc (.cells #[.int .i64 0, .int .i64 0, .int .i64 0, .int .i64 0] 26)).alloc (.cells #[.slice A0 l0.length c0] 35)) := (hbw1.alloc hbw1.size _).alloc (hbw1.alloc hbw1.size _).size _
      refine wpIn_rangeFunc_ownH (F := Fence.wide) rfl (by decide) (gf := 121) (lb := #[.pointer (some ⟨w1.heap.size + 1, 0, none⟩)]) rfl trivial (enters_of Try.func121 (by kernel_rfl) rfl)
        (eachPage_stops Fence.wide 2 trivial rfl (by decide) (fun _ => True) (w1.heap.size + 1) A0 c0 l0 w _ hr0 (fun _ _ => trivial) hB0 bN.cell) belowK_t (belowK_b hB0.size) (Below.refl _ _) (fun _ => rfl)
        (fun pre W => RecBox W w1.heap.size (lastOf a1 pre) ∧ Boxed W w.heap.size 3 (.int .i64 a1) ∧ RecBox W (w.heap.size + 1) ⟨0, 0, 0, 0⟩ ∧ Below w.heap.size w W) (fun _ _ _ => False)
        (OwnFrom.and (Own.from (RecBox.own _ _) _) (OwnFrom.and (Own.from (boxed_own _ _ _) _) (OwnFrom.and (Own.from (RecBox.own _ _) _) (ownFrom_below (Nat.le_refl _) hB0.size)))) (fun _ _ _ _ _ hs _ _ => hs)
        ⟨bL2, (b3'.alloc _).alloc _, blk_alloc (blk_alloc b4' _) _, hB0⟩
        (fun x a' W => ∃ Bx, w1.heap.size < Bx ∧ PageBox W Bx x.1.2.2 ∧ a' = { tmps := #[.slice A0 l0.length c0, .int .i64 a1, undef, .pointer (some ⟨w.heap.size, 0, none⟩), .pointer (some ⟨w.heap.size + 1, 0, none⟩), .bool false, .pointer (some ⟨w1.heap.size, 0, none⟩), undef, .pointer (some ⟨Bx, 0, none⟩), .int .i64 a1, .bool true, .bool false, .bool false, .slice A0 l0.length c0, .bool true, .bool false, .bool false, undef, .slice A0 l0.length c0, .func (.func 121) #[] #[.pointer (some ⟨w1.heap.size + 1, 0, none⟩)], .agg #[.int .i64 (x.1.1 : Int), .int .i64 (x.1.2.1 : Int)], .agg #[.int .i64 x.1.2.2.f0, .int .i64 x.1.2.2.f1.f0, .int .i64 x.1.2.2.f1.f1, .int .i64 x.1.2.2.f1.f2, .int .i64 x.1.2.2.f1.f3], undef, undef, undef, undef, undef, undef, undef, undef, undef, undef, undef, undef, undef, undef, undef, undef, undef, undef, undef, undef, undef, undef, undef, undef], defers := [] })
        (fun x a' s X Y row hs hg hr => by obtain ⟨Bx, h1, h2, h3⟩ := hs; exact ⟨Bx, h1, PageBox.own Bx _ _ () X Y row h2 hg hr, h3⟩) ?assign ?body ?done ?stop
      case assign =>
        rintro l pre x W K ⟨hbx, hb3, hb4, hB⟩ hK
        gi_wp2
        exact hK _ _ ((KeepsOthers.alloc _ _).from _) ((Below.refl _ W).alloc hB.size _) ⟨blk_alloc hbx _, hb3.alloc _, blk_alloc hb4 _, hB.alloc hB.size _⟩ ⟨W.heap.size, blk_lt hbx, blk_new W _, rfl⟩
      case body =>
        rintro l pre x a' W hl ⟨r, hr⟩ ⟨hbx, hb3, hb4, hB⟩ ⟨Bx, hBx, bX, rfl⟩ hlt
        obtain ⟨hc0_, hc1_, hc2_, hc3_, hc4_⟩ := bX.cells
        have hcl := hb3.cell
        obtain ⟨hq0, hq1, hq2, hq3⟩ := hbx.cells
        have hg0 := hbx.frozen 0
        have hg1 := hbx.frozen 1
        have hg2 := hbx.frozen 2
        have hg3 := hbx.frozen 3
        have hsn := lastOf_snoc a1 pre x
        unfold lastStep at hsn
        by_cases hs1 : x.1.2.2.f0 = 1
        rotate_left
        · have hs2 : (x.1.2.2.f0 == 1) = false := by simp [hs1]
          rw [if_neg (fun h => hs1 h.1)] at hsn
          gi_wp2
          exact ⟨KeepsFrom.refl _ _, Below.refl _ _, by rw [hsn]; exact hbx, hb3, hb4, hB⟩
        have hs2 : (x.1.2.2.f0 == 1) = true := by simp [hs1]
        by_cases ht1 : x.1.2.2.f1.f2 = a1
        rotate_left
        · have ht2 : (x.1.2.2.f1.f2 == a1) = false := by simp [ht1]
          rw [if_neg (fun h => ht1 h.2.1)] at hsn
          gi_wp2
          exact ⟨KeepsFrom.refl _ _, Below.refl _ _, by rw [hsn]; exact hbx, hb3, hb4, hB⟩
        have ht2 : (x.1.2.2.f1.f2 == a1) = true := by simp [ht1]
        by_cases hv1 : x.1.2.2.f1.f1 > (lastOf a1 pre).f1
        rotate_left
        · have hv2 : decide ((lastOf a1 pre).f1 < x.1.2.2.f1.f1) = false := decide_eq_false hv1
          rw [if_neg (fun h => hv1 h.2.2)] at hsn
          gi_wp2
          exact ⟨KeepsFrom.refl _ _, Below.refl _ _, by rw [hsn]; exact hbx, hb3, hb4, hB⟩
        have hv2 : decide ((lastOf a1 pre).f1 < x.1.2.2.f1.f1) = true := decide_eq_true hv1
        rw [if_pos ⟨hs1, ht1, hv1⟩] at hsn
        obtain ⟨q, hq, hq_⟩ : ∃ q : S26, q = ⟨x.1.2.2.f1.f0, x.1.2.2.f1.f1, a1, x.1.2.2.f1.f3⟩ ∧ x.1.2.2.f1 = q := ⟨_, rfl, by rw [← ht1]⟩
        rw [hq_] at hsn
        have ok1 : RecBox (set4 W w1.heap.size q) w1.heap.size (lastOf a1 (pre ++ [x])) := by rw [hsn]; exact RecBox.put hbx _
        have ok2 : Boxed (set4 W w1.heap.size q) w.heap.size 3 (.int .i64 a1) := Boxed.far4 hb3 (by omega) _
        have ok3 : RecBox (set4 W w1.heap.size q) (w.heap.size + 1) ⟨0, 0, 0, 0⟩ := RecBox.far hb4 (by omega) _
        have ok4 : Below w.heap.size w (set4 W w1.heap.size q) := below_set4 hB (by omega) _
        have ok5 : Below w.heap.size W (set4 W w1.heap.size q) := below_set4 (Below.refl _ W) (by omega) _
        have OK1 := Aside0.mk ok1
        have OK2 := Aside0.mk ok2
        have OK3 := Aside0.mk ok3
        have OK4 := Aside0.mk ok4
        have OK5 := Aside0.mk ok5
        have OK6 := Aside0.mk ((keeps_set4 W w1.heap.size q).from ((w1.alloc (.cells #[.int .i64 0, .int .i64 0, .int .i64 0, .int .i64 0] 26)).alloc (.cells #[.slice A0 l0.length c0] 35)).heap.size)
        subst hq
        clear ok1 ok2 ok3 ok4 ok5 hsn hq_
        gi_wp2
        exact ⟨OK6.out, OK5.out, OK1.out, OK2.out, OK3.out, OK4.out⟩
      case done =>
        rintro D ys W hD hys ⟨hbx, hb3, hb4, hB⟩ hK
        rw [lastOf_all hys] at hbx
        cases h
        obtain ⟨hq0, hq1, hq2, hq3⟩ := hbx.cells
        obtain ⟨ho0, ho1, ho2, ho3⟩ := hb4.cells
        have hg0 := hb4.frozen 0
        have hg1 := hb4.frozen 1
        have hg2 := hb4.frozen 2
        have hg3 := hb4.frozen 3
        gi_wp2
        gi_region
        gi_wp2
        have hbp : RecBox (set4 W (w.heap.size + 1) (lastA l0 a1)).drew (w.heap.size + 1) (lastA l0 a1) := RecBox.put hb4 _
        have hK' : (set4 W (w.heap.size + 1) (lastA l0 a1)).drew.heap[D]? = some (.deferred (some [])) := (keeps_set4 W (w.heap.size + 1) (lastA l0 a1)).same D _ hK rfl
        have hB' : Below w.heap.size w (set4 W (w.heap.size + 1) (lastA l0 a1)).drew := below_drew (below_set4 hB (by omega) _)
        refine ⟨by simp, .inl ⟨_, _, rfl, run_takeDeferred hK', ?_⟩⟩
        have hbq := RecBox.own (β := Unit) _ (fun _ => lastA l0 a1) () _ _ _ hbp (grownBy_putObj' _ D (.deferred none)) (fun r e => by cases e; exact ⟨_, hK', rfl⟩)
        exact ⟨_, results_ct rfl _ _ (w.heap.size + 1) _ _ _ _ rfl hbq hu rfl (by kernel_rfl), rfl, hB'.trans (belowK_b (w := w) (Nat.le_refl _) _ D _ _ (by have := hB0.size; omega) hK' rfl rfl)⟩
      case stop =>
        rintro D c pre W _ _ h _
        exact h.elim

end Go.Proofs.Ytdjdbfcfopgdcaa.Rg
