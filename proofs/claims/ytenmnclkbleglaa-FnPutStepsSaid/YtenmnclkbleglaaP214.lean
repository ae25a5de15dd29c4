-- printed by wip/pp/pp.py
import Derived.Test.YtenmnclkbleglaaP20
import Derived.Test.YtenmnclkbleglaaP21
import Derived.Test.YtenmnclkbleglaaP212
import Derived.RangeFuncNested
import Derived.RangeFuncBound
import Derived.RangeFuncCalls
import Derived.RangeFuncLeaves
import Derived.Shelf.Abstract
import Derived.WalkKit
import Derived.OwnWalkIn
import Derived.TacticsInMore
import Derived.LoopNIn
import Derived.LoopIn
import Derived.IntWalk
import Derived.Test.YtenmnclkbleglaaP211
set_option maxHeartbeats 8000000
set_option maxRecDepth 100000
namespace Go.Proofs.Ytenmnclkbleglaa.P2
open Go.RowKit Go.Proofs.YtenmnclkbleglaaW.PrintWords Go.Proofs.YtenmnclkbleglaaW.PrintLast Go.Proofs.YtenmnclkbleglaaW.PrintMore
attribute [local go_sem] max2_int min2_int max_two min_two max_three min_three max_four min_four
set_option linter.unusedVariables false
set_option linter.unusedSimpArgs false
attribute [local go_sem] Oper.semAt_some
def stepNext (m : Int) (p : S39) : Int := if p.f0 = 1 then mx m p.f1.f1 else m
def impl_FindNext.f (l0 : List (S42)) : Option (Int) := some (if flashOkB l0 = true then wrap64 ((pagesL l0).foldl stepNext 0 + 1) else 0)
def nextOf (pre : List AnyPage) : Int := pre.foldl (fun m x => stepNext m x.1.2.2) 0
theorem nextOf_snoc (pre : List AnyPage) (x : AnyPage) : nextOf (pre ++ [x]) = stepNext (nextOf pre) x.1.2.2 := by simp [nextOf]
theorem nextOf_all {ys : List AnyPage} {l0 : List S42} (h : ys.map (·.1) = spotsF 0 l0) : nextOf ys = (pagesL l0).foldl stepNext 0 := by
 unfold nextOf pagesL
 rw [← h, List.foldl_map, List.foldl_map]
theorem impl_FindNext.calls (A0 : Option Addr) (c0 : Nat) (l0 : List (S42)) (r : Int) (w : World) (hr0 : Kd.C k42 w A0 l0.length l0) (hc0 : l0.length ≤ c0) (h : impl_FindNext.f l0 = some r) :
 Calls Try.prog 8 #[.slice A0 l0.length c0] w fun e w' => e = .returned (.int .i64 r) ∧ Below w.heap.size w w' := by
 obtain rfl := Option.some.inj h
 clear h
 refine (callsIn_wide (n := 3)).1 ?_
 have hok := callsIn_wide (n := 2).2 (impl_FlashOk.calls A0 c0 l0 _ w hr0 hc0 rfl)
 cases hf : flashOkB l0 with
 | false =>
  refine callsIn_of_wp_marks Try.func8 rfl trivial ?_ rfl
  simp only [Try.ntmps8, List.size_toArray, List.length_cons, List.length_nil, Nat.reduceAdd, Nat.reduceSub, Array.replicate_succ, Array.replicate_zero, List.push_toArray, List.append_toArray, List.nil_append, List.cons_append]
  rw [hf] at hok
  gi_wp2_with (first | (refine ⟨trivial, ?_⟩; gi_at_call 18; refine hok.mono ?_; rintro e w1 ⟨rfl, hb⟩))
  exact ⟨_, results_tmp rfl _ _ _, rfl, hb⟩
 | true =>
  refine callsIn_of_wp_marks Try.func8 rfl trivial ?_ rfl
  simp only [Try.ntmps8, List.size_toArray, List.length_cons, List.length_nil, Nat.reduceAdd, Nat.reduceSub, Array.replicate_succ, Array.replicate_zero, List.push_toArray, List.append_toArray, List.nil_append, List.cons_append]
  rw [hf] at hok
  gi_wp2_with (first | (refine ⟨trivial, ?_⟩; gi_at_call 18; refine hok.mono ?_; rintro e w1 ⟨rfl, hb⟩) | (refine ⟨trivial, ?_⟩; gi_at_call 21; refine (eachPage_in Fence.wide 2 trivial rfl _ _ _ _).mono ?_; rintro e w2 ⟨rfl, rfl⟩))
  have bL := Boxed.new w1 3 (.int .i64 0)
  have bN := Boxed.new (w1.alloc (.cells #[.int .i64 0] 3)) 23 (.slice A0 l0.length c0)
  rw [World.size_alloc] at bN
  have bL2 := bL.alloc (.cells #[.slice A0 l0.length c0] 23)
  have hB0 : Below w.heap.size w ((w1.alloc (.cells #[.int .i64 0] 3)).alloc (.cells #[.slice A0 l0.length c0] 23)) := (hb.alloc hb.size _).alloc (hb.alloc hb.size _).size _
  refine wpIn_rangeFunc_ownH (F := Fence.wide) rfl (by decide) (gf := 42) (lb := #[.pointer (some ⟨w1.heap.size + 1, 0, none⟩)]) rfl trivial (enters_of Try.func42 (by kernel_rfl) rfl)
   (eachPage_stops Fence.wide 2 trivial rfl (by decide) (fun _ => True) (w1.heap.size + 1) A0 c0 l0 w _ hr0 (fun _ _ => trivial) hB0 bN.cell) belowK_t (belowK_b hB0.size) (Below.refl _ _) (fun _ => rfl)
   (fun pre W => Boxed W w1.heap.size 3 (.int .i64 (nextOf pre)) ∧ Below w.heap.size w W) (fun _ _ _ => False)
   (OwnFrom.and (Own.from (boxed_own _ _ _) _) (ownFrom_below (Nat.le_refl _) hB0.size)) (fun _ _ _ _ _ hs _ _ => hs) ⟨bL2, hB0⟩
   (fun x a' W => ∃ Bx, w1.heap.size < Bx ∧ PageBox W Bx x.1.2.2 ∧ a' = { tmps := #[.slice A0 l0.length c0, undef, .int .i64 0, .pointer (some ⟨w1.heap.size, 0, none⟩), undef, .pointer (some ⟨Bx, 0, none⟩), .slice A0 l0.length c0, .bool true, .bool false, .slice A0 l0.length c0, .func (.func 42) #[] #[.pointer (some ⟨w1.heap.size + 1, 0, none⟩)], .agg #[.int .i64 (x.1.1 : Int), .int .i64 (x.1.2.1 : Int)], .agg #[.int .i64 x.1.2.2.f0, .int .i64 x.1.2.2.f1.f0, .int .i64 x.1.2.2.f1.f1, .int .i64 x.1.2.2.f1.f2, .int .i64 x.1.2.2.f1.f3], undef, undef, undef, undef, undef, undef, undef, undef, undef, undef], defers := [] })
   (fun x a' s X Y row hs hg hr => by obtain ⟨Bx, h1, h2, h3⟩ := hs; exact ⟨Bx, h1, PageBox.own Bx _ _ () X Y row h2 hg hr, h3⟩) ?assign ?body ?done ?stop
  case assign =>
   rintro l pre x W K ⟨hbx, hB⟩ hK
   gi_wp2
   exact hK _ _ ((KeepsOthers.alloc _ _).from _) ((Below.refl _ W).alloc hB.size _) ⟨hbx.alloc _, hB.alloc hB.size _⟩ ⟨W.heap.size, hbx.lt, blk_new W _, rfl⟩
  case body =>
   rintro l pre x a' W hl ⟨r, hr⟩ ⟨hbx, hB⟩ ⟨Bx, hBx, bX, rfl⟩ hlt
   obtain ⟨hc0_, hc1_, hc2_, hc3_, hc4_⟩ := bX.cells
   have hcl := hbx.cell
   have hfl := hbx.frozen
   have hsn := nextOf_snoc pre x
   by_cases hs1 : x.1.2.2.f0 = 1
   rotate_left
   · have hs2 : (x.1.2.2.f0 == 1) = false := by simp [hs1]
     rw [stepNext, if_neg hs1] at hsn
     gi_wp2
     exact ⟨KeepsFrom.refl _ _, Below.refl _ _, by rw [hsn]; exact hbx, hB⟩
   have hs2 : (x.1.2.2.f0 == 1) = true := by simp [hs1]
   rw [stepNext, if_pos hs1] at hsn
   gi_wp2
   all_goals
    refine ⟨(KeepsOthers.setCell _ _ _).from _, (Below.refl _ W).setCell (p := ⟨w1.heap.size, 0, none⟩) hb.size _, ?_, hB.setCell (p := ⟨w1.heap.size, 0, none⟩) hb.size _⟩
    rw [hsn]
    unfold mx
    first
     | (rw [if_pos (by omega)]; exact hbx.set _)
     | (rw [if_neg (by omega)]; exact hbx.set _)
  case done =>
   rintro D ys W hD hys ⟨hbx, hB⟩ hK
   have hcl := hbx.cell
   gi_wp2
   refine ⟨by simp, .inl ⟨_, _, rfl, run_takeDeferred hK, ?_⟩⟩
   exact ⟨_, results_tmp rfl _ _ _, by rw [← nextOf_all hys]; rfl, hB.trans (belowK_b (w := w) (Nat.le_refl _) W D _ _ (by have := hB0.size; omega) hK rfl rfl)⟩
  case stop =>
   rintro D c pre W _ _ h _
   exact h.elim
attribute [local go_sem] Oper.semAt_some
def oldN (s : Spans) : Nat → Nat
 | 0 => 0
 | n + 1 => if (s n).2 < (s (oldN s n)).2 then n else oldN s n
theorem oldN_lt (s : Spans) : ∀ n, n ≤ 4 → oldN s n < 4
 | 0, _ => by simp [oldN]
 | n + 1, h => by
  have := oldN_lt s n (by omega)
  rw [oldN]
  split <;> omega
def impl_FindOld.f (l0 : List (S42)) : Option (Int) := some (if flashOkB l0 = true then ((oldN (spansF l0) 4 : Nat) : Int) else -1)
theorem flash_four {l : List S42} (h : flashOkB l = true) : l.length = 4 := by
 unfold flashOkB at h
 rw [Bool.and_eq_true, decide_eq_true_eq] at h
 omega
theorem impl_FindOld.calls (A0 : Option Addr) (c0 : Nat) (l0 : List (S42)) (r : Int) (w : World) (hr0 : Kd.C k42 w A0 l0.length l0) (hc0 : l0.length ≤ c0) (h : impl_FindOld.f l0 = some r) :
 Calls Try.prog 9 #[.slice A0 l0.length c0] w fun e w' => e = .returned (.int .i64 r) ∧ Below w.heap.size w w' := by
 obtain rfl := Option.some.inj h
 clear h
 refine (callsIn_wide (n := 3)).1 ?_
 have hok := callsIn_wide (n := 2).2 (impl_FlashOk.calls A0 c0 l0 _ w hr0 hc0 rfl)
 have hu := Try.underlying63
 cases hf : flashOkB l0 with
 | false =>
  rw [hf] at hok
  refine callsIn_of_wp Try.func9 rfl trivial ?_ rfl
  simp only [Try.ntmps9, List.size_toArray, List.length_cons, List.length_nil, Nat.reduceAdd, Nat.reduceSub, Array.replicate_succ, Array.replicate_zero, List.push_toArray, List.append_toArray, List.nil_append, List.cons_append]
  gi_wp2_with (first | (refine ⟨trivial, ?_⟩; gi_at_call 18; refine hok.mono ?_; rintro e w1 ⟨rfl, hb⟩))
  go_ret
  exact ⟨rfl, hb⟩
 | true =>
  rw [hf] at hok
  have hl := flash_four hf
  rw [if_pos rfl]
  have hsp : ∀ W, Below w.heap.size w W → CallsIn Fence.wide 2 Try.prog 22 #[.slice A0 4 c0] W fun e w' => ∃ g, e = .returned (.slice (some ⟨g, 0, none⟩) 4 4) ∧ SpansBox w' g (spansF l0) ∧ W.heap.size ≤ g ∧ Below W.heap.size W w' := fun W hb => callsIn_wide.2 (spansOf_any A0 c0 l0 W (Kd.C_below hr0 hb) hl)
  generalize spansF l0 = s at hsp ⊢
  rw [hl] at hok ⊢
  refine callsIn_of_wp Try.func9 rfl trivial ?_ rfl
  simp only [Try.ntmps9, List.size_toArray, List.length_cons, List.length_nil, Nat.reduceAdd, Nat.reduceSub, Array.replicate_succ, Array.replicate_zero, List.push_toArray, List.append_toArray, List.nil_append, List.cons_append]
  gi_wp2_with (first | (refine ⟨trivial, ?_⟩; gi_at_call 18; refine hok.mono ?_; rintro e w1 ⟨rfl, hb⟩) | (refine ⟨trivial, ?_⟩; gi_at_call 22; refine (hsp _ hb).mono ?_; rintro e w2 ⟨g, rfl, hsb, hg, hb2⟩))
  have hB0 := below_then hb hb.size hb2
  gi_loopw [14, 3] (fun v14 v3 wr => ∃ i : Nat, v14 = .int .i64 (i : Int) ∧ v3 = .int .i64 ((oldN s i : Nat) : Int) ∧ i ≤ 4 ∧ SpansBox wr g s ∧ Below w.heap.size w wr) (fun v14 _ _ => 4 - (intOf v14).toNat)
  case atStart => exact ⟨0, rfl, rfl, by omega, hsb, hB0⟩
  case round =>
   obtain ⟨i, rfl, rfl, hi, hbx, hB⟩ := hrel
   have ho := oldN_lt s i hi
   by_cases ci : i < 4
   rotate_left
   · obtain rfl : i = 4 := by omega
     gi_wp2
     go_ret
     exact ⟨rfl, hB⟩
   have cib : decide ((i : Int) < 4) = true := decide_eq_true (by omega)
   have p1 : 0 ≤ (i : Int) := by omega
   have q1 : (i : Int) < 4 := by omega
   have p2 : 0 ≤ ((oldN s i : Nat) : Int) := by omega
   have q2 : ((oldN s i : Nat) : Int) < 4 := by omega
   obtain ⟨h1, h2⟩ := hbx.at_ i ci
   obtain ⟨h3, h4⟩ := hbx.at_ (oldN s i) ho
   have hglt := blk_lt hbx
   have hst : oldN s (i + 1) = if (s i).2 < (s (oldN s i)).2 then i else oldN s i := rfl
   have hw1 : wrap64 ((i : Int) + 1) = ((i + 1 : Nat) : Int) := by rw [IntWalk.wrap64_in _ (by omega)]; omega
   by_cases hlt : (s i).2 < (s (oldN s i)).2
   · have hlb : decide ((s i).2 < (s (oldN s i)).2) = true := decide_eq_true hlt
     rw [if_pos hlt] at hst
     gi_wp2
     gi_region
     all_goals gi_wp2
     refine ⟨⟨i + 1, by simp, by rw [hst], by omega, blk_drew (blk_alloc hbx _), below_drew (below_alloc hB _)⟩, by simp [intOf]; omega⟩
   have hlb : decide ((s i).2 < (s (oldN s i)).2) = false := decide_eq_false hlt
   rw [if_neg hlt] at hst
   gi_wp2
   gi_region
   all_goals gi_wp2
   refine ⟨⟨i + 1, by simp, by rw [hst], by omega, blk_drew (blk_alloc hbx _), below_drew (below_alloc hB _)⟩, by simp [intOf]; omega⟩
def impl_blockOk.f (a0 : Int) : Option (Bool) := if a0 ≥ 0 then (some (decide (a0 < 4))) else (some false)
theorem impl_blockOk.calls (a0 : Int) (r : Bool) (w : World) (h : impl_blockOk.f a0 = some r) :
 Calls Try.prog 23 #[.int .i64 a0] w fun e w' => e = .returned (.bool r) ∧ Drawn0 w w' := by
 have H : (if a0 ≥ 0 then (some (decide (a0 < 4))) else (some false)) = some r := h
 clear h
 by_cases c2 : a0 ≥ 0
 · rw [if_pos c2] at H
   have c2b0 := decide_eq_true c2
   clear c2
   obtain rfl := Option.some.inj H
   go_enter Try.func23, Try.ntmps23
   go_wp2
   go_ret
   exact ⟨by first | rfl | (simp; done) | (simp [*]; done), by repeat (first | exact Drawn0.refl _ | apply Drawn0.step)⟩
 rw [if_neg c2] at H
 have c2b0 := decide_eq_false c2
 clear c2
 obtain rfl := Option.some.inj H
 go_enter Try.func23, Try.ntmps23
 go_wp2
 go_ret
 exact ⟨by first | rfl | (simp; done) | (simp [*]; done), by repeat (first | exact Drawn0.refl _ | apply Drawn0.step)⟩
attribute [local go_sem] Oper.semAt_some
def lastStep (a : Int) (r : S32) (p : S39) : S32 := if p.f0 = 1 ∧ p.f1.f2 = a ∧ p.f1.f1 > r.f1 then p.f1 else r
def lastA (l : List S42) (a : Int) : S32 := (pagesL l).foldl (lastStep a) ⟨0, 0, 0, 0⟩
def impl_FindLast.f (l0 : List (S42)) (a1 : Int) : Option (Int × Int × Int × Int × Bool) := some (if addrB a1 = true ∧ flashOkB l0 = true then ((lastA l0 a1).f0, (lastA l0 a1).f1, (lastA l0 a1).f2, (lastA l0 a1).f3, decide ((lastA l0 a1).f1 > 0)) else (0, 0, 0, 0, false))
def lastOf (a : Int) (pre : List AnyPage) : S32 := pre.foldl (fun m x => lastStep a m x.1.2.2) ⟨0, 0, 0, 0⟩
theorem lastOf_snoc (a : Int) (pre : List AnyPage) (x : AnyPage) : lastOf a (pre ++ [x]) = lastStep a (lastOf a pre) x.1.2.2 := by simp [lastOf]
theorem lastOf_all {a : Int} {ys : List AnyPage} {l0 : List S42} (h : ys.map (·.1) = spotsF 0 l0) : lastOf a ys = lastA l0 a := by
 unfold lastOf lastA pagesL
 rw [← h, List.foldl_map, List.foldl_map]
theorem impl_FindLast.calls (A0 : Option Addr) (c0 : Nat) (l0 : List (S42)) (a1 : Int) (r1 : Int) (r2 : Int) (r3 : Int) (r4 : Int) (r5 : Bool) (w : World) (hr0 : Kd.C k42 w A0 l0.length l0) (hc0 : l0.length ≤ c0) (h : impl_FindLast.f l0 a1 = some (r1, r2, r3, r4, r5)) :
 Calls Try.prog 24 #[.slice A0 l0.length c0, .int .i64 a1] w fun e w' => e = .returned (.tuple #[.agg #[.int .i64 r1, .int .i64 r2, .int .i64 r3, .int .i64 r4], .bool r5]) ∧ Below w.heap.size w w' := by
 have hu := Try.underlying32
 refine (callsIn_wide (n := 3)).1 ?_
 have hak : ∀ w, CallsIn Fence.wide 2 Try.prog 43 #[.int .i64 a1] w fun e w' => e = .returned (.bool (addrB a1)) ∧ w = w' := fun w => callsIn_wide.2 (addrOk_any a1 w)
 unfold impl_FindLast.f at h
 have h := Option.some.inj h
 have b3 := Boxed.new w 3 (.int .i64 a1)
 have b4 : RecBox ((w.alloc (.cells #[.int .i64 a1] 3)).alloc (.cells #[.int .i64 0, .int .i64 0, .int .i64 0, .int .i64 0] 32)) (w.heap.size + 1) ⟨0, 0, 0, 0⟩ := by have := blk_new (w.alloc (.cells #[.int .i64 a1] 3)) (.cells #[.int .i64 0, .int .i64 0, .int .i64 0, .int .i64 0] 32); rw [World.size_alloc] at this; exact this
 replace b3 := b3.alloc (.cells #[.int .i64 0, .int .i64 0, .int .i64 0, .int .i64 0] 32)
 have hbw : Below w.heap.size w ((w.alloc (.cells #[.int .i64 a1] 3)).alloc (.cells #[.int .i64 0, .int .i64 0, .int .i64 0, .int .i64 0] 32)) := ((Below.refl _ w).alloc (Nat.le_refl _) _).alloc (by simp) _
 cases ha : addrB a1 with
 | false =>
  simp only [ha] at hak
  rw [ha, if_neg (by simp)] at h
  cases h
  refine callsIn_of_wp_marks Try.func24 rfl trivial ?_ rfl
  simp only [Try.ntmps24, List.size_toArray, List.length_cons, List.length_nil, Nat.reduceAdd, Nat.reduceSub, Array.replicate_succ, Array.replicate_zero, List.push_toArray, List.append_toArray, List.nil_append, List.cons_append]
  gi_wp2_with (first | (refine ⟨trivial, ?_⟩; gi_at_call 43; refine (hak _).mono ?_; rintro e w1 ⟨rfl, rfl⟩) | (refine And.intro (show Fence.wide.fn 18 from trivial) ?_))
  exact ⟨_, results_ct rfl _ _ (w.heap.size + 1) _ _ _ _ rfl b4 hu rfl (by kernel_rfl), rfl, hbw⟩
 | true =>
  simp only [ha] at hak
  have hok := callsIn_wide (n := 2).2 (impl_FlashOk.calls A0 c0 l0 _ _ (Kd.C_below hr0 hbw) hc0 rfl)
  cases hf : flashOkB l0 with
  | false =>
   rw [hf] at hok
   rw [hf, if_neg (by simp)] at h
   cases h
   refine callsIn_of_wp_marks Try.func24 rfl trivial ?_ rfl
   simp only [Try.ntmps24, List.size_toArray, List.length_cons, List.length_nil, Nat.reduceAdd, Nat.reduceSub, Array.replicate_succ, Array.replicate_zero, List.push_toArray, List.append_toArray, List.nil_append, List.cons_append]
   gi_wp2_with (first | (refine ⟨trivial, ?_⟩; gi_at_call 43; refine (hak _).mono ?_; rintro e w1 ⟨rfl, rfl⟩) | (refine ⟨trivial, ?_⟩; gi_at_call 18; refine hok.mono ?_; rintro e w1 ⟨rfl, hb⟩; have b4' : RecBox w1 (w.heap.size + 1) ⟨0, 0, 0, 0⟩ := blk_below b4 hb; obtain ⟨hq0, hq1, hq2, hq3⟩ := b4'.cells; have hg0 := b4'.frozen 0; have hg1 := b4'.frozen 1; have hg2 := b4'.frozen 2; have hg3 := b4'.frozen 3))
   exact ⟨_, results_ct rfl _ _ (w.heap.size + 1) _ _ _ _ rfl (b4'.put ⟨0, 0, 0, 0⟩) hu rfl (by kernel_rfl), rfl, below_set4 (below_then hbw hbw.size hb) (by omega) ⟨0, 0, 0, 0⟩⟩
  | true =>
   rw [hf] at hok
   rw [ha, hf, if_pos ⟨rfl, rfl⟩] at h
   refine callsIn_of_wp_marks Try.func24 rfl trivial ?_ rfl
   simp only [Try.ntmps24, List.size_toArray, List.length_cons, List.length_nil, Nat.reduceAdd, Nat.reduceSub, Array.replicate_succ, Array.replicate_zero, List.push_toArray, List.append_toArray, List.nil_append, List.cons_append]
   gi_wp2_with (first | (refine ⟨trivial, ?_⟩; gi_at_call 43; refine (hak _).mono ?_; rintro e w1 ⟨rfl, rfl⟩) | (refine ⟨trivial, ?_⟩; gi_at_call 18; refine hok.mono ?_; rintro e w1 ⟨rfl, hb⟩) | (refine ⟨trivial, ?_⟩; gi_at_call 21; refine (eachPage_in Fence.wide 2 trivial rfl _ _ _ _).mono ?_; rintro e w2 ⟨rfl, rfl⟩))
   have hs1 := hb.size
   simp only [World.size_alloc] at hs1
   have b3' : Boxed w1 w.heap.size 3 (.int .i64 a1) := blk_below b3 hb
   have b4' : RecBox w1 (w.heap.size + 1) ⟨0, 0, 0, 0⟩ := blk_below b4 hb
   have hbw1 := below_then hbw hbw.size hb
   have bL : RecBox (w1.alloc (.cells #[.int .i64 0, .int .i64 0, .int .i64 0, .int .i64 0] 32)) w1.heap.size ⟨0, 0, 0, 0⟩ := blk_new w1 _
   have bN := Boxed.new (w1.alloc (.cells #[.int .i64 0, .int .i64 0, .int .i64 0, .int .i64 0] 32)) 23 (.slice A0 l0.length c0)
   rw [World.size_alloc] at bN
   have bL2 : RecBox ((w1.alloc (.cells #[.int .i64 0, .int .i64 0, .int .i64 0, .int .i64 0] 32)).alloc (.cells #[.slice A0 l0.length c0] 23)) w1.heap.size ⟨0, 0, 0, 0⟩ := blk_alloc bL _
   have hB0 : Below w.heap.size w ((w1.alloc (.cells #[.int .i64 0, .int .i64 0, .int .i64 0, .int .i64 0] 32)).alloc (.cells #[.slice A0 l0.length c0] 23)) := (hbw1.alloc hbw1.size _).alloc (hbw1.alloc hbw1.size _).size _
   refine wpIn_rangeFunc_ownH (F := Fence.wide) rfl (by decide) (gf := 42) (lb := #[.pointer (some ⟨w1.heap.size + 1, 0, none⟩)]) rfl trivial (enters_of Try.func42 (by kernel_rfl) rfl)
    (eachPage_stops Fence.wide 2 trivial rfl (by decide) (fun _ => True) (w1.heap.size + 1) A0 c0 l0 w _ hr0 (fun _ _ => trivial) hB0 bN.cell) belowK_t (belowK_b hB0.size) (Below.refl _ _) (fun _ => rfl)
    (fun pre W => RecBox W w1.heap.size (lastOf a1 pre) ∧ Boxed W w.heap.size 3 (.int .i64 a1) ∧ RecBox W (w.heap.size + 1) ⟨0, 0, 0, 0⟩ ∧ Below w.heap.size w W) (fun _ _ _ => False)
    (OwnFrom.and (Own.from (RecBox.own _ _) _) (OwnFrom.and (Own.from (boxed_own _ _ _) _) (OwnFrom.and (Own.from (RecBox.own _ _) _) (ownFrom_below (Nat.le_refl _) hB0.size)))) (fun _ _ _ _ _ hs _ _ => hs)
    ⟨bL2, (b3'.alloc _).alloc _, blk_alloc (blk_alloc b4' _) _, hB0⟩
    (fun x a' W => ∃ Bx, w1.heap.size < Bx ∧ PageBox W Bx x.1.2.2 ∧ a' = { tmps := #[.slice A0 l0.length c0, .int .i64 a1, undef, .pointer (some ⟨w.heap.size, 0, none⟩), .pointer (some ⟨w.heap.size + 1, 0, none⟩), .bool false, .pointer (some ⟨w1.heap.size, 0, none⟩), undef, .pointer (some ⟨Bx, 0, none⟩), .int .i64 a1, .bool true, .bool false, .bool false, .slice A0 l0.length c0, .bool true, .bool false, .bool false, undef, .slice A0 l0.length c0, .func (.func 42) #[] #[.pointer (some ⟨w1.heap.size + 1, 0, none⟩)], .agg #[.int .i64 (x.1.1 : Int), .int .i64 (x.1.2.1 : Int)], .agg #[.int .i64 x.1.2.2.f0, .int .i64 x.1.2.2.f1.f0, .int .i64 x.1.2.2.f1.f1, .int .i64 x.1.2.2.f1.f2, .int .i64 x.1.2.2.f1.f3], undef, undef, undef, undef, undef, undef, undef, undef, undef, undef, undef, undef, undef, undef, undef, undef, undef, undef, undef, undef, undef, undef, undef, undef], defers := [] })
    (fun x a' s X Y row hs hg hr => by obtain ⟨Bx, h1, h2, h3⟩ := hs; exact ⟨Bx, h1, PageBox.own Bx _ _ () X Y row h2 hg hr, h3⟩) ?assign ?body ?done ?stop
   case assign =>
    rintro l pre x W K ⟨hbx, hb3, hb4, hB⟩ hK
    gi_wp2
    exact hK _ _ ((KeepsOthers.alloc _ _).from _) ((Below.refl _ W).alloc hB.size _) ⟨blk_alloc hbx _, hb3.alloc _, blk_alloc hb4 _, hB.alloc hB.size _⟩ ⟨W.heap.size, blk_lt hbx, blk_new W _, rfl⟩
   case body =>
    rintro l pre x a' W hl ⟨r, hr⟩ ⟨hbx, hb3, hb4, hB⟩ ⟨Bx, hBx, bX, rfl⟩ hlt
    obtain ⟨hc0_, hc1_, hc2_, hc3_, hc4_⟩ := bX.cells
    have hcl := hb3.cell
    obtain ⟨hq0, hq1, hq2, hq3⟩ := hbx.cells
    have hg0 := hbx.frozen 0
    have hg1 := hbx.frozen 1
    have hg2 := hbx.frozen 2
    have hg3 := hbx.frozen 3
    have hsn := lastOf_snoc a1 pre x
    unfold lastStep at hsn
    by_cases hs1 : x.1.2.2.f0 = 1
    rotate_left
    · have hs2 : (x.1.2.2.f0 == 1) = false := by simp [hs1]
      rw [if_neg (fun h => hs1 h.1)] at hsn
      gi_wp2
      exact ⟨KeepsFrom.refl _ _, Below.refl _ _, by rw [hsn]; exact hbx, hb3, hb4, hB⟩
    have hs2 : (x.1.2.2.f0 == 1) = true := by simp [hs1]
    by_cases ht1 : x.1.2.2.f1.f2 = a1
    rotate_left
    · have ht2 : (x.1.2.2.f1.f2 == a1) = false := by simp [ht1]
      rw [if_neg (fun h => ht1 h.2.1)] at hsn
      gi_wp2
      exact ⟨KeepsFrom.refl _ _, Below.refl _ _, by rw [hsn]; exact hbx, hb3, hb4, hB⟩
    have ht2 : (x.1.2.2.f1.f2 == a1) = true := by simp [ht1]
    by_cases hv1 : x.1.2.2.f1.f1 > (lastOf a1 pre).f1
    rotate_left
    · have hv2 : decide ((lastOf a1 pre).f1 < x.1.2.2.f1.f1) = false := decide_eq_false hv1
      rw [if_neg (fun h => hv1 h.2.2)] at hsn
      gi_wp2
      exact ⟨KeepsFrom.refl _ _, Below.refl _ _, by rw [hsn]; exact hbx, hb3, hb4, hB⟩
    have hv2 : decide ((lastOf a1 pre).f1 < x.1.2.2.f1.f1) = true := decide_eq_true hv1
    rw [if_pos ⟨hs1, ht1, hv1⟩] at hsn
    obtain ⟨q, hq, hq_⟩ : ∃ q : S32, q = ⟨x.1.2.2.f1.f0, x.1.2.2.f1.f1, a1, x.1.2.2.f1.f3⟩ ∧ x.1.2.2.f1 = q := ⟨_, rfl, by rw [← ht1]⟩
    rw [hq_] at hsn
    have ok1 : RecBox (set4 W w1.heap.size q) w1.heap.size (lastOf a1 (pre ++ [x])) := by rw [hsn]; exact RecBox.put hbx _
    have ok2 : Boxed (set4 W w1.heap.size q) w.heap.size 3 (.int .i64 a1) := Boxed.far4 hb3 (by omega) _
    have ok3 : RecBox (set4 W w1.heap.size q) (w.heap.size + 1) ⟨0, 0, 0, 0⟩ := RecBox.far hb4 (by omega) _
    have ok4 : Below w.heap.size w (set4 W w1.heap.size q) := below_set4 hB (by omega) _
    have ok5 : Below w.heap.size W (set4 W w1.heap.size q) := below_set4 (Below.refl _ W) (by omega) _
    have OK1 := am ok1
    have OK2 := am ok2
    have OK3 := am ok3
    have OK4 := am ok4
    have OK5 := am ok5
    have OK6 := am ((keeps_set4 W w1.heap.size q).from ((w1.alloc (.cells #[.int .i64 0, .int .i64 0, .int .i64 0, .int .i64 0] 32)).alloc (.cells #[.slice A0 l0.length c0] 23)).heap.size)
    subst hq
    clear ok1 ok2 ok3 ok4 ok5 hsn hq_
    gi_wp2
    exact ⟨OK6.out, OK5.out, OK1.out, OK2.out, OK3.out, OK4.out⟩
   case done =>
    rintro D ys W hD hys ⟨hbx, hb3, hb4, hB⟩ hK
    rw [lastOf_all hys] at hbx
    cases h
    obtain ⟨hq0, hq1, hq2, hq3⟩ := hbx.cells
    obtain ⟨ho0, ho1, ho2, ho3⟩ := hb4.cells
    have hg0 := hb4.frozen 0
    have hg1 := hb4.frozen 1
    have hg2 := hb4.frozen 2
    have hg3 := hb4.frozen 3
    gi_wp2
    gi_region
    gi_wp2
    have hbp : RecBox (set4 W (w.heap.size + 1) (lastA l0 a1)).drew (w.heap.size + 1) (lastA l0 a1) := RecBox.put hb4 _
    have hK' : (set4 W (w.heap.size + 1) (lastA l0 a1)).drew.heap[D]? = some (.deferred (some [])) := (keeps_set4 W (w.heap.size + 1) (lastA l0 a1)).same D _ hK rfl
    have hB' : Below w.heap.size w (set4 W (w.heap.size + 1) (lastA l0 a1)).drew := below_drew (below_set4 hB (by omega) _)
    refine ⟨by simp, .inl ⟨_, _, rfl, run_takeDeferred hK', ?_⟩⟩
    have hbq := RecBox.own (β := Unit) _ (fun _ => lastA l0 a1) () _ _ _ hbp (grownBy_putObj' _ D (.deferred none)) (fun r e => by cases e; exact ⟨_, hK', rfl⟩)
    exact ⟨_, results_ct rfl _ _ (w.heap.size + 1) _ _ _ _ rfl hbq hu rfl (by kernel_rfl), rfl, hB'.trans (belowK_b (w := w) (Nat.le_refl _) _ D _ _ (by have := hB0.size; omega) hK' rfl rfl)⟩
   case stop =>
    rintro D c pre W _ _ h _
    exact h.elim
end Go.Proofs.Ytenmnclkbleglaa.P2
namespace Go.Proofs.Ytenmnclkbleglaa.P2
open Go.RowKit Go.Proofs.YtenmnclkbleglaaW.PrintWords Go.Proofs.YtenmnclkbleglaaW.PrintLast Go.Proofs.YtenmnclkbleglaaW.PrintMore
attribute [local go_sem] max2_int min2_int max_two min_two max_three min_three max_four min_four
set_option linter.unusedVariables false
set_option linter.unusedSimpArgs false
attribute [local go_sem high] eqA32
def impl_FindLive.j0 : Nat → List (S42) → Int → Int → Bool → Option (Bool)
 | 0, _, _, _, _ => none
 | k + 1, x0, x1, x2, x25 => if x25 = true then (some false) else (if 0 ≤ x1 then (if x1 < (x0.length : Int) then (if 0 ≤ x2 then (if x2 < (((rd_T42 x0 x1).f0).length : Int) then (if ((rd_T39 ((rd_T42 x0 x1).f0) x2).f0) = 1 then ((impl_FindLast.f x0 ((rd_T39 ((rd_T42 x0 x1).f0) x2).f1.f2)).bind fun bt401 => (if bt401.2.2.2.2 = true then (some (bt401.1 == ((rd_T39 ((rd_T42 x0 x1).f0) x2).f1.f0) && (bt401.2.1 == ((rd_T39 ((rd_T42 x0 x1).f0) x2).f1.f1) && (bt401.2.2.1 == ((rd_T39 ((rd_T42 x0 x1).f0) x2).f1.f2) && (bt401.2.2.2.1 == ((rd_T39 ((rd_T42 x0 x1).f0) x2).f1.f3)))))) else (some false))) else (some false)) else (none)) else (none)) else (none)) else (none))
def impl_FindLive.f (k : Nat) (l0 : List (S42)) (a1 : Int) (a2 : Int) : Option (Bool) := (impl_FlashOk.f l0).bind fun t396 => (if t396 = true then ((impl_blockOk.f a1).bind fun t397 => (if t397 = true then (if a2 < 0 then (impl_FindLive.j0 k l0 a1 a2 true) else (impl_FindLive.j0 k l0 a1 a2 (decide (a2 ≥ 4)))) else (impl_FindLive.j0 k l0 a1 a2 true))) else (impl_FindLive.j0 k l0 a1 a2 true))
theorem impl_FindLive.calls (k : Nat) (A0 : Option Addr) (c0 : Nat) (l0 : List (S42)) (a1 : Int) (a2 : Int) (r : Bool) (w : World) (hr0 : Kd.C k42 w A0 l0.length l0) (hc0 : l0.length ≤ c0) (h : impl_FindLive.f k l0 a1 a2 = some r) :
 Calls Try.prog 10 #[.slice A0 l0.length c0, .int .i64 a1, .int .i64 a2] w fun e w' => e = .returned (.bool r) ∧ Below w.heap.size w w' := by
 have hu39 := Try.underlying39
 have hu32 := Try.underlying32
 have HR0 := am hr0
 have HC0 := am hc0
 clear hr0 hc0
 have HB := am (Below.refl w.heap.size w)
 have H : ((impl_FlashOk.f l0).bind fun t396 => (if t396 = true then ((impl_blockOk.f a1).bind fun t397 => (if t397 = true then (if a2 < 0 then (impl_FindLive.j0 k l0 a1 a2 true) else (impl_FindLive.j0 k l0 a1 a2 (decide (a2 ≥ 4)))) else (impl_FindLive.j0 k l0 a1 a2 true))) else (impl_FindLive.j0 k l0 a1 a2 true))) = some r := h
 clear h
 have HC4 := am H
 clear H
 go_enter Try.func10, Try.ntmps10
 go_upto_region 1 with (fail)
 go_cut [25] (fun v25 wc => ∃ (kq : Nat) (x25_3 : Bool), v25 = .bool x25_3 ∧ Aside0 (impl_FindLive.j0 kq l0 a1 a2 x25_3 = some r) ∧ Aside0 (kq ≤ k) ∧ Aside0 (Below w.heap.size w wc))
 case first =>
  have H := HC4.out
  clear HC4
  replace H := Option.bind_eq_some_iff.mp H
  obtain ⟨t396, A50, H⟩ := H
  have A5 := am A50
  clear A50
  by_cases c6 : t396 = true
  rotate_left
  · replace c6 := Bool.eq_false_iff.mpr c6
    subst c6
    rw [if_neg (show ¬ (false = true) by decide)] at H
    have H' := am H
    clear H
    go_wp2_with (first | (refine gl 11 Try.func18 #[.slice A0 l0.length c0] rfl ?_; (with_reducible refine (impl_FlashOk.calls _ _ l0 false _ ?side1 ?side2 A5.out).mono ?_); (case side1 => exact pc (Kd.C_below HR0.out HB.out)); (case side2 => exact HC0.out); rintro e w13 ⟨rfl, hb⟩; refine ⟨_, rfl, ?_⟩; replace HB := am (below_step (ph HB.out) hb); clear hb))
    go_meet
    case rel => exact ⟨_, (true), rf, H', ⟨by first | omega | exact Nat.le_refl _⟩, ⟨ph HB.out⟩⟩
  subst c6
  rw [if_pos rfl] at H
  replace H := Option.bind_eq_some_iff.mp H
  obtain ⟨t397, A70, H⟩ := H
  have A7 := am A70
  clear A70
  by_cases c8 : t397 = true
  rotate_left
  · replace c8 := Bool.eq_false_iff.mpr c8
    subst c8
    rw [if_neg (show ¬ (false = true) by decide)] at H
    have H' := am H
    clear H
    go_wp2_with (first | (refine gl 11 Try.func18 #[.slice A0 l0.length c0] rfl ?_; (with_reducible refine (impl_FlashOk.calls _ _ l0 true _ ?side1 ?side2 A5.out).mono ?_); (case side1 => exact pc (Kd.C_below HR0.out HB.out)); (case side2 => exact HC0.out); rintro e w12 ⟨rfl, hb⟩; refine ⟨_, rfl, ?_⟩; replace HB := am (below_step (ph HB.out) hb); clear hb) | (go_at_call 23; (with_reducible refine (impl_blockOk.calls a1 false _ A7.out).mono ?_); rintro e w' ⟨rfl, ⟨nd, rfl⟩⟩))
    go_meet
    case rel => exact ⟨_, (true), rf, H', ⟨by first | omega | exact Nat.le_refl _⟩, ⟨ph HB.out⟩⟩
  subst c8
  rw [if_pos rfl] at H
  by_cases c9 : a2 < 0
  · rw [if_pos c9] at H
    have c9b0 := decide_eq_true c9
    clear c9
    (first | rw [c9b0] | (simp only [i64_w, i32_w]; rw [c9b0]) | skip)
    have H' := am H
    clear H
    go_wp2_with (first | (refine gl 11 Try.func18 #[.slice A0 l0.length c0] rfl ?_; (with_reducible refine (impl_FlashOk.calls _ _ l0 true _ ?side1 ?side2 A5.out).mono ?_); (case side1 => exact pc (Kd.C_below HR0.out HB.out)); (case side2 => exact HC0.out); rintro e w10 ⟨rfl, hb⟩; refine ⟨_, rfl, ?_⟩; replace HB := am (below_step (ph HB.out) hb); clear hb) | (go_at_call 23; (with_reducible refine (impl_blockOk.calls a1 true _ A7.out).mono ?_); rintro e w' ⟨rfl, ⟨nd, rfl⟩⟩))
    go_meet
    case rel => exact ⟨_, (true), rf, H', ⟨by first | omega | exact Nat.le_refl _⟩, ⟨ph HB.out⟩⟩
  rw [if_neg c9] at H
  have c9b0 := decide_eq_false c9
  clear c9
  (first | rw [c9b0] | (simp only [i64_w, i32_w]; rw [c9b0]) | skip)
  have H' := am H
  clear H
  go_wp2_with (first | (refine gl 11 Try.func18 #[.slice A0 l0.length c0] rfl ?_; (with_reducible refine (impl_FlashOk.calls _ _ l0 true _ ?side1 ?side2 A5.out).mono ?_); (case side1 => exact pc (Kd.C_below HR0.out HB.out)); (case side2 => exact HC0.out); rintro e w11 ⟨rfl, hb⟩; refine ⟨_, rfl, ?_⟩; replace HB := am (below_step (ph HB.out) hb); clear hb) | (go_at_call 23; (with_reducible refine (impl_blockOk.calls a1 true _ A7.out).mono ?_); rintro e w' ⟨rfl, ⟨nd, rfl⟩⟩))
  go_meet
  case rel => exact ⟨_, (decide (a2 ≥ 4)), rf, H', ⟨by first | omega | exact Nat.le_refl _⟩, ⟨ph HB.out⟩⟩
 case rest =>
  clear HC4
  obtain ⟨kq, x25_3, rfl, HA, HJ3, HB⟩ := hcut
  cases kq with
  | zero => exact absurd HA.out (by simp [impl_FindLive.j0])
  | succ kj3 =>
   have H := HA.out
   clear HA
   simp only [impl_FindLive.j0] at H
   by_cases c14 : x25_3 = true
   · subst c14
     rw [if_pos rfl] at H
     obtain rfl := Option.some.inj H
     go_wp2
     go_ret
     exact (rq (ph HB.out))
   replace c14 := Bool.eq_false_iff.mpr c14
   subst c14
   rw [if_neg (show ¬ (false = true) by decide)] at H
   obtain ⟨c15b0, H⟩ := ifd H
   obtain ⟨c16b0, H⟩ := ifd H
   obtain ⟨c17b0, H⟩ := ifd H
   obtain ⟨c18b0, H⟩ := ifd H
   by_cases c19 : ((rd_T39 ((rd_T42 l0 a1).f0) a2).f0) = 1
   rotate_left
   · rw [if_neg c19] at H
     have c19b0 : (((rd_T39 ((rd_T42 l0 a1).f0) a2).f0) == 1) = false := beq_eq_false_iff_ne.mpr c19
     have c19b1 : (((rd_T39 ((rd_T42 l0 a1).f0) a2).f0) != 1) = true := bne_iff_ne.mpr c19
     obtain rfl := Option.some.inj H
     have p398 : 0 ≤ (a1 : Int) := ofb
     have q398 : a1 < (l0.length : Int) := ofb
     obtain ⟨ad398, A398_0, c398_0, e398, hx398_0, hx398_1, hl398_0, hi398_0⟩ := at_T42 HR0.out a1 p398 q398
     cases e398
     replace hx398_0 := up HB.out hx398_0
     replace hx398_1 := up HB.out hx398_1
     have HR398_0 := am hi398_0
     have HC398_0 := am hl398_0
     clear hi398_0 hl398_0
     replace p398 := eq_true p398
     replace q398 := eq_true q398
     have p399 : 0 ≤ (a2 : Int) := ofb
     have q399 : a2 < (((rd_T42 l0 a1).f0).length : Int) := ofb
     obtain ⟨ad399, e399, hx399_0, hx399_1, hx399_2, hx399_3, hx399_4⟩ := at_T39 HR398_0.out a2 p399 q399
     cases e399
     replace hx399_0 := up HB.out hx399_0
     replace hx399_1 := up HB.out hx399_1
     replace hx399_2 := up HB.out hx399_2
     replace hx399_3 := up HB.out hx399_3
     replace hx399_4 := up HB.out hx399_4
     replace p399 := eq_true p399
     replace q399 := eq_true q399
     go_wp2_with (first | (refine bx 7 #[.int .i64 0, .int .i64 0, .int .i64 0, .int .i64 0, .int .i64 0] 39 rfl ?_; intro gb400 hg w35 hbox hb; have BK400 := am (hbox); have GW400 := am (ge hg (ph HB.out)); have GE400 := GW400; replace HB := am (below_step (ph HB.out) hb); clear hb hbox hg; obtain ⟨hcz36_0, hcz36_1, hcz36_2, hcz36_3, hcz36_4⟩ := b5 BK400.out; obtain ⟨hfz36_0, hfz36_1, hfz36_2, hfz36_3, hfz36_4⟩ := f5 BK400.out))
     go_ret
     exact (rq (bg1 HB.out GE400.out))
   rw [if_pos c19] at H
   have c19b0 : (((rd_T39 ((rd_T42 l0 a1).f0) a2).f0) == 1) = true := beq_iff_eq.mpr c19
   have c19b1 : (((rd_T39 ((rd_T42 l0 a1).f0) a2).f0) != 1) = false := bne_eq_false_iff_eq.mpr c19
   clear c19
   replace H := Option.bind_eq_some_iff.mp H
   obtain ⟨⟨t401, t402, t403, t404, t405⟩, A200, H⟩ := H
   have A20 := am A200
   clear A200
   by_cases c21 : t405 = true
   rotate_left
   · replace c21 := Bool.eq_false_iff.mpr c21
     subst c21
     rw [if_neg (show ¬ (false = true) by decide)] at H
     obtain rfl := Option.some.inj H
     have p398 : 0 ≤ (a1 : Int) := ofb
     have q398 : a1 < (l0.length : Int) := ofb
     obtain ⟨ad398, A398_0, c398_0, e398, hx398_0, hx398_1, hl398_0, hi398_0⟩ := at_T42 HR0.out a1 p398 q398
     cases e398
     replace hx398_0 := up HB.out hx398_0
     replace hx398_1 := up HB.out hx398_1
     have HR398_0 := am hi398_0
     have HC398_0 := am hl398_0
     clear hi398_0 hl398_0
     replace p398 := eq_true p398
     replace q398 := eq_true q398
     have p399 : 0 ≤ (a2 : Int) := ofb
     have q399 : a2 < (((rd_T42 l0 a1).f0).length : Int) := ofb
     obtain ⟨ad399, e399, hx399_0, hx399_1, hx399_2, hx399_3, hx399_4⟩ := at_T39 HR398_0.out a2 p399 q399
     cases e399
     replace hx399_0 := up HB.out hx399_0
     replace hx399_1 := up HB.out hx399_1
     replace hx399_2 := up HB.out hx399_2
     replace hx399_3 := up HB.out hx399_3
     replace hx399_4 := up HB.out hx399_4
     replace p399 := eq_true p399
     replace q399 := eq_true q399
     go_wp2_with (first | (refine bx 7 #[.int .i64 0, .int .i64 0, .int .i64 0, .int .i64 0, .int .i64 0] 39 rfl ?_; intro gb400 hg w29 hbox hb; have BK400 := am (hbox); have GW400 := am (ge hg (ph HB.out)); have GE400 := GW400; replace HB := am (below_step (ph HB.out) hb); clear hb hbox hg; obtain ⟨hcz30_0, hcz30_1, hcz30_2, hcz30_3, hcz30_4⟩ := b5 BK400.out; obtain ⟨hfz30_0, hfz30_1, hfz30_2, hfz30_3, hfz30_4⟩ := f5 BK400.out) | (refine gl 42 Try.func24 #[.slice (some ad398) l0.length c0, .int .i64 ((rd_T39 ((rd_T42 l0 a1).f0) a2).f1.f2)] rfl ?_; (with_reducible refine (impl_FindLast.calls _ _ l0 ((rd_T39 ((rd_T42 l0 a1).f0) a2).f1.f2) t401 t402 t403 t404 false _ ?side1 ?side2 A20.out).mono ?_); (case side1 => exact Kd.C_below HR0.out (bg1 HB.out GE400.out)); (case side2 => exact HC0.out); rintro e w31 ⟨rfl, hb⟩; refine ⟨_, rfl, ?_⟩; replace BK400 := am (blk_below (bp5 (pb BK400.out)) hb); replace HB := am (below_step (bg1 HB.out GE400.out) hb); clear hb) | (refine bx 8 #[.int .i64 0, .int .i64 0, .int .i64 0, .int .i64 0] 32 rfl ?_; intro gb406 hg w32 hbox hb; have BK406 := am (hbox); have GW406 := am (ge hg (bg1 HB.out GE400.out)); have GE406 := GW406; replace HB := am (below_step (bg1 HB.out GE400.out) hb); have NB400_406 := am (nb hg (pb BK400.out)); have NB406_400 := am (Ne.symm NB400_406.out); replace BK400 := am (blk_below (pb BK400.out) hb); clear hb hbox hg; have hnb33 := NB406_400.out; have hnc33 := NB400_406.out; obtain ⟨hcz34_0, hcz34_1, hcz34_2, hcz34_3⟩ := b4 BK406.out; obtain ⟨hfz34_0, hfz34_1, hfz34_2, hfz34_3⟩ := f4 BK406.out))
     go_ret
     exact (rq (bg2 HB.out GE400.out GE406.out))
   subst c21
   rw [if_pos rfl] at H
   obtain rfl := Option.some.inj H
   have p398 : 0 ≤ (a1 : Int) := ofb
   have q398 : a1 < (l0.length : Int) := ofb
   obtain ⟨ad398, A398_0, c398_0, e398, hx398_0, hx398_1, hl398_0, hi398_0⟩ := at_T42 HR0.out a1 p398 q398
   cases e398
   replace hx398_0 := up HB.out hx398_0
   replace hx398_1 := up HB.out hx398_1
   have HR398_0 := am hi398_0
   have HC398_0 := am hl398_0
   clear hi398_0 hl398_0
   replace p398 := eq_true p398
   replace q398 := eq_true q398
   have p399 : 0 ≤ (a2 : Int) := ofb
   have q399 : a2 < (((rd_T42 l0 a1).f0).length : Int) := ofb
   obtain ⟨ad399, e399, hx399_0, hx399_1, hx399_2, hx399_3, hx399_4⟩ := at_T39 HR398_0.out a2 p399 q399
   cases e399
   replace hx399_0 := up HB.out hx399_0
   replace hx399_1 := up HB.out hx399_1
   replace hx399_2 := up HB.out hx399_2
   replace hx399_3 := up HB.out hx399_3
   replace hx399_4 := up HB.out hx399_4
   replace p399 := eq_true p399
   replace q399 := eq_true q399
   go_wp2_with (first | (refine bx 7 #[.int .i64 0, .int .i64 0, .int .i64 0, .int .i64 0, .int .i64 0] 39 rfl ?_; intro gb400 hg w22 hbox hb; have BK400 := am (hbox); have GW400 := am (ge hg (ph HB.out)); have GE400 := GW400; replace HB := am (below_step (ph HB.out) hb); clear hb hbox hg; obtain ⟨hcz23_0, hcz23_1, hcz23_2, hcz23_3, hcz23_4⟩ := b5 BK400.out; obtain ⟨hfz23_0, hfz23_1, hfz23_2, hfz23_3, hfz23_4⟩ := f5 BK400.out) | (refine gl 42 Try.func24 #[.slice (some ad398) l0.length c0, .int .i64 ((rd_T39 ((rd_T42 l0 a1).f0) a2).f1.f2)] rfl ?_; (with_reducible refine (impl_FindLast.calls _ _ l0 ((rd_T39 ((rd_T42 l0 a1).f0) a2).f1.f2) t401 t402 t403 t404 true _ ?side1 ?side2 A20.out).mono ?_); (case side1 => exact Kd.C_below HR0.out (bg1 HB.out GE400.out)); (case side2 => exact HC0.out); rintro e w24 ⟨rfl, hb⟩; refine ⟨_, rfl, ?_⟩; replace BK400 := am (blk_below (bp5 (pb BK400.out)) hb); replace HB := am (below_step (bg1 HB.out GE400.out) hb); clear hb) | (refine bx 8 #[.int .i64 0, .int .i64 0, .int .i64 0, .int .i64 0] 32 rfl ?_; intro gb406 hg w25 hbox hb; have BK406 := am (hbox); have GW406 := am (ge hg (bg1 HB.out GE400.out)); have GE406 := GW406; replace HB := am (below_step (bg1 HB.out GE400.out) hb); have NB400_406 := am (nb hg (pb BK400.out)); have NB406_400 := am (Ne.symm NB400_406.out); replace BK400 := am (blk_below (pb BK400.out) hb); clear hb hbox hg; have hnb26 := NB406_400.out; have hnc26 := NB400_406.out; obtain ⟨hcz27_0, hcz27_1, hcz27_2, hcz27_3⟩ := b4 BK406.out; obtain ⟨hfz27_0, hfz27_1, hfz27_2, hfz27_3⟩ := f4 BK406.out; have hcz28_0 : w25.cell? ⟨gb400, 0, none⟩ = some (.int .i64 ((rd_T39 ((rd_T42 l0 a1).f0) a2).f0)) := (blk_cell BK400.out 0).trans rfl; have hcz28_1 : w25.cell? ⟨gb400, 1, none⟩ = some (.int .i64 ((rd_T39 ((rd_T42 l0 a1).f0) a2).f1.f0)) := (blk_cell BK400.out 1).trans rfl; have hcz28_2 : w25.cell? ⟨gb400, 2, none⟩ = some (.int .i64 ((rd_T39 ((rd_T42 l0 a1).f0) a2).f1.f1)) := (blk_cell BK400.out 2).trans rfl; have hcz28_3 : w25.cell? ⟨gb400, 3, none⟩ = some (.int .i64 ((rd_T39 ((rd_T42 l0 a1).f0) a2).f1.f2)) := (blk_cell BK400.out 3).trans rfl; have hcz28_4 : w25.cell? ⟨gb400, 4, none⟩ = some (.int .i64 ((rd_T39 ((rd_T42 l0 a1).f0) a2).f1.f3)) := (blk_cell BK400.out 4).trans rfl; obtain ⟨hfz28_0, hfz28_1, hfz28_2, hfz28_3, hfz28_4⟩ := f5 BK400.out))
   go_ret
   exact (rq (bg2 HB.out GE400.out GE406.out))
def impl_Rec_isDirty.f (a0_0 : Int) (a0_1 : Int) (a0_2 : Int) (a0_3 : Int) : Option (Bool) := some (a0_0 == 1)
theorem impl_Rec_isDirty.calls (a0_0 : Int) (a0_1 : Int) (a0_2 : Int) (a0_3 : Int) (r : Bool) (w : World) (h : impl_Rec_isDirty.f a0_0 a0_1 a0_2 a0_3 = some r) :
 Calls Try.prog 30 #[.agg #[.int .i64 a0_0, .int .i64 a0_1, .int .i64 a0_2, .int .i64 a0_3]] w fun e w' => e = .returned (.bool r) ∧ Below w.heap.size w w' := by
 have hu32 := Try.underlying32
 have HB := am (Below.refl w.heap.size w)
 have H : (some (a0_0 == 1)) = some r := h
 clear h
 obtain rfl := Option.some.inj H
 go_enter Try.func30, Try.ntmps30
 go_wp2_with (first | (refine bx 1 #[.int .i64 a0_0, .int .i64 a0_1, .int .i64 a0_2, .int .i64 a0_3] 32 rfl ?_; intro gb407 hg w2 hbox hb; have BK407 := am (hbox); have GW407 := am (ge hg (ph HB.out)); have GE407 := GW407; replace HB := am (below_step (ph HB.out) hb); clear hb hbox hg; obtain ⟨hcz3_0, hcz3_1, hcz3_2, hcz3_3⟩ := b4 BK407.out; obtain ⟨hfz3_0, hfz3_1, hfz3_2, hfz3_3⟩ := f4 BK407.out))
 go_ret
 exact (rq (bg1 HB.out GE407.out))
def impl_diskStep.f (a0_0 : Int) (a0_1 : Int) (a0_2 : Int) (a0_3 : Int) : Option (Int × Int × Int × Int × Int × Int × Int × Int) := some (1, a0_2, a0_3, 0, 0, 0, 0, 0)
theorem impl_diskStep.calls (a0_0 : Int) (a0_1 : Int) (a0_2 : Int) (a0_3 : Int) (r1 : Int) (r2 : Int) (r3 : Int) (r4 : Int) (r5 : Int) (r6 : Int) (r7 : Int) (r8 : Int) (w : World) (h : impl_diskStep.f a0_0 a0_1 a0_2 a0_3 = some (r1, r2, r3, r4, r5, r6, r7, r8)) :
 Calls Try.prog 33 #[.agg #[.int .i64 a0_0, .int .i64 a0_1, .int .i64 a0_2, .int .i64 a0_3]] w fun e w' => e = .returned (.agg #[.int .i64 r1, .int .i64 r2, .int .i64 r3, .int .i64 r4, .int .i64 r5, .int .i64 r6, .int .i64 r7, .int .i64 r8]) ∧ Below w.heap.size w w' := by
 have hu32 := Try.underlying32
 have hu34 := Try.underlying34
 have HB := am (Below.refl w.heap.size w)
 have H : (some (1, a0_2, a0_3, 0, 0, 0, 0, 0)) = some (r1, r2, r3, r4, r5, r6, r7, r8) := h
 clear h
 simp only [Option.some.injEq, Prod.mk.injEq] at H
 obtain ⟨rfl, rfl, rfl, rfl, rfl, rfl, rfl, rfl⟩ := H
 go_enter Try.func33, Try.ntmps33
 go_wp2_with (first | (refine bx 1 #[.int .i64 a0_0, .int .i64 a0_1, .int .i64 a0_2, .int .i64 a0_3] 32 rfl ?_; intro gb408 hg w2 hbox hb; have BK408 := am (hbox); have GW408 := am (ge hg (ph HB.out)); have GE408 := GW408; replace HB := am (below_step (ph HB.out) hb); clear hb hbox hg) | (refine bx 2 #[.int .i64 0, .int .i64 0, .int .i64 0, .int .i64 0, .int .i64 0, .int .i64 0, .int .i64 0, .int .i64 0] 34 rfl ?_; intro gb409 hg w3 hbox hb; have BK409 := am (hbox); have GW409 := am (ge hg (bg1 HB.out GE408.out)); have GE409 := GW409; replace HB := am (below_step (bg1 HB.out GE408.out) hb); have NB408_409 := am (nb hg (pb BK408.out)); have NB409_408 := am (Ne.symm NB408_409.out); replace BK408 := am (blk_below (pb BK408.out) hb); clear hb hbox hg; have hnb4 := NB408_409.out; have hnc4 := NB409_408.out; obtain ⟨hcz5_0, hcz5_1, hcz5_2, hcz5_3⟩ := b4 BK408.out; obtain ⟨hfz5_0, hfz5_1, hfz5_2, hfz5_3⟩ := f4 BK408.out; obtain ⟨hcz6_0, hcz6_1, hcz6_2, hcz6_3, hcz6_4, hcz6_5, hcz6_6, hcz6_7⟩ := b8 BK409.out; obtain ⟨hfz6_0, hfz6_1, hfz6_2, hfz6_3, hfz6_4, hfz6_5, hfz6_6, hfz6_7⟩ := f8 BK409.out))
 refine bodyPost_ret (results_cell_row rfl _ _ gb409 34 #[.int .i64 1, .int .i64 a0_2, .int .i64 a0_3, .int .i64 0, .int .i64 0, .int .i64 0, .int .i64 0, .int .i64 0] (0, 0) _ rfl (by (with_reducible repeat (first | refine blk_drewN ?_ _ | refine blk_drew ?_ | refine blk_alloc ?_ _)); refine blk_put (cs := #[.int .i64 1, .int .i64 a0_2, .int .i64 a0_3, .int .i64 0, .int .i64 0, .int .i64 0, .int .i64 0, .int .i64 0]) ?_ 7 _ rfl; (with_reducible repeat (first | refine blk_drewN ?_ _ | refine blk_drew ?_ | refine blk_alloc ?_ _)); refine blk_put (cs := #[.int .i64 1, .int .i64 a0_2, .int .i64 a0_3, .int .i64 0, .int .i64 0, .int .i64 0, .int .i64 0, .int .i64 0]) ?_ 6 _ rfl; (with_reducible repeat (first | refine blk_drewN ?_ _ | refine blk_drew ?_ | refine blk_alloc ?_ _)); refine blk_put (cs := #[.int .i64 1, .int .i64 a0_2, .int .i64 a0_3, .int .i64 0, .int .i64 0, .int .i64 0, .int .i64 0, .int .i64 0]) ?_ 5 _ rfl; (with_reducible repeat (first | refine blk_drewN ?_ _ | refine blk_drew ?_ | refine blk_alloc ?_ _)); refine blk_put (cs := #[.int .i64 1, .int .i64 a0_2, .int .i64 a0_3, .int .i64 0, .int .i64 0, .int .i64 0, .int .i64 0, .int .i64 0]) ?_ 4 _ rfl; (with_reducible repeat (first | refine blk_drewN ?_ _ | refine blk_drew ?_ | refine blk_alloc ?_ _)); refine blk_put (cs := #[.int .i64 1, .int .i64 a0_2, .int .i64 a0_3, .int .i64 0, .int .i64 0, .int .i64 0, .int .i64 0, .int .i64 0]) ?_ 3 _ rfl; (with_reducible repeat (first | refine blk_drewN ?_ _ | refine blk_drew ?_ | refine blk_alloc ?_ _)); refine blk_put (cs := #[.int .i64 1, .int .i64 a0_2, .int .i64 0, .int .i64 0, .int .i64 0, .int .i64 0, .int .i64 0, .int .i64 0]) ?_ 2 _ rfl; (with_reducible repeat (first | refine blk_drewN ?_ _ | refine blk_drew ?_ | refine blk_alloc ?_ _)); refine blk_put (cs := #[.int .i64 1, .int .i64 0, .int .i64 0, .int .i64 0, .int .i64 0, .int .i64 0, .int .i64 0, .int .i64 0]) ?_ 1 _ rfl; (with_reducible repeat (first | refine blk_drewN ?_ _ | refine blk_drew ?_ | refine blk_alloc ?_ _)); refine blk_put (cs := #[.int .i64 0, .int .i64 0, .int .i64 0, .int .i64 0, .int .i64 0, .int .i64 0, .int .i64 0, .int .i64 0]) ?_ 0 _ rfl; (with_reducible repeat (first | refine blk_drewN ?_ _ | refine blk_drew ?_ | refine blk_alloc ?_ _)); exact BK409.out) Try.underlying34 rfl (by kernel_rfl)) rfl ?_
 exact (rq (bg2 HB.out GE408.out GE409.out))
end Go.Proofs.Ytenmnclkbleglaa.P2
