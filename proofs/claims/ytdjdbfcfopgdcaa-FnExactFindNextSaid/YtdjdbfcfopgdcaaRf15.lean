-- printed by wip/pp/pp.py
import Derived.Test.YtdjdbfcfopgdcaaRf0
import Derived.Test.YtdjdbfcfopgdcaaRf6
import Derived.Test.YtdjdbfcfopgdcaaRf12
import Derived.Test.YtdjdbfcfopgdcaaRf14
namespace Go.Proofs.Ytdjdbfcfopgdcaa.Rf
open Go.RowKit Go.Proofs.YtdjdbfcfopgdcaaW.PrintWords Go.Proofs.YtdjdbfcfopgdcaaW.PrintLast Go.Proofs.YtdjdbfcfopgdcaaW.PrintMore
attribute [local go_sem] max2_int min2_int max_two min_two max_three min_three max_four min_four   -- for this text's walks alone
set_option linter.unusedVariables false
set_option linter.unusedSimpArgs false

-- ALONE
attribute [local go_sem] Oper.semAt_some
def stepNext (m : Int) (p : S91) : Int := if p.f0 = 1 then mx m p.f1.f1 else m
def impl_FindNext.f (l0 : List (S89)) : Option (Int) := some (if flashOkB l0 = true then wrap64 ((pagesL l0).foldl stepNext 0 + 1) else 0)
def nextOf (pre : List AnyPage) : Int := pre.foldl (fun m x => stepNext m x.1.2.2) 0
theorem nextOf_snoc (pre : List AnyPage) (x : AnyPage) : nextOf (pre ++ [x]) = stepNext (nextOf pre) x.1.2.2 := by simp [nextOf]
theorem nextOf_all {ys : List AnyPage} {l0 : List S89} (h : ys.map (·.1) = spotsF 0 l0) : nextOf ys = (pagesL l0).foldl stepNext 0 := by
  unfold nextOf pagesL
  rw [← h, List.foldl_map, List.foldl_map]
set_option maxRecDepth 100000 in
set_option maxHeartbeats 4000000 in
theorem impl_FindNext.calls (A0 : Option Addr) (c0 : Nat) (l0 : List (S89)) (r : Int) (w : World) (hr0 : Kd.C k89 w A0 l0.length l0) (hc0 : l0.length ≤ c0) (h : impl_FindNext.f l0 = some r) :
    Calls Try.prog 37 #[.slice A0 l0.length c0] w fun e w' => e = .returned (.int .i64 r) ∧ Below w.heap.size w w' := by
  obtain rfl := Option.some.inj h
  clear h
  refine (callsIn_wide (n := 3)).1 ?_
  have hok := callsIn_wide (n := 2).2 (impl_FlashOk.calls A0 c0 l0 _ w hr0 hc0 rfl)
  cases hf : flashOkB l0 with
  | false =>
    refine callsIn_of_wp_marks Try.func37 rfl trivial ?_ rfl
    simp only [Try.ntmps37, List.size_toArray, List.length_cons, List.length_nil, Nat.reduceAdd, Nat.reduceSub, Array.replicate_succ, Array.replicate_zero, List.push_toArray, List.append_toArray, List.nil_append, List.cons_append]
    rw [hf] at hok
    gi_wp2_with (first | (refine ⟨trivial, ?_⟩; gi_at_call 29; refine hok.mono ?_; rintro e w1 ⟨rfl, hb⟩))
    exact ⟨_, results_tmp rfl _ _ _, rfl, hb⟩
  | true =>
    refine callsIn_of_wp_marks Try.func37 rfl trivial ?_ rfl
    simp only [Try.ntmps37, List.size_toArray, List.length_cons, List.length_nil, Nat.reduceAdd, Nat.reduceSub, Array.replicate_succ, Array.replicate_zero, List.push_toArray, List.append_toArray, List.nil_append, List.cons_append]
    rw [hf] at hok
    gi_wp2_with (first | (refine ⟨trivial, ?_⟩; gi_at_call 29; refine hok.mono ?_; rintro e w1 ⟨rfl, hb⟩) | (refine ⟨trivial, ?_⟩; gi_at_call 91; refine (eachPage_in Fence.wide 2 trivial rfl _ _ _ _).mono ?_; rintro e w2 ⟨rfl, rfl⟩))
    have bL := Boxed.new w1 3 (.int .i64 0)
    have bN := Boxed.new (w1.alloc (.cells #[.int .i64 0] 3)) 35 (.slice A0 l0.length c0)
    rw [World.size_alloc] at bN
    have bL2 := bL.alloc (.cells #[.slice A0 l0.length c0] 35)
    have hB0 : Below w.heap.size w ((w1.alloc (.cells #[.int .i64 0] 3)).alloc (.cells #[.slice A0 l0.length c0] 35)) := (hb.alloc hb.size _).alloc (hb.alloc hb.size _).size _
    refine wpIn_rangeFunc_ownH (F := Fence.wide) rfl (by decide) (gf := 121) (lb := #[.pointer (some ⟨w1.heap.size + 1, 0, none⟩)]) rfl trivial (enters_of Try.func121 (by kernel_rfl) rfl)
      (eachPage_stops Fence.wide 2 trivial rfl (by decide) (fun _ => True) (w1.heap.size + 1) A0 c0 l0 w _ hr0 (fun _ _ => trivial) hB0 bN.cell) belowK_t (belowK_b hB0.size) (Below.refl _ _) (fun _ => rfl)
      (fun pre W => Boxed W w1.heap.size 3 (.int .i64 (nextOf pre)) ∧ Below w.heap.size w W) (fun _ _ _ => False)
      (OwnFrom.and (Own.from (boxed_own _ _ _) _) (ownFrom_below (Nat.le_refl _) hB0.size)) (fun _ _ _ _ _ hs _ _ => hs) ⟨bL2, hB0⟩
      (fun x a' W => ∃ Bx, w1.heap.size < Bx ∧ PageBox W Bx x.1.2.2 ∧ a' = { tmps := #[.slice A0 l0.length c0, undef, .int .i64 0, .pointer (some ⟨w1.heap.size, 0, none⟩), undef, .pointer (some ⟨Bx, 0, none⟩), .slice A0 l0.length c0, .bool true, .bool false, .slice A0 l0.length c0, .func (.func 121) #[] #[.pointer (some ⟨w1.heap.size + 1, 0, none⟩)], .agg #[.int .i64 (x.1.1 : Int), .int .i64 (x.1.2.1 : Int)], .agg #[.int .i64 x.1.2.2.f0, .int .i64 x.1.2.2.f1.f0, .int .i64 x.1.2.2.f1.f1, .int .i64 x.1.2.2.f1.f2, .int .i64 x.1.2.2.f1.f3], undef, undef, undef, undef, undef, undef, undef, undef, undef, undef], defers := [] })
      (fun x a' s X Y row hs hg hr => by obtain ⟨Bx, h1, h2, h3⟩ := hs; exact ⟨Bx, h1, PageBox.own Bx _ _ () X Y row h2 hg hr, h3⟩) ?assign ?body ?done ?stop
    case assign =>
      rintro l pre x W K ⟨hbx, hB⟩ hK
      gi_wp2
      exact hK _ _ ((KeepsOthers.alloc _ _).from _) ((Below.refl _ W).alloc hB.size _) ⟨hbx.alloc _, hB.alloc hB.size _⟩ ⟨W.heap.size, hbx.lt, blk_new W _, rfl⟩
    case body =>
      rintro l pre x a' W hl ⟨r, hr⟩ ⟨hbx, hB⟩ ⟨Bx, hBx, bX, rfl⟩ hlt
      obtain ⟨hc0_, hc1_, hc2_, hc3_, hc4_⟩ := bX.cells
      have hcl := hbx.cell
      have hfl := hbx.frozen
      have hsn := nextOf_snoc pre x
      by_cases hs1 : x.1.2.2.f0 = 1
      rotate_left
      · have hs2 : (x.1.2.2.f0 == 1) = false := by simp [hs1]
        rw [stepNext, if_neg hs1] at hsn
        gi_wp2
        exact ⟨KeepsFrom.refl _ _, Below.refl _ _, by rw [hsn]; exact hbx, hB⟩
      have hs2 : (x.1.2.2.f0 == 1) = true := by simp [hs1]
      rw [stepNext, if_pos hs1] at hsn
      gi_wp2
      all_goals
        refine ⟨(KeepsOthers.setCell _ _ _).from _, (Below.refl _ W).setCell (p := ⟨w1.heap.size, 0, none⟩) hb.size _, ?_, hB.setCell (p := ⟨w1.heap.size, 0, none⟩) hb.size _⟩
        rw [hsn]
        unfold mx
        first
          | (rw [if_pos (by omega)]; exact hbx.set _)
          | (rw [if_neg (by omega)]; exact hbx.set _)
    case done =>
      rintro D ys W hD hys ⟨hbx, hB⟩ hK
      have hcl := hbx.cell
      gi_wp2
      refine ⟨by simp, .inl ⟨_, _, rfl, run_takeDeferred hK, ?_⟩⟩
      exact ⟨_, results_tmp rfl _ _ _, by rw [← nextOf_all hys]; rfl, hB.trans (belowK_b (w := w) (Nat.le_refl _) W D _ _ (by have := hB0.size; omega) hK rfl rfl)⟩
    case stop =>
      rintro D c pre W _ _ h _
      exact h.elim

end Go.Proofs.Ytdjdbfcfopgdcaa.Rf
