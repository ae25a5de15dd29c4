-- printed by wip/pp/pp.py
import Derived.Test.YtghmnlcmhpdcaaaR50
import Derived.Test.YtghmnlcmhpdcaaaR510
import Derived.Test.YtghmnlcmhpdcaaaR514
import Derived.Test.YtghmnlcmhpdcaaaR511
import Derived.RangeFuncNested
import Derived.RangeFuncBound
import Derived.RangeFuncCalls
import Derived.RangeFuncLeaves
import Derived.Shelf.Abstract
import Derived.WalkKit
import Derived.OwnWalkIn
import Derived.TacticsInMore
import Derived.LoopNIn
import Derived.LoopIn
import Derived.IntWalk
import Derived.Test.YtghmnlcmhpdcaaaWMap
import Derived.Maps.OwnOps
import Derived.Maps.Own
import Derived.Maps.OwnIn
import Derived.WalkArith
import Derived.Laws.MakeOwn
namespace Go.Proofs.Ytghmnlcmhpdcaaa.R5
open Go.RowKit Go.Proofs.YtghmnlcmhpdcaaaW.PrintWords Go.Proofs.YtghmnlcmhpdcaaaW.PrintLast Go.Proofs.YtghmnlcmhpdcaaaW.PrintMore
attribute [local go_sem] max2_int min2_int max_two min_two max_three min_three max_four min_four
set_option linter.unusedVariables false
set_option linter.unusedSimpArgs false
theorem below_set5 {B gi : Nat} {w W : World} (h : Below B w W) (hg : B ≤ gi) (a b c d e : Nat) (u1 u2 u3 u4 u5 : Value) : Below B w (((((W.setCell ⟨gi, a, none⟩ u1).setCell ⟨gi, b, none⟩ u2).setCell ⟨gi, c, none⟩ u3).setCell ⟨gi, d, none⟩ u4).setCell ⟨gi, e, none⟩ u5) :=
 ((((h.setCell (p := ⟨gi, a, none⟩) hg _).setCell (p := ⟨gi, b, none⟩) hg _).setCell (p := ⟨gi, c, none⟩) hg _).setCell (p := ⟨gi, d, none⟩) hg _).setCell (p := ⟨gi, e, none⟩) hg _
set_option maxHeartbeats 8000000 in
set_option maxRecDepth 100000 in
theorem impl_FlashWrite.good (K : Nat) (A0 : Option Addr) (c0 : Nat) (l0 : List S54) (b r0 r1 r2 r3 n : Int) (tn u : Bool) (w : World) (hr0 : Kd.C k54 w A0 l0.length l0) (hc0 : l0.length ≤ c0) (hf : flashOkB l0 = true) (hlen : l0.length = 4) (hall : ∀ x ∈ l0, x.f0.length = 4)
 (hb : 0 ≤ b ∧ b < 4) (hrec : recOkB r0 r1 r2 r3 = true) (hp : (rd_T54 l0 b).f0.length = 4) (hn : impl_freePages.f K (rd_T54 l0 b).f0 (rd_T54 l0 b).f1 = some n) (hn0 : 0 ≤ n ∧ n ≤ 4) (hu0 : impl_seqUsed.f K l0 r1 = some u) :
 Calls Try.prog 10 #[.slice A0 l0.length c0, .int .i64 b, .agg #[.int .i64 r0, .int .i64 r1, .int .i64 r2, .int .i64 r3], .bool tn] w fun e w' => ∃ v, e = .returned (.tuple #[v, .bool (okFW n u)]) ∧ Kd.S kb_ 54 w' w.heap.size (fun k => w.heap.size ≤ k) v (outFW l0 b n u (pageFW r0 r1 r2 r3 tn)) ∧ Below w.heap.size w w' := by
 have hu := Try.underlying37
 have hu2 := Try.underlying54
 have hu3 := Try.underlying63
 have HC := am (And.intro hr0 hc0)
 have HL := am (And.intro hlen hall)
 have HF := am hf
 have HN := am hn
 have HU := am hu0
 have HP := am hp
 have HREC := am hrec
 have HB0 := am hb
 clear hr0 hc0 hlen hall hf hn hu0 hp hrec hb
 have hbx := blk_new w (.cells #[.int .i64 r0, .int .i64 r1, .int .i64 r2, .int .i64 r3] 37)
 have hB1 := below_alloc (Below.refl _ w) (.cells #[.int .i64 r0, .int .i64 r1, .int .i64 r2, .int .i64 r3] 37)
 go_enter Try.func10, Try.ntmps10
 go_wp2_with fail
 refine (impl_FlashOk.calls A0 c0 l0 (flashOkB l0) _ (Kd.C_below HC.out.1 hB1) HC.out.2 rfl).mono ?_
 rintro e w2 ⟨rfl, hb⟩
 rw [HF.out]
 have hB2 := below_then hB1 hB1.size hb
 have hbx2 := blk_below hbx hb
 clear hB1 hbx hb
 go_wp2_with fail
 refine (impl_blockOk.calls b _ _ (blockOk_eq b)).mono ?_
 rintro e w3 ⟨rfl, hd⟩
 rw [decide_eq_true HB0.out]
 have hB3 := below_then hB2 hB2.size hd.below
 have hbx3 := blk_below hbx2 hd.below
 clear hB2 hbx2 hd
 have q0 : w3.cell? ⟨w.heap.size, 0, none⟩ = some (.int .i64 r0) := (blk_cell hbx3 0).trans rfl
 have q1 : w3.cell? ⟨w.heap.size, 1, none⟩ = some (.int .i64 r1) := (blk_cell hbx3 1).trans rfl
 have q2 : w3.cell? ⟨w.heap.size, 2, none⟩ = some (.int .i64 r2) := (blk_cell hbx3 2).trans rfl
 have q3 : w3.cell? ⟨w.heap.size, 3, none⟩ = some (.int .i64 r3) := (blk_cell hbx3 3).trans rfl
 go_wp2_with fail
 refine (impl_RecOk.calls r0 r1 r2 r3 (recOkB r0 r1 r2 r3) _ rfl).mono ?_
 rintro e w4 ⟨rfl, hb⟩
 rw [HREC.out]
 have hB4 := below_then hB3 hB3.size hb
 have hbx4 := blk_below hbx3 hb
 clear hB3 hb hbx3 q0 q1 q2 q3
 go_wp2_with fail
 refine (impl_flashCopy.calls A0 c0 l0 _ (Kd.C_below HC.out.1 hB4) (by have := HL.out.1; omega) (by have := HL.out.1; omega) HL.out.2).mono ?_
 rintro e w5 ⟨v, rfl, hS, hb⟩
 have hB5 := below_then hB4 hB4.size hb
 have hbx5 := blk_below hbx4 hb
 have hS := Kd.S_mono (Kd.S_lower hS hB4.size) (ok' := fun k => w.heap.size ≤ k) (fun k hk => Nat.le_trans hB4.size hk)
 clear hB4 hb hbx4
 obtain ⟨g, cap, rfl, hgb, hgl, cellsg, hcg⟩ := Kd.S_form hS (by have := HL.out.1; omega)
 have hb4 : b < (l0.length : Int) := by have := HL.out.1; have := HB0.out; omega
 obtain ⟨oki, c, hcl, hM, hcc, hfr, hoki, hH⟩ := Kd.S_elem hS z54 b HB0.out.1 hb4
 obtain ⟨v0, rfl, hR⟩ := kb__openM hM
 have esz : (kb_).sz = 2 := rfl
 have o0 := hcc 0 _ rfl
 have o1 := hcc 1 _ rfl
 rw [esz, Nat.add_zero] at o0
 rw [esz] at o1
 have hR : k63.R 97 w5 w.heap.size oki v0 (rd_T54 l0 b).f0 := hR
 replace o1 : w5.cell? ⟨g, b.toNat * 2 + 1, none⟩ = some (.int .i64 (rd_T54 l0 b).f1) := o1
 obtain ⟨gi, ci, rfl, hgib, hgil, cellsi, hcgi⟩ := Kd.R_form hR (by rw [HP.out]; decide)
 have hRr := Kd.R_reads' hR
 have hgne : gi ≠ g := (hoki gi (hR.1 gi rfl)).2
 clear hcl hM hcc hfr hoki hH esz
 have HS := am hS
 have HRR := am hRr
 have HR := am hR
 have HCG := am hcg
 have HCI := am hcgi
 clear hS hRr hR hcg hcgi
 have hbt := decide_eq_true hb4
 have hbq : (b < (l0.length : Int)) = True := eq_true hb4
 have hbp : ((0 : Int) ≤ b) = True := eq_true HB0.out.1
 clear hb4
 go_wp2_with fail
 refine (impl_freePages.calls K (some ⟨gi, 0, none⟩) ci (rd_T54 l0 b).f0 (rd_T54 l0 b).f1 n _ HRR.out.2.2 HRR.out.2.1 HN.out).mono ?_
 rintro e w6 ⟨rfl, hb6⟩
 have hB6 := below_then hB5 hB5.size hb6
 have hbx6 := blk_below hbx5 hb6
 have hS6 := Kd.S_below HS.out hb6
 clear hbx5 hB5
 by_cases hnz : n = 0
 · subst hnz
   clear hbq hbp hbt
   go_wp2
   refine bodyPost_ret (results_tmp2 rfl _ _ _) rfl ?_
   refine ⟨.slice (some ⟨g, 0, none⟩) l0.length cap, rfl, ?_, hB6⟩
   rw [(outFW_no (Or.inl rfl)).1]
   exact hS6
 have hne : (n == 0) = false := by simpa using hnz
 have q1 : w6.cell? ⟨w.heap.size, 1, none⟩ = some (.int .i64 r1) := (blk_cell hbx6 1).trans rfl
 have HS6 := am hS6
 clear hS6
 go_wp2_with fail
 refine (impl_seqUsed.calls K (some ⟨g, 0, none⟩) cap l0 r1 u _ (kb_C (Kd.S_reads' HS6.out).2.2) (Kd.S_reads' HS6.out).2.1 HU.out).mono ?_
 rintro e w7 ⟨rfl, hb7⟩
 have hB7 := below_then hB6 hB6.size hb7
 have hbx7 := blk_below hbx6 hb7
 have hS7 := Kd.S_below HS6.out hb7
 have hb57 := below_then hb6 hb6.size hb7
 have hnd : decide (n ≠ 0) = true := decide_eq_true hnz
 cases u with
 | true =>
  clear q1 hbq hbp hbt o0 o1
  go_wp2
  refine bodyPost_ret (results_tmp2 rfl _ _ _) rfl ?_
  refine ⟨.slice (some ⟨g, 0, none⟩) l0.length cap, ?_, ?_, hB7⟩
  · rw [(outFW_no (l0 := l0) (b := b) (p := pageFW r0 r1 r2 r3 tn) (Or.inr rfl)).2]
    rfl
  · rw [(outFW_no (Or.inr rfl)).1]
    exact hS7
 | false =>
  have HS7 := am hS7
  have HB7 := am hB7
  have HND := am hnd
  have HNZ := am hnz
  have p0 := up hb57 o0
  have p1 := up hb57 o1
  have HCG7 := blk_below HCG.out hb57
  have HCI7 := blk_below HCI.out hb57
  have HR7 := am (Kd.R_below HR.out hb57)
  clear q1 o0 o1 hS7 hB7 hnd hb57 hb7 hbx6 hB6 hb6 hne hnz hgl hgil
  have q0 : w7.cell? ⟨w.heap.size, 0, none⟩ = some (.int .i64 r0) := (blk_cell hbx7 0).trans rfl
  have q1 : w7.cell? ⟨w.heap.size, 1, none⟩ = some (.int .i64 r1) := (blk_cell hbx7 1).trans rfl
  have q2 : w7.cell? ⟨w.heap.size, 2, none⟩ = some (.int .i64 r2) := (blk_cell hbx7 2).trans rfl
  have q3 : w7.cell? ⟨w.heap.size, 3, none⟩ = some (.int .i64 r3) := (blk_cell hbx7 3).trans rfl
  have l1 := blk_lt hbx7
  have l2 := blk_lt HCG7
  have l3 := blk_lt HCI7
  obtain rfl | rfl | rfl | rfl : n = 1 ∨ n = 2 ∨ n = 3 ∨ n = 4 := by have := HNZ.out; omega
  · cases tn with
    | true =>
     obtain ⟨ce, hce, hMe, hcce, hfre⟩ := Kd.R_elem HR7.out z63 (3 : Int) (by decide) (by have := HP.out; omega)
     obtain rfl := k63_openM hMe
     have d0 := hcce 0 _ rfl
     have f0 := hfre 0
     have d1 := hcce 1 _ rfl
     have f1 := hfre 1
     have d2 := hcce 2 _ rfl
     have f2 := hfre 2
     have d3 := hcce 3 _ rfl
     have f3 := hfre 3
     have d4 := hcce 4 _ rfl
     have f4 := hfre 4
     rw [show (Int.toNat 3) * (k63).sz = 15 from rfl] at d0 d1 d2 d3 d4 f0 f1 f2 f3 f4
     simp only [Nat.reduceAdd] at d0 d1 d2 d3 d4 f0 f1 f2 f3 f4
     clear hcce hfre hce hMe
     have hpl := HP.out
     rw [hpl] at p0
     go_wp2_with fail
     go_region
     have hst : Kd.S kb_ 54 (((((w7.setCell ⟨gi, 15, none⟩ (.int .i64 2)).setCell ⟨gi, 16, none⟩ (.int .i64 0)).setCell ⟨gi, 17, none⟩ (.int .i64 0)).setCell ⟨gi, 18, none⟩ (.int .i64 0)).setCell ⟨gi, 19, none⟩ (.int .i64 0)) w.heap.size (fun k => w.heap.size ≤ k) (.slice (some ⟨g, 0, none⟩) l0.length cap) (listFW l0 b 1 (pageFW r0 r1 r2 r3 true)) := S_page HS7.out b HB0.out.1 (of_decide_eq_true hbt) p0 (3 : Int) (by decide) (by decide) (pageFW r0 r1 r2 r3 true)
     have hbl : Below w.heap.size w (((((w7.setCell ⟨gi, 15, none⟩ (.int .i64 2)).setCell ⟨gi, 16, none⟩ (.int .i64 0)).setCell ⟨gi, 17, none⟩ (.int .i64 0)).setCell ⟨gi, 18, none⟩ (.int .i64 0)).setCell ⟨gi, 19, none⟩ (.int .i64 0)) := below_set5 HB7.out hgib _ _ _ _ _ _ _ _ _ _
     clear p0 p1 q0 q1 q2 q3 d0 d1 d2 d3 d4 f0 f1 f2 f3 f4 hbq hbp hbt
     go_wp2
     refine bodyPost_ret (results_tmp2 rfl _ _ _) rfl ?_
     refine ⟨.slice (some ⟨g, 0, none⟩) l0.length cap, ?_, ?_, below_drew (below_alloc hbl _)⟩
     · rw [(outFW_yes (l0 := l0) (b := b) (p := pageFW r0 r1 r2 r3 true) (show (1 : Int) ≠ 0 by decide)).2]
       rfl
     · rw [(outFW_yes (show (1 : Int) ≠ 0 by decide)).1]
       exact Kd.S_drew (Kd.S_alloc hst _)
    | false =>
     obtain ⟨ce, hce, hMe, hcce, hfre⟩ := Kd.R_elem HR7.out z63 (3 : Int) (by decide) (by have := HP.out; omega)
     obtain rfl := k63_openM hMe
     have d0 := hcce 0 _ rfl
     have f0 := hfre 0
     have d1 := hcce 1 _ rfl
     have f1 := hfre 1
     have d2 := hcce 2 _ rfl
     have f2 := hfre 2
     have d3 := hcce 3 _ rfl
     have f3 := hfre 3
     have d4 := hcce 4 _ rfl
     have f4 := hfre 4
     rw [show (Int.toNat 3) * (k63).sz = 15 from rfl] at d0 d1 d2 d3 d4 f0 f1 f2 f3 f4
     simp only [Nat.reduceAdd] at d0 d1 d2 d3 d4 f0 f1 f2 f3 f4
     clear hcce hfre hce hMe
     have hpl := HP.out
     rw [hpl] at p0
     go_wp2_with fail
     go_region
     have hst : Kd.S kb_ 54 (((((w7.setCell ⟨gi, 15, none⟩ (.int .i64 1)).setCell ⟨gi, 16, none⟩ (.int .i64 r0)).setCell ⟨gi, 17, none⟩ (.int .i64 r1)).setCell ⟨gi, 18, none⟩ (.int .i64 r2)).setCell ⟨gi, 19, none⟩ (.int .i64 r3)) w.heap.size (fun k => w.heap.size ≤ k) (.slice (some ⟨g, 0, none⟩) l0.length cap) (listFW l0 b 1 (pageFW r0 r1 r2 r3 false)) := S_page HS7.out b HB0.out.1 (of_decide_eq_true hbt) p0 (3 : Int) (by decide) (by decide) (pageFW r0 r1 r2 r3 false)
     have hbl : Below w.heap.size w (((((w7.setCell ⟨gi, 15, none⟩ (.int .i64 1)).setCell ⟨gi, 16, none⟩ (.int .i64 r0)).setCell ⟨gi, 17, none⟩ (.int .i64 r1)).setCell ⟨gi, 18, none⟩ (.int .i64 r2)).setCell ⟨gi, 19, none⟩ (.int .i64 r3)) := below_set5 HB7.out hgib _ _ _ _ _ _ _ _ _ _
     clear p0 p1 q0 q1 q2 q3 d0 d1 d2 d3 d4 f0 f1 f2 f3 f4 hbq hbp hbt
     go_wp2
     refine bodyPost_ret (results_tmp2 rfl _ _ _) rfl ?_
     refine ⟨.slice (some ⟨g, 0, none⟩) l0.length cap, ?_, ?_, below_drew (below_alloc hbl _)⟩
     · rw [(outFW_yes (l0 := l0) (b := b) (p := pageFW r0 r1 r2 r3 false) (show (1 : Int) ≠ 0 by decide)).2]
       rfl
     · rw [(outFW_yes (show (1 : Int) ≠ 0 by decide)).1]
       exact Kd.S_drew (Kd.S_alloc hst _)
  · cases tn with
    | true =>
     obtain ⟨ce, hce, hMe, hcce, hfre⟩ := Kd.R_elem HR7.out z63 (2 : Int) (by decide) (by have := HP.out; omega)
     obtain rfl := k63_openM hMe
     have d0 := hcce 0 _ rfl
     have f0 := hfre 0
     have d1 := hcce 1 _ rfl
     have f1 := hfre 1
     have d2 := hcce 2 _ rfl
     have f2 := hfre 2
     have d3 := hcce 3 _ rfl
     have f3 := hfre 3
     have d4 := hcce 4 _ rfl
     have f4 := hfre 4
     rw [show (Int.toNat 2) * (k63).sz = 10 from rfl] at d0 d1 d2 d3 d4 f0 f1 f2 f3 f4
     simp only [Nat.reduceAdd] at d0 d1 d2 d3 d4 f0 f1 f2 f3 f4
     clear hcce hfre hce hMe
     have hpl := HP.out
     rw [hpl] at p0
     go_wp2_with fail
     go_region
     have hst : Kd.S kb_ 54 (((((w7.setCell ⟨gi, 10, none⟩ (.int .i64 2)).setCell ⟨gi, 11, none⟩ (.int .i64 0)).setCell ⟨gi, 12, none⟩ (.int .i64 0)).setCell ⟨gi, 13, none⟩ (.int .i64 0)).setCell ⟨gi, 14, none⟩ (.int .i64 0)) w.heap.size (fun k => w.heap.size ≤ k) (.slice (some ⟨g, 0, none⟩) l0.length cap) (listFW l0 b 2 (pageFW r0 r1 r2 r3 true)) := S_page HS7.out b HB0.out.1 (of_decide_eq_true hbt) p0 (2 : Int) (by decide) (by decide) (pageFW r0 r1 r2 r3 true)
     have hbl : Below w.heap.size w (((((w7.setCell ⟨gi, 10, none⟩ (.int .i64 2)).setCell ⟨gi, 11, none⟩ (.int .i64 0)).setCell ⟨gi, 12, none⟩ (.int .i64 0)).setCell ⟨gi, 13, none⟩ (.int .i64 0)).setCell ⟨gi, 14, none⟩ (.int .i64 0)) := below_set5 HB7.out hgib _ _ _ _ _ _ _ _ _ _
     clear p0 p1 q0 q1 q2 q3 d0 d1 d2 d3 d4 f0 f1 f2 f3 f4 hbq hbp hbt
     go_wp2
     refine bodyPost_ret (results_tmp2 rfl _ _ _) rfl ?_
     refine ⟨.slice (some ⟨g, 0, none⟩) l0.length cap, ?_, ?_, below_drew (below_alloc hbl _)⟩
     · rw [(outFW_yes (l0 := l0) (b := b) (p := pageFW r0 r1 r2 r3 true) (show (2 : Int) ≠ 0 by decide)).2]
       rfl
     · rw [(outFW_yes (show (2 : Int) ≠ 0 by decide)).1]
       exact Kd.S_drew (Kd.S_alloc hst _)
    | false =>
     obtain ⟨ce, hce, hMe, hcce, hfre⟩ := Kd.R_elem HR7.out z63 (2 : Int) (by decide) (by have := HP.out; omega)
     obtain rfl := k63_openM hMe
     have d0 := hcce 0 _ rfl
     have f0 := hfre 0
     have d1 := hcce 1 _ rfl
     have f1 := hfre 1
     have d2 := hcce 2 _ rfl
     have f2 := hfre 2
     have d3 := hcce 3 _ rfl
     have f3 := hfre 3
     have d4 := hcce 4 _ rfl
     have f4 := hfre 4
     rw [show (Int.toNat 2) * (k63).sz = 10 from rfl] at d0 d1 d2 d3 d4 f0 f1 f2 f3 f4
     simp only [Nat.reduceAdd] at d0 d1 d2 d3 d4 f0 f1 f2 f3 f4
     clear hcce hfre hce hMe
     have hpl := HP.out
     rw [hpl] at p0
     go_wp2_with fail
     go_region
     have hst : Kd.S kb_ 54 (((((w7.setCell ⟨gi, 10, none⟩ (.int .i64 1)).setCell ⟨gi, 11, none⟩ (.int .i64 r0)).setCell ⟨gi, 12, none⟩ (.int .i64 r1)).setCell ⟨gi, 13, none⟩ (.int .i64 r2)).setCell ⟨gi, 14, none⟩ (.int .i64 r3)) w.heap.size (fun k => w.heap.size ≤ k) (.slice (some ⟨g, 0, none⟩) l0.length cap) (listFW l0 b 2 (pageFW r0 r1 r2 r3 false)) := S_page HS7.out b HB0.out.1 (of_decide_eq_true hbt) p0 (2 : Int) (by decide) (by decide) (pageFW r0 r1 r2 r3 false)
     have hbl : Below w.heap.size w (((((w7.setCell ⟨gi, 10, none⟩ (.int .i64 1)).setCell ⟨gi, 11, none⟩ (.int .i64 r0)).setCell ⟨gi, 12, none⟩ (.int .i64 r1)).setCell ⟨gi, 13, none⟩ (.int .i64 r2)).setCell ⟨gi, 14, none⟩ (.int .i64 r3)) := below_set5 HB7.out hgib _ _ _ _ _ _ _ _ _ _
     clear p0 p1 q0 q1 q2 q3 d0 d1 d2 d3 d4 f0 f1 f2 f3 f4 hbq hbp hbt
     go_wp2
     refine bodyPost_ret (results_tmp2 rfl _ _ _) rfl ?_
     refine ⟨.slice (some ⟨g, 0, none⟩) l0.length cap, ?_, ?_, below_drew (below_alloc hbl _)⟩
     · rw [(outFW_yes (l0 := l0) (b := b) (p := pageFW r0 r1 r2 r3 false) (show (2 : Int) ≠ 0 by decide)).2]
       rfl
     · rw [(outFW_yes (show (2 : Int) ≠ 0 by decide)).1]
       exact Kd.S_drew (Kd.S_alloc hst _)
  · cases tn with
    | true =>
     obtain ⟨ce, hce, hMe, hcce, hfre⟩ := Kd.R_elem HR7.out z63 (1 : Int) (by decide) (by have := HP.out; omega)
     obtain rfl := k63_openM hMe
     have d0 := hcce 0 _ rfl
     have f0 := hfre 0
     have d1 := hcce 1 _ rfl
     have f1 := hfre 1
     have d2 := hcce 2 _ rfl
     have f2 := hfre 2
     have d3 := hcce 3 _ rfl
     have f3 := hfre 3
     have d4 := hcce 4 _ rfl
     have f4 := hfre 4
     rw [show (Int.toNat 1) * (k63).sz = 5 from rfl] at d0 d1 d2 d3 d4 f0 f1 f2 f3 f4
     simp only [Nat.reduceAdd] at d0 d1 d2 d3 d4 f0 f1 f2 f3 f4
     clear hcce hfre hce hMe
     have hpl := HP.out
     rw [hpl] at p0
     go_wp2_with fail
     go_region
     have hst : Kd.S kb_ 54 (((((w7.setCell ⟨gi, 5, none⟩ (.int .i64 2)).setCell ⟨gi, 6, none⟩ (.int .i64 0)).setCell ⟨gi, 7, none⟩ (.int .i64 0)).setCell ⟨gi, 8, none⟩ (.int .i64 0)).setCell ⟨gi, 9, none⟩ (.int .i64 0)) w.heap.size (fun k => w.heap.size ≤ k) (.slice (some ⟨g, 0, none⟩) l0.length cap) (listFW l0 b 3 (pageFW r0 r1 r2 r3 true)) := S_page HS7.out b HB0.out.1 (of_decide_eq_true hbt) p0 (1 : Int) (by decide) (by decide) (pageFW r0 r1 r2 r3 true)
     have hbl : Below w.heap.size w (((((w7.setCell ⟨gi, 5, none⟩ (.int .i64 2)).setCell ⟨gi, 6, none⟩ (.int .i64 0)).setCell ⟨gi, 7, none⟩ (.int .i64 0)).setCell ⟨gi, 8, none⟩ (.int .i64 0)).setCell ⟨gi, 9, none⟩ (.int .i64 0)) := below_set5 HB7.out hgib _ _ _ _ _ _ _ _ _ _
     clear p0 p1 q0 q1 q2 q3 d0 d1 d2 d3 d4 f0 f1 f2 f3 f4 hbq hbp hbt
     go_wp2
     refine bodyPost_ret (results_tmp2 rfl _ _ _) rfl ?_
     refine ⟨.slice (some ⟨g, 0, none⟩) l0.length cap, ?_, ?_, below_drew (below_alloc hbl _)⟩
     · rw [(outFW_yes (l0 := l0) (b := b) (p := pageFW r0 r1 r2 r3 true) (show (3 : Int) ≠ 0 by decide)).2]
       rfl
     · rw [(outFW_yes (show (3 : Int) ≠ 0 by decide)).1]
       exact Kd.S_drew (Kd.S_alloc hst _)
    | false =>
     obtain ⟨ce, hce, hMe, hcce, hfre⟩ := Kd.R_elem HR7.out z63 (1 : Int) (by decide) (by have := HP.out; omega)
     obtain rfl := k63_openM hMe
     have d0 := hcce 0 _ rfl
     have f0 := hfre 0
     have d1 := hcce 1 _ rfl
     have f1 := hfre 1
     have d2 := hcce 2 _ rfl
     have f2 := hfre 2
     have d3 := hcce 3 _ rfl
     have f3 := hfre 3
     have d4 := hcce 4 _ rfl
     have f4 := hfre 4
     rw [show (Int.toNat 1) * (k63).sz = 5 from rfl] at d0 d1 d2 d3 d4 f0 f1 f2 f3 f4
     simp only [Nat.reduceAdd] at d0 d1 d2 d3 d4 f0 f1 f2 f3 f4
     clear hcce hfre hce hMe
     have hpl := HP.out
     rw [hpl] at p0
     go_wp2_with fail
     go_region
     have hst : Kd.S kb_ 54 (((((w7.setCell ⟨gi, 5, none⟩ (.int .i64 1)).setCell ⟨gi, 6, none⟩ (.int .i64 r0)).setCell ⟨gi, 7, none⟩ (.int .i64 r1)).setCell ⟨gi, 8, none⟩ (.int .i64 r2)).setCell ⟨gi, 9, none⟩ (.int .i64 r3)) w.heap.size (fun k => w.heap.size ≤ k) (.slice (some ⟨g, 0, none⟩) l0.length cap) (listFW l0 b 3 (pageFW r0 r1 r2 r3 false)) := S_page HS7.out b HB0.out.1 (of_decide_eq_true hbt) p0 (1 : Int) (by decide) (by decide) (pageFW r0 r1 r2 r3 false)
     have hbl : Below w.heap.size w (((((w7.setCell ⟨gi, 5, none⟩ (.int .i64 1)).setCell ⟨gi, 6, none⟩ (.int .i64 r0)).setCell ⟨gi, 7, none⟩ (.int .i64 r1)).setCell ⟨gi, 8, none⟩ (.int .i64 r2)).setCell ⟨gi, 9, none⟩ (.int .i64 r3)) := below_set5 HB7.out hgib _ _ _ _ _ _ _ _ _ _
     clear p0 p1 q0 q1 q2 q3 d0 d1 d2 d3 d4 f0 f1 f2 f3 f4 hbq hbp hbt
     go_wp2
     refine bodyPost_ret (results_tmp2 rfl _ _ _) rfl ?_
     refine ⟨.slice (some ⟨g, 0, none⟩) l0.length cap, ?_, ?_, below_drew (below_alloc hbl _)⟩
     · rw [(outFW_yes (l0 := l0) (b := b) (p := pageFW r0 r1 r2 r3 false) (show (3 : Int) ≠ 0 by decide)).2]
       rfl
     · rw [(outFW_yes (show (3 : Int) ≠ 0 by decide)).1]
       exact Kd.S_drew (Kd.S_alloc hst _)
  · cases tn with
    | true =>
     obtain ⟨ce, hce, hMe, hcce, hfre⟩ := Kd.R_elem HR7.out z63 (0 : Int) (by decide) (by have := HP.out; omega)
     obtain rfl := k63_openM hMe
     have d0 := hcce 0 _ rfl
     have f0 := hfre 0
     have d1 := hcce 1 _ rfl
     have f1 := hfre 1
     have d2 := hcce 2 _ rfl
     have f2 := hfre 2
     have d3 := hcce 3 _ rfl
     have f3 := hfre 3
     have d4 := hcce 4 _ rfl
     have f4 := hfre 4
     rw [show (Int.toNat 0) * (k63).sz = 0 from rfl] at d0 d1 d2 d3 d4 f0 f1 f2 f3 f4
     simp only [Nat.reduceAdd] at d0 d1 d2 d3 d4 f0 f1 f2 f3 f4
     clear hcce hfre hce hMe
     have hpl := HP.out
     rw [hpl] at p0
     go_wp2_with fail
     go_region
     have hst : Kd.S kb_ 54 (((((w7.setCell ⟨gi, 0, none⟩ (.int .i64 2)).setCell ⟨gi, 1, none⟩ (.int .i64 0)).setCell ⟨gi, 2, none⟩ (.int .i64 0)).setCell ⟨gi, 3, none⟩ (.int .i64 0)).setCell ⟨gi, 4, none⟩ (.int .i64 0)) w.heap.size (fun k => w.heap.size ≤ k) (.slice (some ⟨g, 0, none⟩) l0.length cap) (listFW l0 b 4 (pageFW r0 r1 r2 r3 true)) := S_page HS7.out b HB0.out.1 (of_decide_eq_true hbt) p0 (0 : Int) (by decide) (by decide) (pageFW r0 r1 r2 r3 true)
     have hbl : Below w.heap.size w (((((w7.setCell ⟨gi, 0, none⟩ (.int .i64 2)).setCell ⟨gi, 1, none⟩ (.int .i64 0)).setCell ⟨gi, 2, none⟩ (.int .i64 0)).setCell ⟨gi, 3, none⟩ (.int .i64 0)).setCell ⟨gi, 4, none⟩ (.int .i64 0)) := below_set5 HB7.out hgib _ _ _ _ _ _ _ _ _ _
     clear p0 p1 q0 q1 q2 q3 d0 d1 d2 d3 d4 f0 f1 f2 f3 f4 hbq hbp hbt
     go_wp2
     refine bodyPost_ret (results_tmp2 rfl _ _ _) rfl ?_
     refine ⟨.slice (some ⟨g, 0, none⟩) l0.length cap, ?_, ?_, below_drew (below_alloc hbl _)⟩
     · rw [(outFW_yes (l0 := l0) (b := b) (p := pageFW r0 r1 r2 r3 true) (show (4 : Int) ≠ 0 by decide)).2]
       rfl
     · rw [(outFW_yes (show (4 : Int) ≠ 0 by decide)).1]
       exact Kd.S_drew (Kd.S_alloc hst _)
    | false =>
     obtain ⟨ce, hce, hMe, hcce, hfre⟩ := Kd.R_elem HR7.out z63 (0 : Int) (by decide) (by have := HP.out; omega)
     obtain rfl := k63_openM hMe
     have d0 := hcce 0 _ rfl
     have f0 := hfre 0
     have d1 := hcce 1 _ rfl
     have f1 := hfre 1
     have d2 := hcce 2 _ rfl
     have f2 := hfre 2
     have d3 := hcce 3 _ rfl
     have f3 := hfre 3
     have d4 := hcce 4 _ rfl
     have f4 := hfre 4
     rw [show (Int.toNat 0) * (k63).sz = 0 from rfl] at d0 d1 d2 d3 d4 f0 f1 f2 f3 f4
     simp only [Nat.reduceAdd] at d0 d1 d2 d3 d4 f0 f1 f2 f3 f4
     clear hcce hfre hce hMe
     have hpl := HP.out
     rw [hpl] at p0
     go_wp2_with fail
     go_region
     have hst : Kd.S kb_ 54 (((((w7.setCell ⟨gi, 0, none⟩ (.int .i64 1)).setCell ⟨gi, 1, none⟩ (.int .i64 r0)).setCell ⟨gi, 2, none⟩ (.int .i64 r1)).setCell ⟨gi, 3, none⟩ (.int .i64 r2)).setCell ⟨gi, 4, none⟩ (.int .i64 r3)) w.heap.size (fun k => w.heap.size ≤ k) (.slice (some ⟨g, 0, none⟩) l0.length cap) (listFW l0 b 4 (pageFW r0 r1 r2 r3 false)) := S_page HS7.out b HB0.out.1 (of_decide_eq_true hbt) p0 (0 : Int) (by decide) (by decide) (pageFW r0 r1 r2 r3 false)
     have hbl : Below w.heap.size w (((((w7.setCell ⟨gi, 0, none⟩ (.int .i64 1)).setCell ⟨gi, 1, none⟩ (.int .i64 r0)).setCell ⟨gi, 2, none⟩ (.int .i64 r1)).setCell ⟨gi, 3, none⟩ (.int .i64 r2)).setCell ⟨gi, 4, none⟩ (.int .i64 r3)) := below_set5 HB7.out hgib _ _ _ _ _ _ _ _ _ _
     clear p0 p1 q0 q1 q2 q3 d0 d1 d2 d3 d4 f0 f1 f2 f3 f4 hbq hbp hbt
     go_wp2
     refine bodyPost_ret (results_tmp2 rfl _ _ _) rfl ?_
     refine ⟨.slice (some ⟨g, 0, none⟩) l0.length cap, ?_, ?_, below_drew (below_alloc hbl _)⟩
     · rw [(outFW_yes (l0 := l0) (b := b) (p := pageFW r0 r1 r2 r3 false) (show (4 : Int) ≠ 0 by decide)).2]
       rfl
     · rw [(outFW_yes (show (4 : Int) ≠ 0 by decide)).1]
       exact Kd.S_drew (Kd.S_alloc hst _)
theorem Sb_V {W : World} {base : Nat} {ok : Nat → Prop} {v : Value} {xs : List S54} (h : Kd.S kb_ 54 W base ok v xs) : Kd.V k54 54 W base ok v xs := by
 obtain ⟨A, c, rfl⟩ := Kd.S_slice h
 exact ⟨A, c, rfl, (Kd.S_reads' h).2.1, Kd.F_imp (Kd.S_F h) (fun _ hC => kb_C hC)⟩
theorem blocksB_four : ∀ (l : List S54) (S : List Int), blocksB l S = true → ∀ b ∈ l, b.f0.length = 4
 | [], _, _, _, hb => by cases hb
 | b :: bs, S, h, c, hc => by
  rw [blocksB, Bool.and_eq_true] at h
  obtain ⟨h1, h2⟩ := h
  rcases List.mem_cons.1 hc with rfl | hc
  · unfold blockB at h1
    rw [Bool.and_eq_true, decide_eq_true_eq] at h1
    omega
  · cases hp : pagesB b.f0 S with
    | none => rw [hp] at h2; cases h2
    | some S' =>
     rw [hp] at h2
     exact blocksB_four bs S' h2 c hc
def impl_FlashWrite.f (k : Nat) (l0 : List (S54)) (b r0 r1 r2 r3 : Int) (tn : Bool) : Option (List (S54) × Bool) :=
 if flashOkB l0 = true ∧ (0 ≤ b ∧ b < 4) ∧ recOkB r0 r1 r2 r3 = true then (impl_freePages.f k (rd_T54 l0 b).f0 (rd_T54 l0 b).f1).bind fun n => (impl_seqUsed.f k l0 r1).bind fun u => if 0 ≤ n ∧ n ≤ 4 then some (outFW l0 b n u (pageFW r0 r1 r2 r3 tn), okFW n u) else none
 else some ([], false)
theorem impl_FlashWrite.calls (k : Nat) (A0 : Option Addr) (c0 : Nat) (l0 : List (S54)) (a1 : Int) (a2_0 : Int) (a2_1 : Int) (a2_2 : Int) (a2_3 : Int) (a3 : Bool) (r1 : List (S54)) (r2 : Bool) (w : World) (hr0 : Kd.C k54 w A0 l0.length l0) (hc0 : l0.length ≤ c0) (h : impl_FlashWrite.f k l0 a1 a2_0 a2_1 a2_2 a2_3 a3 = some (r1, r2)) :
 Calls Try.prog 10 #[.slice A0 l0.length c0, .int .i64 a1, .agg #[.int .i64 a2_0, .int .i64 a2_1, .int .i64 a2_2, .int .i64 a2_3], .bool a3] w fun e w' => ∃ v0_ : Value, e = .returned (.tuple #[v0_, .bool r2]) ∧ Kd.V k54 54 w' w.heap.size (fun k_ => w.heap.size ≤ k_) v0_ r1 ∧ Below w.heap.size w w' := by
 unfold impl_FlashWrite.f at h
 by_cases hg : flashOkB l0 = true ∧ (0 ≤ a1 ∧ a1 < 4) ∧ recOkB a2_0 a2_1 a2_2 a2_3 = true
 rotate_left
 · rw [if_neg hg] at h
   have e := Prod.mk.inj (Option.some.inj h)
   rw [← e.1, ← e.2]
   refine (impl_FlashWrite.bad A0 c0 l0 a1 a2_0 a2_1 a2_2 a2_3 a3 w hr0 hc0 hg).mono ?_
   rintro e w' ⟨rfl, hb⟩
   exact ⟨_, rfl, Kd.V_nil _ _ _ _ _, hb⟩
 rw [if_pos hg] at h
 obtain ⟨n, hn, h⟩ := Option.bind_eq_some_iff.1 h
 obtain ⟨u, hu, h⟩ := Option.bind_eq_some_iff.1 h
 by_cases hn0 : 0 ≤ n ∧ n ≤ 4
 rotate_left
 · rw [if_neg hn0] at h
   cases h
 rw [if_pos hn0] at h
 have e := Prod.mk.inj (Option.some.inj h)
 have hf := hg.1
 have hf2 := hf
 unfold flashOkB at hf2
 rw [Bool.and_eq_true, decide_eq_true_eq] at hf2
 have hall := blocksB_four l0 [] hf2.2
 have hlen : l0.length = 4 := by omega
 have hm : rd_T54 l0 a1 ∈ l0 := by
  unfold rd_T54
  rw [List.getD_eq_getElem?_getD, List.getElem?_eq_getElem (by omega : a1.toNat < l0.length)]
  exact List.getElem_mem _
 rw [← e.1, ← e.2]
 refine (impl_FlashWrite.good k A0 c0 l0 a1 a2_0 a2_1 a2_2 a2_3 n a3 u w hr0 hc0 hf hlen hall hg.2.1 hg.2.2 (hall _ hm) hn hn0 hu).mono ?_
 rintro e w' ⟨v, rfl, hS, hb⟩
 exact ⟨v, rfl, Sb_V hS, hb⟩
open Go.Proofs.YtghmnlcmhpdcaaaW
attribute [local go_sem] Oper.semAt_some
def ValsBox (W : World) (g : Nat) (s : Nat → Int) : Prop := W.heap[g]? = some (.cells #[.int .i64 (s 0), .int .i64 (s 1), .int .i64 (s 2), .int .i64 (s 3), .int .i64 (s 4), .int .i64 (s 5)] 3 (0, 0))
theorem ValsBox.at_ {W : World} {g : Nat} {s : Nat → Int} (h : ValsBox W g s) (i : Nat) (hi : i < 6) : W.cell? ⟨g, i, none⟩ = some (.int .i64 (s i)) := by
 rw [blk_cell h i]
 obtain rfl | rfl | rfl | rfl | rfl | rfl : i = 0 ∨ i = 1 ∨ i = 2 ∨ i = 3 ∨ i = 4 ∨ i = 5 := by omega
 all_goals rfl
theorem ValsBox.put {W : World} {g : Nat} {s : Nat → Int} (h : ValsBox W g s) (i : Nat) (hi : i < 6) (a : Int) : ValsBox (W.setCell ⟨g, i, none⟩ (.int .i64 a)) g (fun j => if j = i then a else s j) := by
 have := blk_set h i (.int .i64 a)
 unfold ValsBox
 rw [this]
 obtain rfl | rfl | rfl | rfl | rfl | rfl : i = 0 ∨ i = 1 ∨ i = 2 ∨ i = 3 ∨ i = 4 ∨ i = 5 := by omega
 all_goals simp
theorem ValsBox.row {W : World} {g base : Nat} {s : Nat → Int} (h : ValsBox W g s) (hg : base ≤ g) : Kd.R (Kd.int .i64) 3 W base (fun _ => True) (.slice (some ⟨g, 0, none⟩) 6 6) [s 0, s 1, s 2, s 3, s 4, s 5] :=
 Kd.R_of_own (enc := Value.int .i64) (h1 := fun _ => rfl) ⟨rfl, .inr ⟨g, 6, _, rfl, hg, h, Nat.le_refl _, by decide, rfl, rfl⟩⟩ (fun _ _ => trivial)
theorem make_six (W : World) : (Instr.makeSlice 24 (.int .i64 6) (.int .i64 6)).run Try.prog W = .ok (.slice (some ⟨W.heap.size, 0, none⟩) 6 6) (W.alloc (.cells #[.int .i64 0, .int .i64 0, .int .i64 0, .int .i64 0, .int .i64 0, .int .i64 0] 3)) := by
 have hinfo : (Try.prog.info? 3).map (fun i => (i.zero, i.size, i.bytes)) = some (some (.int .i64 0), 1, 8) := by kernel_rfl
 obtain ⟨i0, hi, hzz⟩ := Option.map_eq_some_iff.1 hinfo
 simp only [Prod.mk.injEq] at hzz
 obtain ⟨hz0, hz1, hz2⟩ := hzz
 have hr := run_make (P := Try.prog) W 24 3 i0 _ Try.underlying24 hi hz0 .i64 .i64 6 6 (by decide) (by decide) (by rw [hz2]; decide) (by decide)
 have h8 : Array.range (Int.toNat 6 * 1) = #[0, 1, 2, 3, 4, 5] := by decide
 rw [hz1] at hr
 unfold madeCells at hr
 have hc : (Value.int IntKind.i64 0).cells = #[Value.int IntKind.i64 0] := by simp [Value.cells]
 rw [h8, hc] at hr
 simpa using hr
def valAt (M : RecMap) (l1 : List Int) (i : Nat) : Int := match M ((i : Int) + 1) with
 | some r => r.2.2.2
 | none => rd l1 (i : Int)
def allV (l0 : List S54) (l1 : List Int) : List Int := if storeOkB l0 l1 = true then [valAt (lastMap l0) l1 0, valAt (lastMap l0) l1 1, valAt (lastMap l0) l1 2, valAt (lastMap l0) l1 3, valAt (lastMap l0) l1 4, valAt (lastMap l0) l1 5] else []
def impl_StoreAll.f (l0_0 : List (S54)) (l0_1 : List Int) : Option (List Int) := some (allV l0_0 l0_1)
set_option maxRecDepth 100000 in
set_option maxHeartbeats 8000000 in
theorem impl_StoreAll.calls (A0_0 : Option Addr) (c0_0 : Nat) (l0_0 : List (S54)) (A0_1 : Option Addr) (c0_1 : Nat) (l0_1 : List Int) (r : List Int) (w : World) (hr0_0 : Kd.C k54 w A0_0 l0_0.length l0_0) (hc0_0 : l0_0.length ≤ c0_0) (hr0_1 : Kd.C (Kd.int .i64) w A0_1 l0_1.length l0_1) (hc0_1 : l0_1.length ≤ c0_1) (h : impl_StoreAll.f l0_0 l0_1 = some r) :
 Calls Try.prog 11 #[.agg #[.slice A0_0 l0_0.length c0_0, .slice A0_1 l0_1.length c0_1]] w fun e w' => ∃ v0_ : Value, e = .returned v0_ ∧ Kd.R (Kd.int .i64) 3 w' w.heap.size (fun _ => True) v0_ r ∧ Below w.heap.size w w' := by
 obtain rfl := Option.some.inj h
 clear h
 refine (callsIn_wide (n := 3)).1 ?_
 have hu := Try.underlying26
 have hu2 := Try.underlying37
 have hmk := make_six
 have hso : ∀ W, Below w.heap.size w W → CallsIn Fence.wide 2 Try.prog 12 #[.agg #[.slice A0_0 l0_0.length c0_0, .slice A0_1 l0_1.length c0_1]] W fun e w' => e = .returned (.bool (storeOkB l0_0 l0_1)) ∧ Below W.heap.size W w' := fun W hb => callsIn_wide.2 (impl_StoreOk.calls A0_0 c0_0 l0_0 A0_1 c0_1 l0_1 _ W (Kd.C_below hr0_0 hb) hc0_0 (Kd.C_below hr0_1 hb) hc0_1 rfl)
 have hbox := blk_new w (.cells #[.slice A0_0 l0_0.length c0_0, .slice A0_1 l0_1.length c0_1] 26)
 have hB1 := below_alloc (Below.refl _ w) (.cells #[.slice A0_0 l0_0.length c0_0, .slice A0_1 l0_1.length c0_1] 26)
 unfold allV
 cases hs : storeOkB l0_0 l0_1 with
 | false =>
  rw [hs] at hso
  rw [if_neg (by simp)]
  refine callsIn_of_wp Try.func11 rfl trivial ?_ rfl
  simp only [Try.ntmps11, List.size_toArray, List.length_cons, List.length_nil, Nat.reduceAdd, Nat.reduceSub, Array.replicate_succ, Array.replicate_zero, List.push_toArray, List.append_toArray, List.nil_append, List.cons_append]
  gi_wp2_with (first | (refine ⟨trivial, ?_⟩; gi_at_call 12; refine (hso _ hB1).mono ?_; rintro e w1 ⟨rfl, hb⟩; have hbox1 := blk_below hbox hb; have hB2 := below_then hB1 hB1.size hb; have hq0 : w1.cell? ⟨w.heap.size, 0, none⟩ = some (.slice A0_0 l0_0.length c0_0) := (blk_cell hbox1 0).trans rfl))
  go_ret
  exact ⟨_, rfl, Kd.R_nil _ _ _ _ _, hB2⟩
 | true =>
  rw [hs] at hso
  rw [if_pos rfl]
  have hl : l0_1.length = 6 ∧ orderI l0_0 = true := by
   unfold storeOkB at hs
   rw [Bool.and_eq_true, Bool.and_eq_true, decide_eq_true_eq] at hs
   exact ⟨by omega, hs.2.1⟩
  have hf := order_flash hl.2
  have hl := hl.1
  have hlr : ∀ W, Below w.heap.size w W → CallsIn Fence.wide 2 Try.prog 18 #[.slice A0_0 l0_0.length c0_0] W fun e w' => ∃ B n, e = .returned (.map (some B)) ∧ RecsIs Try.prog 3 w' B n (lastMap l0_0) ∧ W.heap.size ≤ B ∧ Below W.heap.size W w' := fun W hb => callsIn_wide.2 (lastRecords_any A0_0 c0_0 l0_0 W (Kd.C_below hr0_0 hb) hf)
  generalize lastMap l0_0 = M at hlr ⊢
  rw [hl] at hbox hB1 hso ⊢
  refine callsIn_of_wp Try.func11 rfl trivial ?_ rfl
  simp only [Try.ntmps11, List.size_toArray, List.length_cons, List.length_nil, Nat.reduceAdd, Nat.reduceSub, Array.replicate_succ, Array.replicate_zero, List.push_toArray, List.append_toArray, List.nil_append, List.cons_append]
  gi_wp2_with (first | (refine ⟨trivial, ?_⟩; gi_at_call 12; refine (hso _ hB1).mono ?_; rintro e w1 ⟨rfl, hb⟩; have hbox1 := blk_below hbox hb; have hB2 := below_then hB1 hB1.size hb; have hq0 : w1.cell? ⟨w.heap.size, 0, none⟩ = some (.slice A0_0 l0_0.length c0_0) := (blk_cell hbox1 0).trans rfl) | (refine ⟨trivial, ?_⟩; gi_at_call 18; refine (hlr _ hB2).mono ?_; rintro e w2 ⟨B, n, rfl, hm, hBq, hb2⟩; have hB3 := below_then hB2 hB2.size hb2; have hbox2 := blk_below hbox1 hb2; have hlt2 := blk_lt hbox2; have hq1 : w2.cell? ⟨w.heap.size, 1, none⟩ = some (.slice A0_1 6 c0_1) := (blk_cell hbox2 1).trans rfl))
  clear hso hlr
  have bV : ValsBox (w2.alloc (.cells #[.int .i64 0, .int .i64 0, .int .i64 0, .int .i64 0, .int .i64 0, .int .i64 0] 3)) w2.heap.size (fun _ => 0) := blk_new w2 _
  have hm2 := hm.alloc (.cells #[.int .i64 0, .int .i64 0, .int .i64 0, .int .i64 0, .int .i64 0, .int .i64 0] 3)
  have hB4 := below_alloc hB3 (.cells #[.int .i64 0, .int .i64 0, .int .i64 0, .int .i64 0, .int .i64 0, .int .i64 0] 3)
  have hg : w.heap.size ≤ w2.heap.size := hB3.size
  have hBg : B < w2.heap.size := hm.lt
  generalize w2.heap.size = g at bV hg hBg ⊢
  gi_loopw [19] (fun v19 wr => ∃ i : Nat, v19 = .int .i64 (i : Int) ∧ i ≤ 6 ∧ Aside0 (ValsBox wr g (fun j => if j < i then valAt M l0_1 j else 0)) ∧ Aside0 (RecsIs Try.prog 3 wr B n M) ∧ Aside0 (Below w.heap.size w wr)) (fun v19 _ => 6 - (intOf v19).toNat)
  case atStart => exact ⟨0, rfl, by omega, ⟨by simpa using bV⟩, ⟨hm2⟩, ⟨hB4⟩⟩
  case round =>
   clear hm2 hB4 hB3 hB2 hB1 hbox hbox1 hbox2 hq0 hq1 bV hm
   obtain ⟨i, rfl, hi, hv, hm, hB⟩ := hrel
   by_cases ci : i < 6
   rotate_left
   · obtain rfl : i = 6 := by omega
     gi_wp2
     go_ret
     exact ⟨_, rfl, hv.out.row hg, hB.out⟩
   have cib : decide ((i : Int) < 6) = true := decide_eq_true (by omega)
   have p1 : 0 ≤ (i : Int) := by omega
   have q1 : (i : Int) < 6 := by omega
   obtain ⟨ad1, e1, hx1⟩ := Kd.at_int hr0_1 (i : Int) p1 (by omega)
   cases e1
   replace hx1 := (hB.out.cell (World.block_lt_of_cell? w _ hx1)).trans hx1
   simp only [Int.toNat_natCast] at hx1
   have hva : valAt M l0_1 i = (match M ((i : Int) + 1) with
    | some r => r.2.2.2
    | none => rd l0_1 (i : Int)) := rfl
   generalize rd l0_1 (i : Int) = d at hx1 hva
   have hwf : (Lit.int .i64 ((i : Int) + 1)).wf = true := WalkArith.wf_i64 ⟨by omega, by omega⟩
   have hc0 := hv.out.at_ i ci
   have hf0 : wr.frozen? ⟨g, i, none⟩ = false := blk_frozen hv.out i
   have hV1 := am (hv.out.put i ci d)
   have hM1 := am (hm.out.setCell (a := ⟨g, i, none⟩) (by show B ≠ g; omega) (.int .i64 d))
   have hb1 := am (hB.out.setCell (p := ⟨g, i, none⟩) hg (.int .i64 d))
   have hlk := hM1.out.look_ok (T := 47) (E := 37) Try.underlying3 Try.underlying47 (by go_simp; rfl) hwf
   have hst : ∀ x : Int, valAt M l0_1 i = x → (fun j => if j < i + 1 then valAt M l0_1 j else 0) = (fun j => if j = i then x else (fun j => if j < i then valAt M l0_1 j else 0) j) := fun x hx => by
    funext j
    show (if j < i + 1 then valAt M l0_1 j else 0) = (if j = i then x else if j < i then valAt M l0_1 j else 0)
    by_cases e : j = i
    · subst e
      rw [if_pos (by omega), if_pos rfl, hx]
    rw [if_neg e]
    by_cases e2 : j < i
    rotate_left
    · rw [if_neg (by omega), if_neg e2]
    rw [if_pos (by omega), if_pos e2]
   cases hM : M ((i : Int) + 1) with
   | none =>
    rw [hM] at hlk hva
    simp only [Option.getD_none, Option.isSome_none, recVal] at hlk
    have HS := am (hst d hva)
    clear hst hva hwf
    gi_wp2
    exact ⟨⟨i + 1, by simp, by omega, ⟨by rw [HS.out]; exact blk_alloc hV1.out _⟩, ⟨hM1.out.alloc _⟩, ⟨below_alloc hb1.out _⟩⟩, by simp [intOf]; omega⟩
   | some q =>
    obtain ⟨qa, qb, qc, qd⟩ := q
    rw [hM] at hlk hva
    simp only [Option.getD_some, Option.isSome_some, recVal] at hlk
    have HS := am (hst qd hva)
    have hglt := blk_lt hv.out
    clear hst hva hwf
    gi_wp2
    have hV3 := hV1.out.put i ci qd
    have e : (fun j => if j = i then qd else (if j = i then d else if j < i then valAt M l0_1 j else 0)) = (fun j => if j = i then qd else if j < i then valAt M l0_1 j else 0) := by
     funext j
     by_cases e : j = i
     · rw [if_pos e, if_pos e]
     rw [if_neg e, if_neg e, if_neg e]
    rw [e] at hV3
    exact ⟨⟨i + 1, by simp, by omega, ⟨by rw [HS.out]; exact blk_alloc hV3 _⟩, ⟨(hM1.out.setCell (a := ⟨g, i, none⟩) (by show B ≠ g; omega) _).alloc _⟩, ⟨below_alloc (hb1.out.setCell (p := ⟨g, i, none⟩) hg _) _⟩⟩, by simp [intOf]; omega⟩
def laws_lqInts.l0 : Nat → List Int → List Int → Int → Option (Bool)
 | 0, _, _, _ => none
 | k + 1, x0, x1, x5 => if x5 < (x0.length : Int) then (if 0 ≤ x5 then (if x5 < (x1.length : Int) then (if (rd x0 x5) = (rd x1 x5) then (laws_lqInts.l0 k x0 x1 (wrap64 (x5 + 1))) else (some false)) else (none)) else (none)) else (some true)
def laws_lqInts.f (k : Nat) (l0 : List Int) (l1 : List Int) : Option (Bool) := if (l0.length : Int) = (l1.length : Int) then (laws_lqInts.l0 k l0 l1 0) else (some false)
set_option maxHeartbeats 8000000 in
set_option maxRecDepth 100000 in
theorem laws_lqInts.calls (k : Nat) (A0 : Option Addr) (c0 : Nat) (l0 : List Int) (A1 : Option Addr) (c1 : Nat) (l1 : List Int) (r : Bool) (w : World) (hr0 : Kd.C (Kd.int .i64) w A0 l0.length l0) (hc0 : l0.length ≤ c0) (hr1 : Kd.C (Kd.int .i64) w A1 l1.length l1) (hc1 : l1.length ≤ c1) (h : laws_lqInts.f k l0 l1 = some r) :
 Calls Try.prog 13 #[.slice A0 l0.length c0, .slice A1 l1.length c1] w fun e w' => e = .returned (.bool r) ∧ Drawn0 w w' := by
 have HR0 := am hr0
 have HC0 := am hc0
 clear hr0 hc0
 have HR1 := am hr1
 have HC1 := am hc1
 clear hr1 hc1
 have H : (if (l0.length : Int) = (l1.length : Int) then (laws_lqInts.l0 k l0 l1 0) else (some false)) = some r := h
 clear h
 by_cases c3 : (l0.length : Int) = (l1.length : Int)
 rotate_left
 · rw [if_neg c3] at H
   have c3b0 : ((l0.length : Int) == (l1.length : Int)) = false := beq_eq_false_iff_ne.mpr c3
   have c3b1 : ((l0.length : Int) != (l1.length : Int)) = true := bne_iff_ne.mpr c3
   have c3b2 : (l0.length == l1.length) = false := by first | simpa using c3 | (simp at c3 ⊢; omega)
   obtain rfl := Option.some.inj H
   go_enter Try.func13, Try.ntmps13
   go_wp2
   repeat (go_quiet (fail); try go_wp2)
   go_ret
   exact ⟨by first | rfl | (simp; done) | (simp [*]; done), by repeat (first | exact Drawn0.refl _ | apply Drawn0.step)⟩
 rw [if_pos c3] at H
 have c3b0 : ((l0.length : Int) == (l1.length : Int)) = true := beq_iff_eq.mpr c3
 have c3b1 : ((l0.length : Int) != (l1.length : Int)) = false := bne_eq_false_iff_eq.mpr c3
 have c3b2 : (l0.length == l1.length) = true := by first | simpa using c3 | (simp at c3 ⊢; omega)
 clear c3
 have H' := am H
 clear H
 go_enter Try.func13, Try.ntmps13
 go_wp2
 repeat (go_quiet (fail); try go_wp2)
 go_loopg [5] k (fun kq v5 w' => ∃ (x5_1 : Int), v5 = .int .i64 x5_1 ∧ Aside0 (laws_lqInts.l0 kq l0 l1 x5_1 = some r) ∧ Aside0 (kq ≤ k) ∧ Drawn0 w w')
 case atStart => exact ⟨(0), rf, H', ⟨Nat.le_refl _⟩, by repeat (first | exact Drawn0.refl _ | apply Drawn0.step)⟩
 case round =>
  clear H'
  obtain ⟨x5_1, rfl, HA, HK1, ⟨m1, rfl⟩⟩ := hrel
  cases gk with
  | zero => exact absurd HA.out (by simp [laws_lqInts.l0])
  | succ k1 =>
   have H := HA.out
   clear HA
   simp only [laws_lqInts.l0] at H
   by_cases c4 : x5_1 < (l0.length : Int)
   rotate_left
   · rw [if_neg c4] at H
     have c4b0 := decide_eq_false c4
     clear c4
     obtain rfl := Option.some.inj H
     go_wp2
     repeat (go_quiet (fail); try go_wp2)
     go_ret
     exact ⟨by first | rfl | (simp; done) | (simp [*]; done), by repeat (first | exact Drawn0.refl _ | apply Drawn0.step)⟩
   rw [if_pos c4] at H
   have c4b0 := decide_eq_true c4
   clear c4
   obtain ⟨c5b0, H⟩ := ifd H
   obtain ⟨c6b0, H⟩ := ifd H
   by_cases c7 : (rd l0 x5_1) = (rd l1 x5_1)
   rotate_left
   · rw [if_neg c7] at H
     have c7b0 : ((rd l0 x5_1) == (rd l1 x5_1)) = false := beq_eq_false_iff_ne.mpr c7
     have c7b1 : ((rd l0 x5_1) != (rd l1 x5_1)) = true := bne_iff_ne.mpr c7
     obtain rfl := Option.some.inj H
     have p405 : 0 ≤ (x5_1 : Int) := ofb
     have q405 : x5_1 < (l0.length : Int) := ofb
     obtain ⟨ad405, e405, hx405_0⟩ := Kd.at_int HR0.out x5_1 p405 q405
     cases e405
     replace p405 := eq_true p405
     replace q405 := eq_true q405
     have p406 : 0 ≤ (x5_1 : Int) := ofb
     have q406 : x5_1 < (l1.length : Int) := ofb
     obtain ⟨ad406, e406, hx406_0⟩ := Kd.at_int HR1.out x5_1 p406 q406
     cases e406
     replace p406 := eq_true p406
     replace q406 := eq_true q406
     go_wp2
     repeat (go_quiet (fail); try go_wp2)
     go_ret
     exact ⟨by first | rfl | (simp; done) | (simp [*]; done), by repeat (first | exact Drawn0.refl _ | apply Drawn0.step)⟩
   rw [if_pos c7] at H
   have c7b0 : ((rd l0 x5_1) == (rd l1 x5_1)) = true := beq_iff_eq.mpr c7
   have c7b1 : ((rd l0 x5_1) != (rd l1 x5_1)) = false := bne_eq_false_iff_eq.mpr c7
   clear c7
   have H' := am H
   clear H
   have p405 : 0 ≤ (x5_1 : Int) := ofb
   have q405 : x5_1 < (l0.length : Int) := ofb
   obtain ⟨ad405, e405, hx405_0⟩ := Kd.at_int HR0.out x5_1 p405 q405
   cases e405
   replace p405 := eq_true p405
   replace q405 := eq_true q405
   have p406 : 0 ≤ (x5_1 : Int) := ofb
   have q406 : x5_1 < (l1.length : Int) := ofb
   obtain ⟨ad406, e406, hx406_0⟩ := Kd.at_int HR1.out x5_1 p406 q406
   cases e406
   replace p406 := eq_true p406
   replace q406 := eq_true q406
   go_wp2
   repeat (go_quiet (fail); try go_wp2)
   go_roundg k1
   case measure => have := HK1.out; omega
   case rel => exact ⟨(wrap64 (x5_1 + 1)), rf, H', ⟨by have := HK1.out; omega⟩, by repeat (first | exact Drawn0.refl _ | apply Drawn0.step)⟩
end Go.Proofs.Ytghmnlcmhpdcaaa.R5
