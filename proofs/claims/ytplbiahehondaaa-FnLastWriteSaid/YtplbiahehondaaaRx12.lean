-- printed by wip/pp/pp.py
import Derived.Test.YtplbiahehondaaaRx0
import Derived.Test.YtplbiahehondaaaRx8
import Derived.Test.YtplbiahehondaaaRx10
import Derived.Test.YtplbiahehondaaaRx11
namespace Go.Proofs.Ytplbiahehondaaa.Rx
open Go.RowKit Go.Proofs.YtplbiahehondaaaW.PrintWords Go.Proofs.YtplbiahehondaaaW.PrintLast Go.Proofs.YtplbiahehondaaaW.PrintMore
attribute [local go_sem] max2_int min2_int max_two min_two max_three min_three max_four min_four
set_option linter.unusedVariables false
set_option linter.unusedSimpArgs false
theorem below_set5 {B gi : Nat} {w W : World} (h : Below B w W) (hg : B ≤ gi) (a b c d e : Nat) (u1 u2 u3 u4 u5 : Value) : Below B w (((((W.setCell ⟨gi, a, none⟩ u1).setCell ⟨gi, b, none⟩ u2).setCell ⟨gi, c, none⟩ u3).setCell ⟨gi, d, none⟩ u4).setCell ⟨gi, e, none⟩ u5) :=
 ((((h.setCell (p := ⟨gi, a, none⟩) hg _).setCell (p := ⟨gi, b, none⟩) hg _).setCell (p := ⟨gi, c, none⟩) hg _).setCell (p := ⟨gi, d, none⟩) hg _).setCell (p := ⟨gi, e, none⟩) hg _
set_option maxHeartbeats 8000000 in
set_option maxRecDepth 100000 in
theorem impl_FlashWrite.good (K : Nat) (A0 : Option Addr) (c0 : Nat) (l0 : List S53) (b r0 r1 r2 r3 n : Int) (tn u : Bool) (w : World) (hr0 : Kd.C k53 w A0 l0.length l0) (hc0 : l0.length ≤ c0) (hf : flashOkB l0 = true) (hlen : l0.length = 4) (hall : ∀ x ∈ l0, x.f0.length = 4)
 (hb : 0 ≤ b ∧ b < 4) (hrec : recOkB r0 r1 r2 r3 = true) (hp : (rd_T53 l0 b).f0.length = 4) (hn : impl_freePages.f K (rd_T53 l0 b).f0 (rd_T53 l0 b).f1 = some n) (hn0 : 0 ≤ n ∧ n ≤ 4) (hu0 : impl_seqUsed.f K l0 r1 = some u) :
 Calls Try.prog 10 #[.slice A0 l0.length c0, .int .i64 b, .agg #[.int .i64 r0, .int .i64 r1, .int .i64 r2, .int .i64 r3], .bool tn] w fun e w' => ∃ v, e = .returned (.tuple #[v, .bool (okFW n u)]) ∧ Kd.S kb_ 53 w' w.heap.size (fun k => w.heap.size ≤ k) v (outFW l0 b n u (pageFW r0 r1 r2 r3 tn)) ∧ Below w.heap.size w w' := by
 have hu := Try.underlying27
 have hu2 := Try.underlying53
 have hu3 := Try.underlying49
 have HC := am (And.intro hr0 hc0)
 have HL := am (And.intro hlen hall)
 have HF := am hf
 have HN := am hn
 have HU := am hu0
 have HP := am hp
 have HREC := am hrec
 have HB0 := am hb
 clear hr0 hc0 hlen hall hf hn hu0 hp hrec hb
 have hbx := blk_new w (.cells #[.int .i64 r0, .int .i64 r1, .int .i64 r2, .int .i64 r3] 27)
 have hB1 := below_alloc (Below.refl _ w) (.cells #[.int .i64 r0, .int .i64 r1, .int .i64 r2, .int .i64 r3] 27)
 go_enter Try.func10, Try.ntmps10
 go_wp2_with fail
 refine (impl_FlashOk.calls A0 c0 l0 (flashOkB l0) _ (Kd.C_below HC.out.1 hB1) HC.out.2 rfl).mono ?_
 rintro e w2 ⟨rfl, hb⟩
 rw [HF.out]
 have hB2 := below_then hB1 hB1.size hb
 have hbx2 := blk_below hbx hb
 clear hB1 hbx hb
 go_wp2_with fail
 refine (impl_blockOk.calls b _ _ (blockOk_eq b)).mono ?_
 rintro e w3 ⟨rfl, hd⟩
 rw [decide_eq_true HB0.out]
 have hB3 := below_then hB2 hB2.size hd.below
 have hbx3 := blk_below hbx2 hd.below
 clear hB2 hbx2 hd
 have q0 : w3.cell? ⟨w.heap.size, 0, none⟩ = some (.int .i64 r0) := (blk_cell hbx3 0).trans rfl
 have q1 : w3.cell? ⟨w.heap.size, 1, none⟩ = some (.int .i64 r1) := (blk_cell hbx3 1).trans rfl
 have q2 : w3.cell? ⟨w.heap.size, 2, none⟩ = some (.int .i64 r2) := (blk_cell hbx3 2).trans rfl
 have q3 : w3.cell? ⟨w.heap.size, 3, none⟩ = some (.int .i64 r3) := (blk_cell hbx3 3).trans rfl
 go_wp2_with fail
 refine (impl_RecOk.calls r0 r1 r2 r3 (recOkB r0 r1 r2 r3) _ rfl).mono ?_
 rintro e w4 ⟨rfl, hb⟩
 rw [HREC.out]
 have hB4 := below_then hB3 hB3.size hb
 have hbx4 := blk_below hbx3 hb
 clear hB3 hb hbx3 q0 q1 q2 q3
 go_wp2_with fail
 refine (impl_flashCopy.calls A0 c0 l0 _ (Kd.C_below HC.out.1 hB4) (by have := HL.out.1; omega) (by have := HL.out.1; omega) HL.out.2).mono ?_
 rintro e w5 ⟨v, rfl, hS, hb⟩
 have hB5 := below_then hB4 hB4.size hb
 have hbx5 := blk_below hbx4 hb
 have hS := Kd.S_mono (Kd.S_lower hS hB4.size) (ok' := fun k => w.heap.size ≤ k) (fun k hk => Nat.le_trans hB4.size hk)
 clear hB4 hb hbx4
 obtain ⟨g, cap, rfl, hgb, hgl, cellsg, hcg⟩ := Kd.S_form hS (by have := HL.out.1; omega)
 have hb4 : b < (l0.length : Int) := by have := HL.out.1; have := HB0.out; omega
 obtain ⟨oki, c, hcl, hM, hcc, hfr, hoki, hH⟩ := Kd.S_elem hS z53 b HB0.out.1 hb4
 obtain ⟨v0, rfl, hR⟩ := kb__openM hM
 have esz : (kb_).sz = 2 := rfl
 have o0 := hcc 0 _ rfl
 have o1 := hcc 1 _ rfl
 rw [esz, Nat.add_zero] at o0
 rw [esz] at o1
 have hR : k49.R 85 w5 w.heap.size oki v0 (rd_T53 l0 b).f0 := hR
 replace o1 : w5.cell? ⟨g, b.toNat * 2 + 1, none⟩ = some (.int .i64 (rd_T53 l0 b).f1) := o1
 obtain ⟨gi, ci, rfl, hgib, hgil, cellsi, hcgi⟩ := Kd.R_form hR (by rw [HP.out]; decide)
 have hRr := Kd.R_reads' hR
 have hgne : gi ≠ g := (hoki gi (hR.1 gi rfl)).2
 clear hcl hM hcc hfr hoki hH esz
 have HS := am hS
 have HRR := am hRr
 have HR := am hR
 have HCG := am hcg
 have HCI := am hcgi
 clear hS hRr hR hcg hcgi
 have hbt := decide_eq_true hb4
 have hbq : (b < (l0.length : Int)) = True := eq_true hb4
 have hbp : ((0 : Int) ≤ b) = True := eq_true HB0.out.1
 clear hb4
 go_wp2_with fail
 refine (impl_freePages.calls K (some ⟨gi, 0, none⟩) ci (rd_T53 l0 b).f0 (rd_T53 l0 b).f1 n _ HRR.out.2.2 HRR.out.2.1 HN.out).mono ?_
 rintro e w6 ⟨rfl, hb6⟩
 have hB6 := below_then hB5 hB5.size hb6
 have hbx6 := blk_below hbx5 hb6
 have hS6 := Kd.S_below HS.out hb6
 clear hbx5 hB5
 by_cases hnz : n = 0
 · subst hnz
   clear hbq hbp hbt
   go_wp2
   refine bodyPost_ret (results_tmp2 rfl _ _ _) rfl ?_
   refine ⟨.slice (some ⟨g, 0, none⟩) l0.length cap, rfl, ?_, hB6⟩
   rw [(outFW_no (Or.inl rfl)).1]
   exact hS6
 have hne : (n == 0) = false := by simpa using hnz
 have q1 : w6.cell? ⟨w.heap.size, 1, none⟩ = some (.int .i64 r1) := (blk_cell hbx6 1).trans rfl
 have HS6 := am hS6
 clear hS6
 go_wp2_with fail
 refine (impl_seqUsed.calls K (some ⟨g, 0, none⟩) cap l0 r1 u _ (kb_C (Kd.S_reads' HS6.out).2.2) (Kd.S_reads' HS6.out).2.1 HU.out).mono ?_
 rintro e w7 ⟨rfl, hb7⟩
 have hB7 := below_then hB6 hB6.size hb7
 have hbx7 := blk_below hbx6 hb7
 have hS7 := Kd.S_below HS6.out hb7
 have hb57 := below_then hb6 hb6.size hb7
 have hnd : decide (n ≠ 0) = true := decide_eq_true hnz
 cases u with
 | true =>
  clear q1 hbq hbp hbt o0 o1
  go_wp2
  refine bodyPost_ret (results_tmp2 rfl _ _ _) rfl ?_
  refine ⟨.slice (some ⟨g, 0, none⟩) l0.length cap, ?_, ?_, hB7⟩
  · rw [(outFW_no (l0 := l0) (b := b) (p := pageFW r0 r1 r2 r3 tn) (Or.inr rfl)).2]
    rfl
  · rw [(outFW_no (Or.inr rfl)).1]
    exact hS7
 | false =>
  have HS7 := am hS7
  have HB7 := am hB7
  have HND := am hnd
  have HNZ := am hnz
  have p0 := up hb57 o0
  have p1 := up hb57 o1
  have HCG7 := blk_below HCG.out hb57
  have HCI7 := blk_below HCI.out hb57
  have HR7 := am (Kd.R_below HR.out hb57)
  clear q1 o0 o1 hS7 hB7 hnd hb57 hb7 hbx6 hB6 hb6 hne hnz hgl hgil
  have q0 : w7.cell? ⟨w.heap.size, 0, none⟩ = some (.int .i64 r0) := (blk_cell hbx7 0).trans rfl
  have q1 : w7.cell? ⟨w.heap.size, 1, none⟩ = some (.int .i64 r1) := (blk_cell hbx7 1).trans rfl
  have q2 : w7.cell? ⟨w.heap.size, 2, none⟩ = some (.int .i64 r2) := (blk_cell hbx7 2).trans rfl
  have q3 : w7.cell? ⟨w.heap.size, 3, none⟩ = some (.int .i64 r3) := (blk_cell hbx7 3).trans rfl
  have l1 := blk_lt hbx7
  have l2 := blk_lt HCG7
  have l3 := blk_lt HCI7
  obtain rfl | rfl | rfl | rfl : n = 1 ∨ n = 2 ∨ n = 3 ∨ n = 4 := by have := HNZ.out; omega
  · cases tn with
    | true =>
     obtain ⟨ce, hce, hMe, hcce, hfre⟩ := Kd.R_elem HR7.out z49 (3 : Int) (by decide) (by have := HP.out; omega)
     obtain rfl := k49_openM hMe
     have d0 := hcce 0 _ rfl
     have f0 := hfre 0
     have d1 := hcce 1 _ rfl
     have f1 := hfre 1
     have d2 := hcce 2 _ rfl
     have f2 := hfre 2
     have d3 := hcce 3 _ rfl
     have f3 := hfre 3
     have d4 := hcce 4 _ rfl
     have f4 := hfre 4
     rw [show (Int.toNat 3) * (k49).sz = 15 from rfl] at d0 d1 d2 d3 d4 f0 f1 f2 f3 f4
     simp only [Nat.reduceAdd] at d0 d1 d2 d3 d4 f0 f1 f2 f3 f4
     clear hcce hfre hce hMe
     have hpl := HP.out
     rw [hpl] at p0
     go_wp2_with fail
     go_region
     have hst : Kd.S kb_ 53 (((((w7.setCell ⟨gi, 15, none⟩ (.int .i64 2)).setCell ⟨gi, 16, none⟩ (.int .i64 0)).setCell ⟨gi, 17, none⟩ (.int .i64 0)).setCell ⟨gi, 18, none⟩ (.int .i64 0)).setCell ⟨gi, 19, none⟩ (.int .i64 0)) w.heap.size (fun k => w.heap.size ≤ k) (.slice (some ⟨g, 0, none⟩) l0.length cap) (listFW l0 b 1 (pageFW r0 r1 r2 r3 true)) := S_page HS7.out b HB0.out.1 (of_decide_eq_true hbt) p0 (3 : Int) (by decide) (by decide) (pageFW r0 r1 r2 r3 true)
     have hbl : Below w.heap.size w (((((w7.setCell ⟨gi, 15, none⟩ (.int .i64 2)).setCell ⟨gi, 16, none⟩ (.int .i64 0)).setCell ⟨gi, 17, none⟩ (.int .i64 0)).setCell ⟨gi, 18, none⟩ (.int .i64 0)).setCell ⟨gi, 19, none⟩ (.int .i64 0)) := below_set5 HB7.out hgib _ _ _ _ _ _ _ _ _ _
     clear p0 p1 q0 q1 q2 q3 d0 d1 d2 d3 d4 f0 f1 f2 f3 f4 hbq hbp hbt
     go_wp2
     refine bodyPost_ret (results_tmp2 rfl _ _ _) rfl ?_
     refine ⟨.slice (some ⟨g, 0, none⟩) l0.length cap, ?_, ?_, below_drew (below_alloc hbl _)⟩
     · rw [(outFW_yes (l0 := l0) (b := b) (p := pageFW r0 r1 r2 r3 true) (show (1 : Int) ≠ 0 by decide)).2]
       rfl
     · rw [(outFW_yes (show (1 : Int) ≠ 0 by decide)).1]
       exact Kd.S_drew (Kd.S_alloc hst _)
    | false =>
     obtain ⟨ce, hce, hMe, hcce, hfre⟩ := Kd.R_elem HR7.out z49 (3 : Int) (by decide) (by have := HP.out; omega)
     obtain rfl := k49_openM hMe
     have d0 := hcce 0 _ rfl
     have f0 := hfre 0
     have d1 := hcce 1 _ rfl
     have f1 := hfre 1
     have d2 := hcce 2 _ rfl
     have f2 := hfre 2
     have d3 := hcce 3 _ rfl
     have f3 := hfre 3
     have d4 := hcce 4 _ rfl
     have f4 := hfre 4
     rw [show (Int.toNat 3) * (k49).sz = 15 from rfl] at d0 d1 d2 d3 d4 f0 f1 f2 f3 f4
     simp only [Nat.reduceAdd] at d0 d1 d2 d3 d4 f0 f1 f2 f3 f4
     clear hcce hfre hce hMe
     have hpl := HP.out
     rw [hpl] at p0
     go_wp2_with fail
     go_region
     have hst : Kd.S kb_ 53 (((((w7.setCell ⟨gi, 15, none⟩ (.int .i64 1)).setCell ⟨gi, 16, none⟩ (.int .i64 r0)).setCell ⟨gi, 17, none⟩ (.int .i64 r1)).setCell ⟨gi, 18, none⟩ (.int .i64 r2)).setCell ⟨gi, 19, none⟩ (.int .i64 r3)) w.heap.size (fun k => w.heap.size ≤ k) (.slice (some ⟨g, 0, none⟩) l0.length cap) (listFW l0 b 1 (pageFW r0 r1 r2 r3 false)) := S_page HS7.out b HB0.out.1 (of_decide_eq_true hbt) p0 (3 : Int) (by decide) (by decide) (pageFW r0 r1 r2 r3 false)
     have hbl : Below w.heap.size w (((((w7.setCell ⟨gi, 15, none⟩ (.int .i64 1)).setCell ⟨gi, 16, none⟩ (.int .i64 r0)).setCell ⟨gi, 17, none⟩ (.int .i64 r1)).setCell ⟨gi, 18, none⟩ (.int .i64 r2)).setCell ⟨gi, 19, none⟩ (.int .i64 r3)) := below_set5 HB7.out hgib _ _ _ _ _ _ _ _ _ _
     clear p0 p1 q0 q1 q2 q3 d0 d1 d2 d3 d4 f0 f1 f2 f3 f4 hbq hbp hbt
     go_wp2
     refine bodyPost_ret (results_tmp2 rfl _ _ _) rfl ?_
     refine ⟨.slice (some ⟨g, 0, none⟩) l0.length cap, ?_, ?_, below_drew (below_alloc hbl _)⟩
     · rw [(outFW_yes (l0 := l0) (b := b) (p := pageFW r0 r1 r2 r3 false) (show (1 : Int) ≠ 0 by decide)).2]
       rfl
     · rw [(outFW_yes (show (1 : Int) ≠ 0 by decide)).1]
       exact Kd.S_drew (Kd.S_alloc hst _)
  · cases tn with
    | true =>
     obtain ⟨ce, hce, hMe, hcce, hfre⟩ := Kd.R_elem HR7.out z49 (2 : Int) (by decide) (by have := HP.out; omega)
     obtain rfl := k49_openM hMe
     have d0 := hcce 0 _ rfl
     have f0 := hfre 0
     have d1 := hcce 1 _ rfl
     have f1 := hfre 1
     have d2 := hcce 2 _ rfl
     have f2 := hfre 2
     have d3 := hcce 3 _ rfl
     have f3 := hfre 3
     have d4 := hcce 4 _ rfl
     have f4 := hfre 4
     rw [show (Int.toNat 2) * (k49).sz = 10 from rfl] at d0 d1 d2 d3 d4 f0 f1 f2 f3 f4
     simp only [Nat.reduceAdd] at d0 d1 d2 d3 d4 f0 f1 f2 f3 f4
     clear hcce hfre hce hMe
     have hpl := HP.out
     rw [hpl] at p0
     go_wp2_with fail
     go_region
     have hst : Kd.S kb_ 53 (((((w7.setCell ⟨gi, 10, none⟩ (.int .i64 2)).setCell ⟨gi, 11, none⟩ (.int .i64 0)).setCell ⟨gi, 12, none⟩ (.int .i64 0)).setCell ⟨gi, 13, none⟩ (.int .i64 0)).setCell ⟨gi, 14, none⟩ (.int .i64 0)) w.heap.size (fun k => w.heap.size ≤ k) (.slice (some ⟨g, 0, none⟩) l0.length cap) (listFW l0 b 2 (pageFW r0 r1 r2 r3 true)) := S_page HS7.out b HB0.out.1 (of_decide_eq_true hbt) p0 (2 : Int) (by decide) (by decide) (pageFW r0 r1 r2 r3 true)
     have hbl : Below w.heap.size w (((((w7.setCell ⟨gi, 10, none⟩ (.int .i64 2)).setCell ⟨gi, 11, none⟩ (.int .i64 0)).setCell ⟨gi, 12, none⟩ (.int .i64 0)).setCell ⟨gi, 13, none⟩ (.int .i64 0)).setCell ⟨gi, 14, none⟩ (.int .i64 0)) := below_set5 HB7.out hgib _ _ _ _ _ _ _ _ _ _
     clear p0 p1 q0 q1 q2 q3 d0 d1 d2 d3 d4 f0 f1 f2 f3 f4 hbq hbp hbt
     go_wp2
     refine bodyPost_ret (results_tmp2 rfl _ _ _) rfl ?_
     refine ⟨.slice (some ⟨g, 0, none⟩) l0.length cap, ?_, ?_, below_drew (below_alloc hbl _)⟩
     · rw [(outFW_yes (l0 := l0) (b := b) (p := pageFW r0 r1 r2 r3 true) (show (2 : Int) ≠ 0 by decide)).2]
       rfl
     · rw [(outFW_yes (show (2 : Int) ≠ 0 by decide)).1]
       exact Kd.S_drew (Kd.S_alloc hst _)
    | false =>
     obtain ⟨ce, hce, hMe, hcce, hfre⟩ := Kd.R_elem HR7.out z49 (2 : Int) (by decide) (by have := HP.out; omega)
     obtain rfl := k49_openM hMe
     have d0 := hcce 0 _ rfl
     have f0 := hfre 0
     have d1 := hcce 1 _ rfl
     have f1 := hfre 1
     have d2 := hcce 2 _ rfl
     have f2 := hfre 2
     have d3 := hcce 3 _ rfl
     have f3 := hfre 3
     have d4 := hcce 4 _ rfl
     have f4 := hfre 4
     rw [show (Int.toNat 2) * (k49).sz = 10 from rfl] at d0 d1 d2 d3 d4 f0 f1 f2 f3 f4
     simp only [Nat.reduceAdd] at d0 d1 d2 d3 d4 f0 f1 f2 f3 f4
     clear hcce hfre hce hMe
     have hpl := HP.out
     rw [hpl] at p0
     go_wp2_with fail
     go_region
     have hst : Kd.S kb_ 53 (((((w7.setCell ⟨gi, 10, none⟩ (.int .i64 1)).setCell ⟨gi, 11, none⟩ (.int .i64 r0)).setCell ⟨gi, 12, none⟩ (.int .i64 r1)).setCell ⟨gi, 13, none⟩ (.int .i64 r2)).setCell ⟨gi, 14, none⟩ (.int .i64 r3)) w.heap.size (fun k => w.heap.size ≤ k) (.slice (some ⟨g, 0, none⟩) l0.length cap) (listFW l0 b 2 (pageFW r0 r1 r2 r3 false)) := S_page HS7.out b HB0.out.1 (of_decide_eq_true hbt) p0 (2 : Int) (by decide) (by decide) (pageFW r0 r1 r2 r3 false)
     have hbl : Below w.heap.size w (((((w7.setCell ⟨gi, 10, none⟩ (.int .i64 1)).setCell ⟨gi, 11, none⟩ (.int .i64 r0)).setCell ⟨gi, 12, none⟩ (.int .i64 r1)).setCell ⟨gi, 13, none⟩ (.int .i64 r2)).setCell ⟨gi, 14, none⟩ (.int .i64 r3)) := below_set5 HB7.out hgib _ _ _ _ _ _ _ _ _ _
     clear p0 p1 q0 q1 q2 q3 d0 d1 d2 d3 d4 f0 f1 f2 f3 f4 hbq hbp hbt
     go_wp2
     refine bodyPost_ret (results_tmp2 rfl _ _ _) rfl ?_
     refine ⟨.slice (some ⟨g, 0, none⟩) l0.length cap, ?_, ?_, below_drew (below_alloc hbl _)⟩
     · rw [(outFW_yes (l0 := l0) (b := b) (p := pageFW r0 r1 r2 r3 false) (show (2 : Int) ≠ 0 by decide)).2]
       rfl
     · rw [(outFW_yes (show (2 : Int) ≠ 0 by decide)).1]
       exact Kd.S_drew (Kd.S_alloc hst _)
  · cases tn with
    | true =>
     obtain ⟨ce, hce, hMe, hcce, hfre⟩ := Kd.R_elem HR7.out z49 (1 : Int) (by decide) (by have := HP.out; omega)
     obtain rfl := k49_openM hMe
     have d0 := hcce 0 _ rfl
     have f0 := hfre 0
     have d1 := hcce 1 _ rfl
     have f1 := hfre 1
     have d2 := hcce 2 _ rfl
     have f2 := hfre 2
     have d3 := hcce 3 _ rfl
     have f3 := hfre 3
     have d4 := hcce 4 _ rfl
     have f4 := hfre 4
     rw [show (Int.toNat 1) * (k49).sz = 5 from rfl] at d0 d1 d2 d3 d4 f0 f1 f2 f3 f4
     simp only [Nat.reduceAdd] at d0 d1 d2 d3 d4 f0 f1 f2 f3 f4
     clear hcce hfre hce hMe
     have hpl := HP.out
     rw [hpl] at p0
     go_wp2_with fail
     go_region
     have hst : Kd.S kb_ 53 (((((w7.setCell ⟨gi, 5, none⟩ (.int .i64 2)).setCell ⟨gi, 6, none⟩ (.int .i64 0)).setCell ⟨gi, 7, none⟩ (.int .i64 0)).setCell ⟨gi, 8, none⟩ (.int .i64 0)).setCell ⟨gi, 9, none⟩ (.int .i64 0)) w.heap.size (fun k => w.heap.size ≤ k) (.slice (some ⟨g, 0, none⟩) l0.length cap) (listFW l0 b 3 (pageFW r0 r1 r2 r3 true)) := S_page HS7.out b HB0.out.1 (of_decide_eq_true hbt) p0 (1 : Int) (by decide) (by decide) (pageFW r0 r1 r2 r3 true)
     have hbl : Below w.heap.size w (((((w7.setCell ⟨gi, 5, none⟩ (.int .i64 2)).setCell ⟨gi, 6, none⟩ (.int .i64 0)).setCell ⟨gi, 7, none⟩ (.int .i64 0)).setCell ⟨gi, 8, none⟩ (.int .i64 0)).setCell ⟨gi, 9, none⟩ (.int .i64 0)) := below_set5 HB7.out hgib _ _ _ _ _ _ _ _ _ _
     clear p0 p1 q0 q1 q2 q3 d0 d1 d2 d3 d4 f0 f1 f2 f3 f4 hbq hbp hbt
     go_wp2
     refine bodyPost_ret (results_tmp2 rfl _ _ _) rfl ?_
     refine ⟨.slice (some ⟨g, 0, none⟩) l0.length cap, ?_, ?_, below_drew (below_alloc hbl _)⟩
     · rw [(outFW_yes (l0 := l0) (b := b) (p := pageFW r0 r1 r2 r3 true) (show (3 : Int) ≠ 0 by decide)).2]
       rfl
     · rw [(outFW_yes (show (3 : Int) ≠ 0 by decide)).1]
       exact Kd.S_drew (Kd.S_alloc hst _)
    | false =>
     obtain ⟨ce, hce, hMe, hcce, hfre⟩ := Kd.R_elem HR7.out z49 (1 : Int) (by decide) (by have := HP.out; omega)
     obtain rfl := k49_openM hMe
     have d0 := hcce 0 _ rfl
     have f0 := hfre 0
     have d1 := hcce 1 _ rfl
     have f1 := hfre 1
     have d2 := hcce 2 _ rfl
     have f2 := hfre 2
     have d3 := hcce 3 _ rfl
     have f3 := hfre 3
     have d4 := hcce 4 _ rfl
     have f4 := hfre 4
     rw [show (Int.toNat 1) * (k49).sz = 5 from rfl] at d0 d1 d2 d3 d4 f0 f1 f2 f3 f4
     simp only [Nat.reduceAdd] at d0 d1 d2 d3 d4 f0 f1 f2 f3 f4
     clear hcce hfre hce hMe
     have hpl := HP.out
     rw [hpl] at p0
     go_wp2_with fail
     go_region
     have hst : Kd.S kb_ 53 (((((w7.setCell ⟨gi, 5, none⟩ (.int .i64 1)).setCell ⟨gi, 6, none⟩ (.int .i64 r0)).setCell ⟨gi, 7, none⟩ (.int .i64 r1)).setCell ⟨gi, 8, none⟩ (.int .i64 r2)).setCell ⟨gi, 9, none⟩ (.int .i64 r3)) w.heap.size (fun k => w.heap.size ≤ k) (.slice (some ⟨g, 0, none⟩) l0.length cap) (listFW l0 b 3 (pageFW r0 r1 r2 r3 false)) := S_page HS7.out b HB0.out.1 (of_decide_eq_true hbt) p0 (1 : Int) (by decide) (by decide) (pageFW r0 r1 r2 r3 false)
     have hbl : Below w.heap.size w (((((w7.setCell ⟨gi, 5, none⟩ (.int .i64 1)).setCell ⟨gi, 6, none⟩ (.int .i64 r0)).setCell ⟨gi, 7, none⟩ (.int .i64 r1)).setCell ⟨gi, 8, none⟩ (.int .i64 r2)).setCell ⟨gi, 9, none⟩ (.int .i64 r3)) := below_set5 HB7.out hgib _ _ _ _ _ _ _ _ _ _
     clear p0 p1 q0 q1 q2 q3 d0 d1 d2 d3 d4 f0 f1 f2 f3 f4 hbq hbp hbt
     go_wp2
     refine bodyPost_ret (results_tmp2 rfl _ _ _) rfl ?_
     refine ⟨.slice (some ⟨g, 0, none⟩) l0.length cap, ?_, ?_, below_drew (below_alloc hbl _)⟩
     · rw [(outFW_yes (l0 := l0) (b := b) (p := pageFW r0 r1 r2 r3 false) (show (3 : Int) ≠ 0 by decide)).2]
       rfl
     · rw [(outFW_yes (show (3 : Int) ≠ 0 by decide)).1]
       exact Kd.S_drew (Kd.S_alloc hst _)
  · cases tn with
    | true =>
     obtain ⟨ce, hce, hMe, hcce, hfre⟩ := Kd.R_elem HR7.out z49 (0 : Int) (by decide) (by have := HP.out; omega)
     obtain rfl := k49_openM hMe
     have d0 := hcce 0 _ rfl
     have f0 := hfre 0
     have d1 := hcce 1 _ rfl
     have f1 := hfre 1
     have d2 := hcce 2 _ rfl
     have f2 := hfre 2
     have d3 := hcce 3 _ rfl
     have f3 := hfre 3
     have d4 := hcce 4 _ rfl
     have f4 := hfre 4
     rw [show (Int.toNat 0) * (k49).sz = 0 from rfl] at d0 d1 d2 d3 d4 f0 f1 f2 f3 f4
     simp only [Nat.reduceAdd] at d0 d1 d2 d3 d4 f0 f1 f2 f3 f4
     clear hcce hfre hce hMe
     have hpl := HP.out
     rw [hpl] at p0
     go_wp2_with fail
     go_region
     have hst : Kd.S kb_ 53 (((((w7.setCell ⟨gi, 0, none⟩ (.int .i64 2)).setCell ⟨gi, 1, none⟩ (.int .i64 0)).setCell ⟨gi, 2, none⟩ (.int .i64 0)).setCell ⟨gi, 3, none⟩ (.int .i64 0)).setCell ⟨gi, 4, none⟩ (.int .i64 0)) w.heap.size (fun k => w.heap.size ≤ k) (.slice (some ⟨g, 0, none⟩) l0.length cap) (listFW l0 b 4 (pageFW r0 r1 r2 r3 true)) := S_page HS7.out b HB0.out.1 (of_decide_eq_true hbt) p0 (0 : Int) (by decide) (by decide) (pageFW r0 r1 r2 r3 true)
     have hbl : Below w.heap.size w (((((w7.setCell ⟨gi, 0, none⟩ (.int .i64 2)).setCell ⟨gi, 1, none⟩ (.int .i64 0)).setCell ⟨gi, 2, none⟩ (.int .i64 0)).setCell ⟨gi, 3, none⟩ (.int .i64 0)).setCell ⟨gi, 4, none⟩ (.int .i64 0)) := below_set5 HB7.out hgib _ _ _ _ _ _ _ _ _ _
     clear p0 p1 q0 q1 q2 q3 d0 d1 d2 d3 d4 f0 f1 f2 f3 f4 hbq hbp hbt
     go_wp2
     refine bodyPost_ret (results_tmp2 rfl _ _ _) rfl ?_
     refine ⟨.slice (some ⟨g, 0, none⟩) l0.length cap, ?_, ?_, below_drew (below_alloc hbl _)⟩
     · rw [(outFW_yes (l0 := l0) (b := b) (p := pageFW r0 r1 r2 r3 true) (show (4 : Int) ≠ 0 by decide)).2]
       rfl
     · rw [(outFW_yes (show (4 : Int) ≠ 0 by decide)).1]
       exact Kd.S_drew (Kd.S_alloc hst _)
    | false =>
     obtain ⟨ce, hce, hMe, hcce, hfre⟩ := Kd.R_elem HR7.out z49 (0 : Int) (by decide) (by have := HP.out; omega)
     obtain rfl := k49_openM hMe
     have d0 := hcce 0 _ rfl
     have f0 := hfre 0
     have d1 := hcce 1 _ rfl
     have f1 := hfre 1
     have d2 := hcce 2 _ rfl
     have f2 := hfre 2
     have d3 := hcce 3 _ rfl
     have f3 := hfre 3
     have d4 := hcce 4 _ rfl
     have f4 := hfre 4
     rw [show (Int.toNat 0) * (k49).sz = 0 from rfl] at d0 d1 d2 d3 d4 f0 f1 f2 f3 f4
     simp only [Nat.reduceAdd] at d0 d1 d2 d3 d4 f0 f1 f2 f3 f4
     clear hcce hfre hce hMe
     have hpl := HP.out
     rw [hpl] at p0
     go_wp2_with fail
     go_region
     have hst : Kd.S kb_ 53 (((((w7.setCell ⟨gi, 0, none⟩ (.int .i64 1)).setCell ⟨gi, 1, none⟩ (.int .i64 r0)).setCell ⟨gi, 2, none⟩ (.int .i64 r1)).setCell ⟨gi, 3, none⟩ (.int .i64 r2)).setCell ⟨gi, 4, none⟩ (.int .i64 r3)) w.heap.size (fun k => w.heap.size ≤ k) (.slice (some ⟨g, 0, none⟩) l0.length cap) (listFW l0 b 4 (pageFW r0 r1 r2 r3 false)) := S_page HS7.out b HB0.out.1 (of_decide_eq_true hbt) p0 (0 : Int) (by decide) (by decide) (pageFW r0 r1 r2 r3 false)
     have hbl : Below w.heap.size w (((((w7.setCell ⟨gi, 0, none⟩ (.int .i64 1)).setCell ⟨gi, 1, none⟩ (.int .i64 r0)).setCell ⟨gi, 2, none⟩ (.int .i64 r1)).setCell ⟨gi, 3, none⟩ (.int .i64 r2)).setCell ⟨gi, 4, none⟩ (.int .i64 r3)) := below_set5 HB7.out hgib _ _ _ _ _ _ _ _ _ _
     clear p0 p1 q0 q1 q2 q3 d0 d1 d2 d3 d4 f0 f1 f2 f3 f4 hbq hbp hbt
     go_wp2
     refine bodyPost_ret (results_tmp2 rfl _ _ _) rfl ?_
     refine ⟨.slice (some ⟨g, 0, none⟩) l0.length cap, ?_, ?_, below_drew (below_alloc hbl _)⟩
     · rw [(outFW_yes (l0 := l0) (b := b) (p := pageFW r0 r1 r2 r3 false) (show (4 : Int) ≠ 0 by decide)).2]
       rfl
     · rw [(outFW_yes (show (4 : Int) ≠ 0 by decide)).1]
       exact Kd.S_drew (Kd.S_alloc hst _)
theorem Sb_V {W : World} {base : Nat} {ok : Nat → Prop} {v : Value} {xs : List S53} (h : Kd.S kb_ 53 W base ok v xs) : Kd.V k53 53 W base ok v xs := by
 obtain ⟨A, c, rfl⟩ := Kd.S_slice h
 exact ⟨A, c, rfl, (Kd.S_reads' h).2.1, Kd.F_imp (Kd.S_F h) (fun _ hC => kb_C hC)⟩
theorem blocksB_four : ∀ (l : List S53) (S : List Int), blocksB l S = true → ∀ b ∈ l, b.f0.length = 4
 | [], _, _, _, hb => by cases hb
 | b :: bs, S, h, c, hc => by
  rw [blocksB, Bool.and_eq_true] at h
  obtain ⟨h1, h2⟩ := h
  rcases List.mem_cons.1 hc with rfl | hc
  · unfold blockB at h1
    rw [Bool.and_eq_true, decide_eq_true_eq] at h1
    omega
  · cases hp : pagesB b.f0 S with
    | none => rw [hp] at h2; cases h2
    | some S' =>
     rw [hp] at h2
     exact blocksB_four bs S' h2 c hc
def impl_FlashWrite.f (k : Nat) (l0 : List (S53)) (b r0 r1 r2 r3 : Int) (tn : Bool) : Option (List (S53) × Bool) :=
 if flashOkB l0 = true ∧ (0 ≤ b ∧ b < 4) ∧ recOkB r0 r1 r2 r3 = true then (impl_freePages.f k (rd_T53 l0 b).f0 (rd_T53 l0 b).f1).bind fun n => (impl_seqUsed.f k l0 r1).bind fun u => if 0 ≤ n ∧ n ≤ 4 then some (outFW l0 b n u (pageFW r0 r1 r2 r3 tn), okFW n u) else none
 else some ([], false)
theorem impl_FlashWrite.mono : ∀ a0 a1 a2 a3 a4 a5 a6 k, LeO (impl_FlashWrite.f k a0 a1 a2 a3 a4 a5 a6) (impl_FlashWrite.f (k + 1) a0 a1 a2 a3 a4 a5 a6) := by
 intro a0 a1 a2 a3 a4 a5 a6 k
 unfold impl_FlashWrite.f
 exact LeO.ite (LeO.bind (impl_freePages.mono _ _ _) (fun _ => LeO.bind (impl_seqUsed.mono _ _ _) (fun _ => LeO.refl _))) (LeO.refl _)
theorem impl_FlashWrite.calls (k : Nat) (A0 : Option Addr) (c0 : Nat) (l0 : List (S53)) (a1 : Int) (a2_0 : Int) (a2_1 : Int) (a2_2 : Int) (a2_3 : Int) (a3 : Bool) (r1 : List (S53)) (r2 : Bool) (w : World) (hr0 : Kd.C k53 w A0 l0.length l0) (hc0 : l0.length ≤ c0) (h : impl_FlashWrite.f k l0 a1 a2_0 a2_1 a2_2 a2_3 a3 = some (r1, r2)) :
 Calls Try.prog 10 #[.slice A0 l0.length c0, .int .i64 a1, .agg #[.int .i64 a2_0, .int .i64 a2_1, .int .i64 a2_2, .int .i64 a2_3], .bool a3] w fun e w' => ∃ v0_ : Value, e = .returned (.tuple #[v0_, .bool r2]) ∧ Kd.V k53 53 w' w.heap.size (fun k_ => w.heap.size ≤ k_) v0_ r1 ∧ Below w.heap.size w w' := by
 unfold impl_FlashWrite.f at h
 by_cases hg : flashOkB l0 = true ∧ (0 ≤ a1 ∧ a1 < 4) ∧ recOkB a2_0 a2_1 a2_2 a2_3 = true
 rotate_left
 · rw [if_neg hg] at h
   have e := Prod.mk.inj (Option.some.inj h)
   rw [← e.1, ← e.2]
   refine (impl_FlashWrite.bad A0 c0 l0 a1 a2_0 a2_1 a2_2 a2_3 a3 w hr0 hc0 hg).mono ?_
   rintro e w' ⟨rfl, hb⟩
   exact ⟨_, rfl, Kd.V_nil _ _ _ _ _, hb⟩
 rw [if_pos hg] at h
 obtain ⟨n, hn, h⟩ := Option.bind_eq_some_iff.1 h
 obtain ⟨u, hu, h⟩ := Option.bind_eq_some_iff.1 h
 by_cases hn0 : 0 ≤ n ∧ n ≤ 4
 rotate_left
 · rw [if_neg hn0] at h
   cases h
 rw [if_pos hn0] at h
 have e := Prod.mk.inj (Option.some.inj h)
 have hf := hg.1
 have hf2 := hf
 unfold flashOkB at hf2
 rw [Bool.and_eq_true, decide_eq_true_eq] at hf2
 have hall := blocksB_four l0 [] hf2.2
 have hlen : l0.length = 4 := by omega
 have hm : rd_T53 l0 a1 ∈ l0 := by
  unfold rd_T53
  rw [List.getD_eq_getElem?_getD, List.getElem?_eq_getElem (by omega : a1.toNat < l0.length)]
  exact List.getElem_mem _
 rw [← e.1, ← e.2]
 refine (impl_FlashWrite.good k A0 c0 l0 a1 a2_0 a2_1 a2_2 a2_3 n a3 u w hr0 hc0 hf hlen hall hg.2.1 hg.2.2 (hall _ hm) hn hn0 hu).mono ?_
 rintro e w' ⟨v, rfl, hS, hb⟩
 exact ⟨v, rfl, Sb_V hS, hb⟩
end Go.Proofs.Ytplbiahehondaaa.Rx
