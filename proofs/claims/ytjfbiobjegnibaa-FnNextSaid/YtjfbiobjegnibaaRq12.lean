-- printed by wip/pp/pp.py
import Derived.Test.YtjfbiobjegnibaaRq0
import Derived.Test.YtjfbiobjegnibaaRq8
import Derived.Test.YtjfbiobjegnibaaRq9
import Derived.Test.YtjfbiobjegnibaaRq10
import Derived.Test.YtjfbiobjegnibaaRq11
namespace Go.Proofs.Ytjfbiobjegnibaa.Rq
open Go.RowKit Go.Proofs.YtjfbiobjegnibaaW.PrintWords Go.Proofs.YtjfbiobjegnibaaW.PrintLast Go.Proofs.YtjfbiobjegnibaaW.PrintMore
attribute [local go_sem] max2_int min2_int max_two min_two max_three min_three max_four min_four
set_option linter.unusedVariables false
set_option linter.unusedSimpArgs false
theorem below_set5 {B gi : Nat} {w W : World} (h : Below B w W) (hg : B ≤ gi) (a b c d e : Nat) (u1 u2 u3 u4 u5 : Value) : Below B w (((((W.setCell ⟨gi, a, none⟩ u1).setCell ⟨gi, b, none⟩ u2).setCell ⟨gi, c, none⟩ u3).setCell ⟨gi, d, none⟩ u4).setCell ⟨gi, e, none⟩ u5) :=
 ((((h.setCell (p := ⟨gi, a, none⟩) hg _).setCell (p := ⟨gi, b, none⟩) hg _).setCell (p := ⟨gi, c, none⟩) hg _).setCell (p := ⟨gi, d, none⟩) hg _).setCell (p := ⟨gi, e, none⟩) hg _
set_option maxHeartbeats 8000000 in
set_option maxRecDepth 100000 in
theorem impl_FlashWrite.good (K : Nat) (A0 : Option Addr) (c0 : Nat) (l0 : List S33) (b r0 r1 r2 r3 n : Int) (tn u : Bool) (w : World) (hr0 : Kd.C k33 w A0 l0.length l0) (hc0 : l0.length ≤ c0) (hf : flashOkB l0 = true) (hlen : l0.length = 4) (hall : ∀ x ∈ l0, x.f0.length = 4)
 (hb : 0 ≤ b ∧ b < 4) (hrec : recOkB r0 r1 r2 r3 = true) (hp : (rd_T33 l0 b).f0.length = 4) (hn : impl_freePages.f K (rd_T33 l0 b).f0 (rd_T33 l0 b).f1 = some n) (hn0 : 0 ≤ n ∧ n ≤ 4) (hu0 : impl_seqUsed.f K l0 r1 = some u) :
 Calls Try.prog 9 #[.slice A0 l0.length c0, .int .i64 b, .agg #[.int .i64 r0, .int .i64 r1, .int .i64 r2, .int .i64 r3], .bool tn] w fun e w' => ∃ v, e = .returned (.tuple #[v, .bool (okFW n u)]) ∧ Kd.S kb_ 33 w' w.heap.size (fun k => w.heap.size ≤ k) v (outFW l0 b n u (pageFW r0 r1 r2 r3 tn)) ∧ Below w.heap.size w w' := by
 have hu := Try.underlying28
 have hu2 := Try.underlying33
 have hu3 := Try.underlying30
 have HC := am (And.intro hr0 hc0)
 have HL := am (And.intro hlen hall)
 have HF := am hf
 have HN := am hn
 have HU := am hu0
 have HP := am hp
 have HREC := am hrec
 have HB0 := am hb
 clear hr0 hc0 hlen hall hf hn hu0 hp hrec hb
 have hbx := blk_new w (.cells #[.int .i64 r0, .int .i64 r1, .int .i64 r2, .int .i64 r3] 28)
 have hB1 := below_alloc (Below.refl _ w) (.cells #[.int .i64 r0, .int .i64 r1, .int .i64 r2, .int .i64 r3] 28)
 go_enter Try.func9, Try.ntmps9
 go_wp2_with fail
 refine (impl_FlashOk.calls A0 c0 l0 (flashOkB l0) _ (Kd.C_below HC.out.1 hB1) HC.out.2 rfl).mono ?_
 rintro e w2 ⟨rfl, hb⟩
 rw [HF.out]
 have hB2 := below_then hB1 hB1.size hb
 have hbx2 := blk_below hbx hb
 clear hB1 hbx hb
 go_wp2_with fail
 refine (impl_blockOk.calls b _ _ (blockOk_eq b)).mono ?_
 rintro e w3 ⟨rfl, hd⟩
 rw [decide_eq_true HB0.out]
 have hB3 := below_then hB2 hB2.size hd.below
 have hbx3 := blk_below hbx2 hd.below
 clear hB2 hbx2 hd
 have q0 : w3.cell? ⟨w.heap.size, 0, none⟩ = some (.int .i64 r0) := (blk_cell hbx3 0).trans rfl
 have q1 : w3.cell? ⟨w.heap.size, 1, none⟩ = some (.int .i64 r1) := (blk_cell hbx3 1).trans rfl
 have q2 : w3.cell? ⟨w.heap.size, 2, none⟩ = some (.int .i64 r2) := (blk_cell hbx3 2).trans rfl
 have q3 : w3.cell? ⟨w.heap.size, 3, none⟩ = some (.int .i64 r3) := (blk_cell hbx3 3).trans rfl
 go_wp2_with fail
 refine (impl_RecOk.calls r0 r1 r2 r3 (recOkB r0 r1 r2 r3) _ rfl).mono ?_
 rintro e w4 ⟨rfl, hb⟩
 rw [HREC.out]
 have hB4 := below_then hB3 hB3.size hb
 have hbx4 := blk_below hbx3 hb
 clear hB3 hb hbx3 q0 q1 q2 q3
 go_wp2_with fail
 refine (impl_flashCopy.calls A0 c0 l0 _ (Kd.C_below HC.out.1 hB4) (by have := HL.out.1; omega) (by have := HL.out.1; omega) HL.out.2).mono ?_
 rintro e w5 ⟨v, rfl, hS, hb⟩
 have hB5 := below_then hB4 hB4.size hb
 have hbx5 := blk_below hbx4 hb
 have hS := Kd.S_mono (Kd.S_lower hS hB4.size) (ok' := fun k => w.heap.size ≤ k) (fun k hk => Nat.le_trans hB4.size hk)
 clear hB4 hb hbx4
 obtain ⟨g, cap, rfl, hgb, hgl, cellsg, hcg⟩ := Kd.S_form hS (by have := HL.out.1; omega)
 have hb4 : b < (l0.length : Int) := by have := HL.out.1; have := HB0.out; omega
 obtain ⟨oki, c, hcl, hM, hcc, hfr, hoki, hH⟩ := Kd.S_elem hS z33 b HB0.out.1 hb4
 obtain ⟨v0, rfl, hR⟩ := kb__openM hM
 have esz : (kb_).sz = 2 := rfl
 have o0 := hcc 0 _ rfl
 have o1 := hcc 1 _ rfl
 rw [esz, Nat.add_zero] at o0
 rw [esz] at o1
 have hR : k30.R 82 w5 w.heap.size oki v0 (rd_T33 l0 b).f0 := hR
 replace o1 : w5.cell? ⟨g, b.toNat * 2 + 1, none⟩ = some (.int .i64 (rd_T33 l0 b).f1) := o1
 obtain ⟨gi, ci, rfl, hgib, hgil, cellsi, hcgi⟩ := Kd.R_form hR (by rw [HP.out]; decide)
 have hRr := Kd.R_reads' hR
 have hgne : gi ≠ g := (hoki gi (hR.1 gi rfl)).2
 clear hcl hM hcc hfr hoki hH esz
 have HS := am hS
 have HRR := am hRr
 have HR := am hR
 have HCG := am hcg
 have HCI := am hcgi
 clear hS hRr hR hcg hcgi
 have hbt := decide_eq_true hb4
 have hbq : (b < (l0.length : Int)) = True := eq_true hb4
 have hbp : ((0 : Int) ≤ b) = True := eq_true HB0.out.1
 clear hb4
 go_wp2_with fail
 refine (impl_freePages.calls K (some ⟨gi, 0, none⟩) ci (rd_T33 l0 b).f0 (rd_T33 l0 b).f1 n _ HRR.out.2.2 HRR.out.2.1 HN.out).mono ?_
 rintro e w6 ⟨rfl, hb6⟩
 have hB6 := below_then hB5 hB5.size hb6
 have hbx6 := blk_below hbx5 hb6
 have hS6 := Kd.S_below HS.out hb6
 clear hbx5 hB5
 by_cases hnz : n = 0
 · subst hnz
   clear hbq hbp hbt
   go_wp2
   refine bodyPost_ret (results_tmp2 rfl _ _ _) rfl ?_
   refine ⟨.slice (some ⟨g, 0, none⟩) l0.length cap, rfl, ?_, hB6⟩
   rw [(outFW_no (Or.inl rfl)).1]
   exact hS6
 have hne : (n == 0) = false := by simpa using hnz
 have q1 : w6.cell? ⟨w.heap.size, 1, none⟩ = some (.int .i64 r1) := (blk_cell hbx6 1).trans rfl
 have HS6 := am hS6
 clear hS6
 go_wp2_with fail
 refine (impl_seqUsed.calls K (some ⟨g, 0, none⟩) cap l0 r1 u _ (kb_C (Kd.S_reads' HS6.out).2.2) (Kd.S_reads' HS6.out).2.1 HU.out).mono ?_
 rintro e w7 ⟨rfl, hb7⟩
 have hB7 := below_then hB6 hB6.size hb7
 have hbx7 := blk_below hbx6 hb7
 have hS7 := Kd.S_below HS6.out hb7
 have hb57 := below_then hb6 hb6.size hb7
 have hnd : decide (n ≠ 0) = true := decide_eq_true hnz
 cases u with
 | true =>
  clear q1 hbq hbp hbt o0 o1
  go_wp2
  refine bodyPost_ret (results_tmp2 rfl _ _ _) rfl ?_
  refine ⟨.slice (some ⟨g, 0, none⟩) l0.length cap, ?_, ?_, hB7⟩
  · rw [(outFW_no (l0 := l0) (b := b) (p := pageFW r0 r1 r2 r3 tn) (Or.inr rfl)).2]
    rfl
  · rw [(outFW_no (Or.inr rfl)).1]
    exact hS7
 | false =>
  have HS7 := am hS7
  have HB7 := am hB7
  have HND := am hnd
  have HNZ := am hnz
  have p0 := up hb57 o0
  have p1 := up hb57 o1
  have HCG7 := blk_below HCG.out hb57
  have HCI7 := blk_below HCI.out hb57
  have HR7 := am (Kd.R_below HR.out hb57)
  clear q1 o0 o1 hS7 hB7 hnd hb57 hb7 hbx6 hB6 hb6 hne hnz hgl hgil
  have q0 : w7.cell? ⟨w.heap.size, 0, none⟩ = some (.int .i64 r0) := (blk_cell hbx7 0).trans rfl
  have q1 : w7.cell? ⟨w.heap.size, 1, none⟩ = some (.int .i64 r1) := (blk_cell hbx7 1).trans rfl
  have q2 : w7.cell? ⟨w.heap.size, 2, none⟩ = some (.int .i64 r2) := (blk_cell hbx7 2).trans rfl
  have q3 : w7.cell? ⟨w.heap.size, 3, none⟩ = some (.int .i64 r3) := (blk_cell hbx7 3).trans rfl
  have l1 := blk_lt hbx7
  have l2 := blk_lt HCG7
  have l3 := blk_lt HCI7
  obtain rfl | rfl | rfl | rfl : n = 1 ∨ n = 2 ∨ n = 3 ∨ n = 4 := by have := HNZ.out; omega
  · cases tn with
    | true =>
     obtain ⟨ce, hce, hMe, hcce, hfre⟩ := Kd.R_elem HR7.out z30 (3 : Int) (by decide) (by have := HP.out; omega)
     obtain rfl := k30_openM hMe
     have d0 := hcce 0 _ rfl
     have f0 := hfre 0
     have d1 := hcce 1 _ rfl
     have f1 := hfre 1
     have d2 := hcce 2 _ rfl
     have f2 := hfre 2
     have d3 := hcce 3 _ rfl
     have f3 := hfre 3
     have d4 := hcce 4 _ rfl
     have f4 := hfre 4
     rw [show (Int.toNat 3) * (k30).sz = 15 from rfl] at d0 d1 d2 d3 d4 f0 f1 f2 f3 f4
     simp only [Nat.reduceAdd] at d0 d1 d2 d3 d4 f0 f1 f2 f3 f4
     clear hcce hfre hce hMe
     have hpl := HP.out
     rw [hpl] at p0
     go_wp2_with fail
     go_region
     have hst : Kd.S kb_ 33 (((((w7.setCell ⟨gi, 15, none⟩ (.int .i64 2)).setCell ⟨gi, 16, none⟩ (.int .i64 0)).setCell ⟨gi, 17, none⟩ (.int .i64 0)).setCell ⟨gi, 18, none⟩ (.int .i64 0)).setCell ⟨gi, 19, none⟩ (.int .i64 0)) w.heap.size (fun k => w.heap.size ≤ k) (.slice (some ⟨g, 0, none⟩) l0.length cap) (listFW l0 b 1 (pageFW r0 r1 r2 r3 true)) := S_page HS7.out b HB0.out.1 (of_decide_eq_true hbt) p0 (3 : Int) (by decide) (by decide) (pageFW r0 r1 r2 r3 true)
     have hbl : Below w.heap.size w (((((w7.setCell ⟨gi, 15, none⟩ (.int .i64 2)).setCell ⟨gi, 16, none⟩ (.int .i64 0)).setCell ⟨gi, 17, none⟩ (.int .i64 0)).setCell ⟨gi, 18, none⟩ (.int .i64 0)).setCell ⟨gi, 19, none⟩ (.int .i64 0)) := below_set5 HB7.out hgib _ _ _ _ _ _ _ _ _ _
     clear p0 p1 q0 q1 q2 q3 d0 d1 d2 d3 d4 f0 f1 f2 f3 f4 hbq hbp hbt
     go_wp2
     refine bodyPost_ret (results_tmp2 rfl _ _ _) rfl ?_
     refine ⟨.slice (some ⟨g, 0, none⟩) l0.length cap, ?_, ?_, below_drew (below_alloc hbl _)⟩
     · rw [(outFW_yes (l0 := l0) (b := b) (p := pageFW r0 r1 r2 r3 true) (show (1 : Int) ≠ 0 by decide)).2]
       rfl
     · rw [(outFW_yes (show (1 : Int) ≠ 0 by decide)).1]
       exact Kd.S_drew (Kd.S_alloc hst _)
    | false =>
     obtain ⟨ce, hce, hMe, hcce, hfre⟩ := Kd.R_elem HR7.out z30 (3 : Int) (by decide) (by have := HP.out; omega)
     obtain rfl := k30_openM hMe
     have d0 := hcce 0 _ rfl
     have f0 := hfre 0
     have d1 := hcce 1 _ rfl
     have f1 := hfre 1
     have d2 := hcce 2 _ rfl
     have f2 := hfre 2
     have d3 := hcce 3 _ rfl
     have f3 := hfre 3
     have d4 := hcce 4 _ rfl
     have f4 := hfre 4
     rw [show (Int.toNat 3) * (k30).sz = 15 from rfl] at d0 d1 d2 d3 d4 f0 f1 f2 f3 f4
     simp only [Nat.reduceAdd] at d0 d1 d2 d3 d4 f0 f1 f2 f3 f4
     clear hcce hfre hce hMe
     have hpl := HP.out
     rw [hpl] at p0
     go_wp2_with fail
     go_region
     have hst : Kd.S kb_ 33 (((((w7.setCell ⟨gi, 15, none⟩ (.int .i64 1)).setCell ⟨gi, 16, none⟩ (.int .i64 r0)).setCell ⟨gi, 17, none⟩ (.int .i64 r1)).setCell ⟨gi, 18, none⟩ (.int .i64 r2)).setCell ⟨gi, 19, none⟩ (.int .i64 r3)) w.heap.size (fun k => w.heap.size ≤ k) (.slice (some ⟨g, 0, none⟩) l0.length cap) (listFW l0 b 1 (pageFW r0 r1 r2 r3 false)) := S_page HS7.out b HB0.out.1 (of_decide_eq_true hbt) p0 (3 : Int) (by decide) (by decide) (pageFW r0 r1 r2 r3 false)
     have hbl : Below w.heap.size w (((((w7.setCell ⟨gi, 15, none⟩ (.int .i64 1)).setCell ⟨gi, 16, none⟩ (.int .i64 r0)).setCell ⟨gi, 17, none⟩ (.int .i64 r1)).setCell ⟨gi, 18, none⟩ (.int .i64 r2)).setCell ⟨gi, 19, none⟩ (.int .i64 r3)) := below_set5 HB7.out hgib _ _ _ _ _ _ _ _ _ _
     clear p0 p1 q0 q1 q2 q3 d0 d1 d2 d3 d4 f0 f1 f2 f3 f4 hbq hbp hbt
     go_wp2
     refine bodyPost_ret (results_tmp2 rfl _ _ _) rfl ?_
     refine ⟨.slice (some ⟨g, 0, none⟩) l0.length cap, ?_, ?_, below_drew (below_alloc hbl _)⟩
     · rw [(outFW_yes (l0 := l0) (b := b) (p := pageFW r0 r1 r2 r3 false) (show (1 : Int) ≠ 0 by decide)).2]
       rfl
     · rw [(outFW_yes (show (1 : Int) ≠ 0 by decide)).1]
       exact Kd.S_drew (Kd.S_alloc hst _)
  · cases tn with
    | true =>
     obtain ⟨ce, hce, hMe, hcce, hfre⟩ := Kd.R_elem HR7.out z30 (2 : Int) (by decide) (by have := HP.out; omega)
     obtain rfl := k30_openM hMe
     have d0 := hcce 0 _ rfl
     have f0 := hfre 0
     have d1 := hcce 1 _ rfl
     have f1 := hfre 1
     have d2 := hcce 2 _ rfl
     have f2 := hfre 2
     have d3 := hcce 3 _ rfl
     have f3 := hfre 3
     have d4 := hcce 4 _ rfl
     have f4 := hfre 4
     rw [show (Int.toNat 2) * (k30).sz = 10 from rfl] at d0 d1 d2 d3 d4 f0 f1 f2 f3 f4
     simp only [Nat.reduceAdd] at d0 d1 d2 d3 d4 f0 f1 f2 f3 f4
     clear hcce hfre hce hMe
     have hpl := HP.out
     rw [hpl] at p0
     go_wp2_with fail
     go_region
     have hst : Kd.S kb_ 33 (((((w7.setCell ⟨gi, 10, none⟩ (.int .i64 2)).setCell ⟨gi, 11, none⟩ (.int .i64 0)).setCell ⟨gi, 12, none⟩ (.int .i64 0)).setCell ⟨gi, 13, none⟩ (.int .i64 0)).setCell ⟨gi, 14, none⟩ (.int .i64 0)) w.heap.size (fun k => w.heap.size ≤ k) (.slice (some ⟨g, 0, none⟩) l0.length cap) (listFW l0 b 2 (pageFW r0 r1 r2 r3 true)) := S_page HS7.out b HB0.out.1 (of_decide_eq_true hbt) p0 (2 : Int) (by decide) (by decide) (pageFW r0 r1 r2 r3 true)
     have hbl : Below w.heap.size w (((((w7.setCell ⟨gi, 10, none⟩ (.int .i64 2)).setCell ⟨gi, 11, none⟩ (.int .i64 0)).setCell ⟨gi, 12, none⟩ (.int .i64 0)).setCell ⟨gi, 13, none⟩ (.int .i64 0)).setCell ⟨gi, 14, none⟩ (.int .i64 0)) := below_set5 HB7.out hgib _ _ _ _ _ _ _ _ _ _
     clear p0 p1 q0 q1 q2 q3 d0 d1 d2 d3 d4 f0 f1 f2 f3 f4 hbq hbp hbt
     go_wp2
     refine bodyPost_ret (results_tmp2 rfl _ _ _) rfl ?_
     refine ⟨.slice (some ⟨g, 0, none⟩) l0.length cap, ?_, ?_, below_drew (below_alloc hbl _)⟩
     · rw [(outFW_yes (l0 := l0) (b := b) (p := pageFW r0 r1 r2 r3 true) (show (2 : Int) ≠ 0 by decide)).2]
       rfl
     · rw [(outFW_yes (show (2 : Int) ≠ 0 by decide)).1]
       exact Kd.S_drew (Kd.S_alloc hst _)
    | false =>
     obtain ⟨ce, hce, hMe, hcce, hfre⟩ := Kd.R_elem HR7.out z30 (2 : Int) (by decide) (by have := HP.out; omega)
     obtain rfl := k30_openM hMe
     have d0 := hcce 0 _ rfl
     have f0 := hfre 0
     have d1 := hcce 1 _ rfl
     have f1 := hfre 1
     have d2 := hcce 2 _ rfl
     have f2 := hfre 2
     have d3 := hcce 3 _ rfl
     have f3 := hfre 3
     have d4 := hcce 4 _ rfl
     have f4 := hfre 4
     rw [show (Int.toNat 2) * (k30).sz = 10 from rfl] at d0 d1 d2 d3 d4 f0 f1 f2 f3 f4
     simp only [Nat.reduceAdd] at d0 d1 d2 d3 d4 f0 f1 f2 f3 f4
     clear hcce hfre hce hMe
     have hpl := HP.out
     rw [hpl] at p0
     go_wp2_with fail
     go_region
     have hst : Kd.S kb_ 33 (((((w7.setCell ⟨gi, 10, none⟩ (.int .i64 1)).setCell ⟨gi, 11, none⟩ (.int .i64 r0)).setCell ⟨gi, 12, none⟩ (.int .i64 r1)).setCell ⟨gi, 13, none⟩ (.int .i64 r2)).setCell ⟨gi, 14, none⟩ (.int .i64 r3)) w.heap.size (fun k => w.heap.size ≤ k) (.slice (some ⟨g, 0, none⟩) l0.length cap) (listFW l0 b 2 (pageFW r0 r1 r2 r3 false)) := S_page HS7.out b HB0.out.1 (of_decide_eq_true hbt) p0 (2 : Int) (by decide) (by decide) (pageFW r0 r1 r2 r3 false)
     have hbl : Below w.heap.size w (((((w7.setCell ⟨gi, 10, none⟩ (.int .i64 1)).setCell ⟨gi, 11, none⟩ (.int .i64 r0)).setCell ⟨gi, 12, none⟩ (.int .i64 r1)).setCell ⟨gi, 13, none⟩ (.int .i64 r2)).setCell ⟨gi, 14, none⟩ (.int .i64 r3)) := below_set5 HB7.out hgib _ _ _ _ _ _ _ _ _ _
     clear p0 p1 q0 q1 q2 q3 d0 d1 d2 d3 d4 f0 f1 f2 f3 f4 hbq hbp hbt
     go_wp2
     refine bodyPost_ret (results_tmp2 rfl _ _ _) rfl ?_
     refine ⟨.slice (some ⟨g, 0, none⟩) l0.length cap, ?_, ?_, below_drew (below_alloc hbl _)⟩
     · rw [(outFW_yes (l0 := l0) (b := b) (p := pageFW r0 r1 r2 r3 false) (show (2 : Int) ≠ 0 by decide)).2]
       rfl
     · rw [(outFW_yes (show (2 : Int) ≠ 0 by decide)).1]
       exact Kd.S_drew (Kd.S_alloc hst _)
  · cases tn with
    | true =>
     obtain ⟨ce, hce, hMe, hcce, hfre⟩ := Kd.R_elem HR7.out z30 (1 : Int) (by decide) (by have := HP.out; omega)
     obtain rfl := k30_openM hMe
     have d0 := hcce 0 _ rfl
     have f0 := hfre 0
     have d1 := hcce 1 _ rfl
     have f1 := hfre 1
     have d2 := hcce 2 _ rfl
     have f2 := hfre 2
     have d3 := hcce 3 _ rfl
     have f3 := hfre 3
     have d4 := hcce 4 _ rfl
     have f4 := hfre 4
     rw [show (Int.toNat 1) * (k30).sz = 5 from rfl] at d0 d1 d2 d3 d4 f0 f1 f2 f3 f4
     simp only [Nat.reduceAdd] at d0 d1 d2 d3 d4 f0 f1 f2 f3 f4
     clear hcce hfre hce hMe
     have hpl := HP.out
     rw [hpl] at p0
     go_wp2_with fail
     go_region
     have hst : Kd.S kb_ 33 (((((w7.setCell ⟨gi, 5, none⟩ (.int .i64 2)).setCell ⟨gi, 6, none⟩ (.int .i64 0)).setCell ⟨gi, 7, none⟩ (.int .i64 0)).setCell ⟨gi, 8, none⟩ (.int .i64 0)).setCell ⟨gi, 9, none⟩ (.int .i64 0)) w.heap.size (fun k => w.heap.size ≤ k) (.slice (some ⟨g, 0, none⟩) l0.length cap) (listFW l0 b 3 (pageFW r0 r1 r2 r3 true)) := S_page HS7.out b HB0.out.1 (of_decide_eq_true hbt) p0 (1 : Int) (by decide) (by decide) (pageFW r0 r1 r2 r3 true)
     have hbl : Below w.heap.size w (((((w7.setCell ⟨gi, 5, none⟩ (.int .i64 2)).setCell ⟨gi, 6, none⟩ (.int .i64 0)).setCell ⟨gi, 7, none⟩ (.int .i64 0)).setCell ⟨gi, 8, none⟩ (.int .i64 0)).setCell ⟨gi, 9, none⟩ (.int .i64 0)) := below_set5 HB7.out hgib _ _ _ _ _ _ _ _ _ _
     clear p0 p1 q0 q1 q2 q3 d0 d1 d2 d3 d4 f0 f1 f2 f3 f4 hbq hbp hbt
     go_wp2
     refine bodyPost_ret (results_tmp2 rfl _ _ _) rfl ?_
     refine ⟨.slice (some ⟨g, 0, none⟩) l0.length cap, ?_, ?_, below_drew (below_alloc hbl _)⟩
     · rw [(outFW_yes (l0 := l0) (b := b) (p := pageFW r0 r1 r2 r3 true) (show (3 : Int) ≠ 0 by decide)).2]
       rfl
     · rw [(outFW_yes (show (3 : Int) ≠ 0 by decide)).1]
       exact Kd.S_drew (Kd.S_alloc hst _)
    | false =>
     obtain ⟨ce, hce, hMe, hcce, hfre⟩ := Kd.R_elem HR7.out z30 (1 : Int) (by decide) (by have := HP.out; omega)
     obtain rfl := k30_openM hMe
     have d0 := hcce 0 _ rfl
     have f0 := hfre 0
     have d1 := hcce 1 _ rfl
     have f1 := hfre 1
     have d2 := hcce 2 _ rfl
     have f2 := hfre 2
     have d3 := hcce 3 _ rfl
     have f3 := hfre 3
     have d4 := hcce 4 _ rfl
     have f4 := hfre 4
     rw [show (Int.toNat 1) * (k30).sz = 5 from rfl] at d0 d1 d2 d3 d4 f0 f1 f2 f3 f4
     simp only [Nat.reduceAdd] at d0 d1 d2 d3 d4 f0 f1 f2 f3 f4
     clear hcce hfre hce hMe
     have hpl := HP.out
     rw [hpl] at p0
     go_wp2_with fail
     go_region
     have hst : Kd.S kb_ 33 (((((w7.setCell ⟨gi, 5, none⟩ (.int .i64 1)).setCell ⟨gi, 6, none⟩ (.int .i64 r0)).setCell ⟨gi, 7, none⟩ (.int .i64 r1)).setCell ⟨gi, 8, none⟩ (.int .i64 r2)).setCell ⟨gi, 9, none⟩ (.int .i64 r3)) w.heap.size (fun k => w.heap.size ≤ k) (.slice (some ⟨g, 0, none⟩) l0.length cap) (listFW l0 b 3 (pageFW r0 r1 r2 r3 false)) := S_page HS7.out b HB0.out.1 (of_decide_eq_true hbt) p0 (1 : Int) (by decide) (by decide) (pageFW r0 r1 r2 r3 false)
     have hbl : Below w.heap.size w (((((w7.setCell ⟨gi, 5, none⟩ (.int .i64 1)).setCell ⟨gi, 6, none⟩ (.int .i64 r0)).setCell ⟨gi, 7, none⟩ (.int .i64 r1)).setCell ⟨gi, 8, none⟩ (.int .i64 r2)).setCell ⟨gi, 9, none⟩ (.int .i64 r3)) := below_set5 HB7.out hgib _ _ _ _ _ _ _ _ _ _
     clear p0 p1 q0 q1 q2 q3 d0 d1 d2 d3 d4 f0 f1 f2 f3 f4 hbq hbp hbt
     go_wp2
     refine bodyPost_ret (results_tmp2 rfl _ _ _) rfl ?_
     refine ⟨.slice (some ⟨g, 0, none⟩) l0.length cap, ?_, ?_, below_drew (below_alloc hbl _)⟩
     · rw [(outFW_yes (l0 := l0) (b := b) (p := pageFW r0 r1 r2 r3 false) (show (3 : Int) ≠ 0 by decide)).2]
       rfl
     · rw [(outFW_yes (show (3 : Int) ≠ 0 by decide)).1]
       exact Kd.S_drew (Kd.S_alloc hst _)
  · cases tn with
    | true =>
     obtain ⟨ce, hce, hMe, hcce, hfre⟩ := Kd.R_elem HR7.out z30 (0 : Int) (by decide) (by have := HP.out; omega)
     obtain rfl := k30_openM hMe
     have d0 := hcce 0 _ rfl
     have f0 := hfre 0
     have d1 := hcce 1 _ rfl
     have f1 := hfre 1
     have d2 := hcce 2 _ rfl
     have f2 := hfre 2
     have d3 := hcce 3 _ rfl
     have f3 := hfre 3
     have d4 := hcce 4 _ rfl
     have f4 := hfre 4
     rw [show (Int.toNat 0) * (k30).sz = 0 from rfl] at d0 d1 d2 d3 d4 f0 f1 f2 f3 f4
     simp only [Nat.reduceAdd] at d0 d1 d2 d3 d4 f0 f1 f2 f3 f4
     clear hcce hfre hce hMe
     have hpl := HP.out
     rw [hpl] at p0
     go_wp2_with fail
     go_region
     have hst : Kd.S kb_ 33 (((((w7.setCell ⟨gi, 0, none⟩ (.int .i64 2)).setCell ⟨gi, 1, none⟩ (.int .i64 0)).setCell ⟨gi, 2, none⟩ (.int .i64 0)).setCell ⟨gi, 3, none⟩ (.int .i64 0)).setCell ⟨gi, 4, none⟩ (.int .i64 0)) w.heap.size (fun k => w.heap.size ≤ k) (.slice (some ⟨g, 0, none⟩) l0.length cap) (listFW l0 b 4 (pageFW r0 r1 r2 r3 true)) := S_page HS7.out b HB0.out.1 (of_decide_eq_true hbt) p0 (0 : Int) (by decide) (by decide) (pageFW r0 r1 r2 r3 true)
     have hbl : Below w.heap.size w (((((w7.setCell ⟨gi, 0, none⟩ (.int .i64 2)).setCell ⟨gi, 1, none⟩ (.int .i64 0)).setCell ⟨gi, 2, none⟩ (.int .i64 0)).setCell ⟨gi, 3, none⟩ (.int .i64 0)).setCell ⟨gi, 4, none⟩ (.int .i64 0)) := below_set5 HB7.out hgib _ _ _ _ _ _ _ _ _ _
     clear p0 p1 q0 q1 q2 q3 d0 d1 d2 d3 d4 f0 f1 f2 f3 f4 hbq hbp hbt
     go_wp2
     refine bodyPost_ret (results_tmp2 rfl _ _ _) rfl ?_
     refine ⟨.slice (some ⟨g, 0, none⟩) l0.length cap, ?_, ?_, below_drew (below_alloc hbl _)⟩
     · rw [(outFW_yes (l0 := l0) (b := b) (p := pageFW r0 r1 r2 r3 true) (show (4 : Int) ≠ 0 by decide)).2]
       rfl
     · rw [(outFW_yes (show (4 : Int) ≠ 0 by decide)).1]
       exact Kd.S_drew (Kd.S_alloc hst _)
    | false =>
     obtain ⟨ce, hce, hMe, hcce, hfre⟩ := Kd.R_elem HR7.out z30 (0 : Int) (by decide) (by have := HP.out; omega)
     obtain rfl := k30_openM hMe
     have d0 := hcce 0 _ rfl
     have f0 := hfre 0
     have d1 := hcce 1 _ rfl
     have f1 := hfre 1
     have d2 := hcce 2 _ rfl
     have f2 := hfre 2
     have d3 := hcce 3 _ rfl
     have f3 := hfre 3
     have d4 := hcce 4 _ rfl
     have f4 := hfre 4
     rw [show (Int.toNat 0) * (k30).sz = 0 from rfl] at d0 d1 d2 d3 d4 f0 f1 f2 f3 f4
     simp only [Nat.reduceAdd] at d0 d1 d2 d3 d4 f0 f1 f2 f3 f4
     clear hcce hfre hce hMe
     have hpl := HP.out
     rw [hpl] at p0
     go_wp2_with fail
     go_region
     have hst : Kd.S kb_ 33 (((((w7.setCell ⟨gi, 0, none⟩ (.int .i64 1)).setCell ⟨gi, 1, none⟩ (.int .i64 r0)).setCell ⟨gi, 2, none⟩ (.int .i64 r1)).setCell ⟨gi, 3, none⟩ (.int .i64 r2)).setCell ⟨gi, 4, none⟩ (.int .i64 r3)) w.heap.size (fun k => w.heap.size ≤ k) (.slice (some ⟨g, 0, none⟩) l0.length cap) (listFW l0 b 4 (pageFW r0 r1 r2 r3 false)) := S_page HS7.out b HB0.out.1 (of_decide_eq_true hbt) p0 (0 : Int) (by decide) (by decide) (pageFW r0 r1 r2 r3 false)
     have hbl : Below w.heap.size w (((((w7.setCell ⟨gi, 0, none⟩ (.int .i64 1)).setCell ⟨gi, 1, none⟩ (.int .i64 r0)).setCell ⟨gi, 2, none⟩ (.int .i64 r1)).setCell ⟨gi, 3, none⟩ (.int .i64 r2)).setCell ⟨gi, 4, none⟩ (.int .i64 r3)) := below_set5 HB7.out hgib _ _ _ _ _ _ _ _ _ _
     clear p0 p1 q0 q1 q2 q3 d0 d1 d2 d3 d4 f0 f1 f2 f3 f4 hbq hbp hbt
     go_wp2
     refine bodyPost_ret (results_tmp2 rfl _ _ _) rfl ?_
     refine ⟨.slice (some ⟨g, 0, none⟩) l0.length cap, ?_, ?_, below_drew (below_alloc hbl _)⟩
     · rw [(outFW_yes (l0 := l0) (b := b) (p := pageFW r0 r1 r2 r3 false) (show (4 : Int) ≠ 0 by decide)).2]
       rfl
     · rw [(outFW_yes (show (4 : Int) ≠ 0 by decide)).1]
       exact Kd.S_drew (Kd.S_alloc hst _)
theorem Sb_V {W : World} {base : Nat} {ok : Nat → Prop} {v : Value} {xs : List S33} (h : Kd.S kb_ 33 W base ok v xs) : Kd.V k33 33 W base ok v xs := by
 obtain ⟨A, c, rfl⟩ := Kd.S_slice h
 exact ⟨A, c, rfl, (Kd.S_reads' h).2.1, Kd.F_imp (Kd.S_F h) (fun _ hC => kb_C hC)⟩
theorem blocksB_four : ∀ (l : List S33) (S : List Int), blocksB l S = true → ∀ b ∈ l, b.f0.length = 4
 | [], _, _, _, hb => by cases hb
 | b :: bs, S, h, c, hc => by
  rw [blocksB, Bool.and_eq_true] at h
  obtain ⟨h1, h2⟩ := h
  rcases List.mem_cons.1 hc with rfl | hc
  · unfold blockB at h1
    rw [Bool.and_eq_true, decide_eq_true_eq] at h1
    omega
  · cases hp : pagesB b.f0 S with
    | none => rw [hp] at h2; cases h2
    | some S' =>
     rw [hp] at h2
     exact blocksB_four bs S' h2 c hc
def impl_FlashWrite.f (k : Nat) (l0 : List (S33)) (b r0 r1 r2 r3 : Int) (tn : Bool) : Option (List (S33) × Bool) :=
 if flashOkB l0 = true ∧ (0 ≤ b ∧ b < 4) ∧ recOkB r0 r1 r2 r3 = true then (impl_freePages.f k (rd_T33 l0 b).f0 (rd_T33 l0 b).f1).bind fun n => (impl_seqUsed.f k l0 r1).bind fun u => if 0 ≤ n ∧ n ≤ 4 then some (outFW l0 b n u (pageFW r0 r1 r2 r3 tn), okFW n u) else none
 else some ([], false)
theorem impl_FlashWrite.mono : ∀ a0 a1 a2 a3 a4 a5 a6 k, LeO (impl_FlashWrite.f k a0 a1 a2 a3 a4 a5 a6) (impl_FlashWrite.f (k + 1) a0 a1 a2 a3 a4 a5 a6) := by
 intro a0 a1 a2 a3 a4 a5 a6 k
 unfold impl_FlashWrite.f
 exact LeO.ite (LeO.bind (impl_freePages.mono _ _ _) (fun _ => LeO.bind (impl_seqUsed.mono _ _ _) (fun _ => LeO.refl _))) (LeO.refl _)
theorem impl_FlashWrite.calls (k : Nat) (A0 : Option Addr) (c0 : Nat) (l0 : List (S33)) (a1 : Int) (a2_0 : Int) (a2_1 : Int) (a2_2 : Int) (a2_3 : Int) (a3 : Bool) (r1 : List (S33)) (r2 : Bool) (w : World) (hr0 : Kd.C k33 w A0 l0.length l0) (hc0 : l0.length ≤ c0) (h : impl_FlashWrite.f k l0 a1 a2_0 a2_1 a2_2 a2_3 a3 = some (r1, r2)) :
 Calls Try.prog 9 #[.slice A0 l0.length c0, .int .i64 a1, .agg #[.int .i64 a2_0, .int .i64 a2_1, .int .i64 a2_2, .int .i64 a2_3], .bool a3] w fun e w' => ∃ v0_ : Value, e = .returned (.tuple #[v0_, .bool r2]) ∧ Kd.V k33 33 w' w.heap.size (fun k_ => w.heap.size ≤ k_) v0_ r1 ∧ Below w.heap.size w w' := by
 unfold impl_FlashWrite.f at h
 by_cases hg : flashOkB l0 = true ∧ (0 ≤ a1 ∧ a1 < 4) ∧ recOkB a2_0 a2_1 a2_2 a2_3 = true
 rotate_left
 · rw [if_neg hg] at h
   have e := Prod.mk.inj (Option.some.inj h)
   rw [← e.1, ← e.2]
   refine (impl_FlashWrite.bad A0 c0 l0 a1 a2_0 a2_1 a2_2 a2_3 a3 w hr0 hc0 hg).mono ?_
   rintro e w' ⟨rfl, hb⟩
   exact ⟨_, rfl, Kd.V_nil _ _ _ _ _, hb⟩
 rw [if_pos hg] at h
 obtain ⟨n, hn, h⟩ := Option.bind_eq_some_iff.1 h
 obtain ⟨u, hu, h⟩ := Option.bind_eq_some_iff.1 h
 by_cases hn0 : 0 ≤ n ∧ n ≤ 4
 rotate_left
 · rw [if_neg hn0] at h
   cases h
 rw [if_pos hn0] at h
 have e := Prod.mk.inj (Option.some.inj h)
 have hf := hg.1
 have hf2 := hf
 unfold flashOkB at hf2
 rw [Bool.and_eq_true, decide_eq_true_eq] at hf2
 have hall := blocksB_four l0 [] hf2.2
 have hlen : l0.length = 4 := by omega
 have hm : rd_T33 l0 a1 ∈ l0 := by
  unfold rd_T33
  rw [List.getD_eq_getElem?_getD, List.getElem?_eq_getElem (by omega : a1.toNat < l0.length)]
  exact List.getElem_mem _
 rw [← e.1, ← e.2]
 refine (impl_FlashWrite.good k A0 c0 l0 a1 a2_0 a2_1 a2_2 a2_3 n a3 u w hr0 hc0 hf hlen hall hg.2.1 hg.2.2 (hall _ hm) hn hn0 hu).mono ?_
 rintro e w' ⟨v, rfl, hS, hb⟩
 exact ⟨v, rfl, Sb_V hS, hb⟩
mutual
def laws_FnNext.j0 : Nat → List (S33) → Int → Bool → Option (Bool)
 | 0, _, _, _ => none
 | k + 1, x3, x4, x28 => if x28 = true then ((spec_FindNext.f k x3).bind fun t399 => (some (x4 == t399))) else (laws_FnNext.l0 k x3 x4 (x4 == 1) 0)
def laws_FnNext.l0 : Nat → List (S33) → Int → Bool → Int → Option (Bool)
 | 0, _, _, _, _ => none
 | k + 1, x3, x4, x5, x6 => if x6 < (x3.length : Int) then (laws_FnNext.l1 k x3 x4 x5 x6 0) else ((impl_FindOpen.f k x3).bind fun bt402 => (if bt402.2 = true then (if x4 > 600 then (some x5) else ((impl_FlashWrite.f k x3 bt402.1 1 x4 1 0 false).bind fun bt404 => (if x5 = true then (some bt404.2) else (some false)))) else (some x5)))
def laws_FnNext.l1 : Nat → List (S33) → Int → Bool → Int → Int → Option (Bool)
 | 0, _, _, _, _, _ => none
 | k + 1, x3, x4, x5, x6, x7 => if x7 < 4 then (if 0 ≤ x6 then (if x6 < (x3.length : Int) then (if 0 ≤ x7 then (if x7 < (((rd_T33 x3 x6).f0).length : Int) then (if ((rd_T30 ((rd_T33 x3 x6).f0) x7).f1.f1) ≥ x4 then (some false) else (if x5 = true then (laws_FnNext.l1 k x3 x4 true x6 (wrap64 (x7 + 1))) else (laws_FnNext.l1 k x3 x4 (((rd_T30 ((rd_T33 x3 x6).f0) x7).f1.f1) == (wrap64 (x4 - 1))) x6 (wrap64 (x7 + 1))))) else (none)) else (none)) else (none)) else (none)) else (laws_FnNext.l0 k x3 x4 x5 (wrap64 (x6 + 1)))
end
def laws_FnNext.f (k : Nat) (l0 : List Int) : Option (Bool) := if (l0.length : Int) > 1048576 then (some true) else ((spec_DrawFindNext.f k l0).bind fun t393 => ((impl_FindNext.f t393).bind fun t396 => ((spec_FindNext.f k t393).bind fun t397 => (if t396 = t397 then ((spec_FlashOk.f t393).bind fun t398 => (laws_FnNext.j0 k t393 t396 (!t398))) else (laws_FnNext.j0 k t393 t396 true)))))
theorem laws_FnNext.mono_l : ∀ k, (∀ y0 y1 y2, LeO (laws_FnNext.j0 k y0 y1 y2) (laws_FnNext.j0 (k + 1) y0 y1 y2)) ∧ (∀ y0 y1 y2 y3, LeO (laws_FnNext.l0 k y0 y1 y2 y3) (laws_FnNext.l0 (k + 1) y0 y1 y2 y3)) ∧ (∀ y0 y1 y2 y3 y4, LeO (laws_FnNext.l1 k y0 y1 y2 y3 y4) (laws_FnNext.l1 (k + 1) y0 y1 y2 y3 y4))
 | 0 => ⟨fun _ _ _ r h => by simp [laws_FnNext.j0] at h, fun _ _ _ _ r h => by simp [laws_FnNext.l0] at h, fun _ _ _ _ _ r h => by simp [laws_FnNext.l1] at h⟩
 | k + 1 => by
  obtain ⟨ih0, ih1, ih2⟩ := laws_FnNext.mono_l k
  refine ⟨?_, ?_, ?_⟩
  · intro y0 y1 y2
    unfold laws_FnNext.j0
    repeat' first
    | (with_reducible exact ih0 _ _ _)
    | (with_reducible exact ih1 _ _ _ _)
    | (with_reducible exact ih2 _ _ _ _ _)
    | (with_reducible exact impl_FindOpen.mono _ _)
    | (with_reducible exact impl_FlashWrite.mono _ _ _ _ _ _ _ _)
    | (with_reducible exact spec_DrawFindNext.mono _ _)
    | (with_reducible exact spec_FindNext.mono _ _)
    | (with_reducible exact LeO.refl _)
    | (with_reducible exact LeO.none _)
    | (with_reducible refine LeO.ite ?_ ?_)
    | (with_reducible refine LeO.bind ?_ (fun _ => ?_))
    | exact ih0 _ _ _
    | exact ih1 _ _ _ _
    | exact ih2 _ _ _ _ _
    | exact impl_FindOpen.mono _ _
    | exact impl_FlashWrite.mono _ _ _ _ _ _ _ _
    | exact spec_DrawFindNext.mono _ _
    | exact spec_FindNext.mono _ _
    | exact LeO.none _
    | refine LeO.ite ?_ ?_
    | refine LeO.bind ?_ (fun _ => ?_)
  · intro y0 y1 y2 y3
    unfold laws_FnNext.l0
    repeat' first
    | (with_reducible exact ih0 _ _ _)
    | (with_reducible exact ih1 _ _ _ _)
    | (with_reducible exact ih2 _ _ _ _ _)
    | (with_reducible exact impl_FindOpen.mono _ _)
    | (with_reducible exact impl_FlashWrite.mono _ _ _ _ _ _ _ _)
    | (with_reducible exact spec_DrawFindNext.mono _ _)
    | (with_reducible exact spec_FindNext.mono _ _)
    | (with_reducible exact LeO.refl _)
    | (with_reducible exact LeO.none _)
    | (with_reducible refine LeO.ite ?_ ?_)
    | (with_reducible refine LeO.bind ?_ (fun _ => ?_))
    | exact ih0 _ _ _
    | exact ih1 _ _ _ _
    | exact ih2 _ _ _ _ _
    | exact impl_FindOpen.mono _ _
    | exact impl_FlashWrite.mono _ _ _ _ _ _ _ _
    | exact spec_DrawFindNext.mono _ _
    | exact spec_FindNext.mono _ _
    | exact LeO.none _
    | refine LeO.ite ?_ ?_
    | refine LeO.bind ?_ (fun _ => ?_)
  · intro y0 y1 y2 y3 y4
    unfold laws_FnNext.l1
    repeat' first
    | (with_reducible exact ih0 _ _ _)
    | (with_reducible exact ih1 _ _ _ _)
    | (with_reducible exact ih2 _ _ _ _ _)
    | (with_reducible exact impl_FindOpen.mono _ _)
    | (with_reducible exact impl_FlashWrite.mono _ _ _ _ _ _ _ _)
    | (with_reducible exact spec_DrawFindNext.mono _ _)
    | (with_reducible exact spec_FindNext.mono _ _)
    | (with_reducible exact LeO.refl _)
    | (with_reducible exact LeO.none _)
    | (with_reducible refine LeO.ite ?_ ?_)
    | (with_reducible refine LeO.bind ?_ (fun _ => ?_))
    | exact ih0 _ _ _
    | exact ih1 _ _ _ _
    | exact ih2 _ _ _ _ _
    | exact impl_FindOpen.mono _ _
    | exact impl_FlashWrite.mono _ _ _ _ _ _ _ _
    | exact spec_DrawFindNext.mono _ _
    | exact spec_FindNext.mono _ _
    | exact LeO.none _
    | refine LeO.ite ?_ ?_
    | refine LeO.bind ?_ (fun _ => ?_)
theorem laws_FnNext.mono : ∀ a0 k, LeO (laws_FnNext.f k a0) (laws_FnNext.f (k + 1) a0) := by
 intro a0 k
 obtain ⟨ih0, ih1, ih2⟩ := laws_FnNext.mono_l k
 unfold laws_FnNext.f
 repeat' first
  | (with_reducible exact ih0 _ _ _)
  | (with_reducible exact ih1 _ _ _ _)
  | (with_reducible exact ih2 _ _ _ _ _)
  | (with_reducible exact impl_FindOpen.mono _ _)
  | (with_reducible exact impl_FlashWrite.mono _ _ _ _ _ _ _ _)
  | (with_reducible exact spec_DrawFindNext.mono _ _)
  | (with_reducible exact spec_FindNext.mono _ _)
  | (with_reducible exact LeO.refl _)
  | (with_reducible exact LeO.none _)
  | (with_reducible refine LeO.ite ?_ ?_)
  | (with_reducible refine LeO.bind ?_ (fun _ => ?_))
  | exact ih0 _ _ _
  | exact ih1 _ _ _ _
  | exact ih2 _ _ _ _ _
  | exact impl_FindOpen.mono _ _
  | exact impl_FlashWrite.mono _ _ _ _ _ _ _ _
  | exact spec_DrawFindNext.mono _ _
  | exact spec_FindNext.mono _ _
  | exact LeO.none _
  | refine LeO.ite ?_ ?_
  | refine LeO.bind ?_ (fun _ => ?_)
set_option maxHeartbeats 8000000 in
set_option maxRecDepth 100000 in
theorem laws_FnNext.calls (k : Nat) (A0 : Option Addr) (c0 : Nat) (l0 : List Int) (r : Bool) (w : World) (hr0 : Kd.C (Kd.int .u8) w A0 l0.length l0) (hc0 : l0.length ≤ c0) (h : laws_FnNext.f k l0 = some r) :
 Calls Try.prog 3 #[.slice A0 l0.length c0] w fun e w' => e = .returned (.bool r) ∧ Below w.heap.size w w' := by
 have hu28 := Try.underlying28
 have HR0 := am hr0
 have HC0 := am hc0
 clear hr0 hc0
 have HB := am (Below.refl w.heap.size w)
 have H : (if (l0.length : Int) > 1048576 then (some true) else ((spec_DrawFindNext.f k l0).bind fun t393 => ((impl_FindNext.f t393).bind fun t396 => ((spec_FindNext.f k t393).bind fun t397 => (if t396 = t397 then ((spec_FlashOk.f t393).bind fun t398 => (laws_FnNext.j0 k t393 t396 (!t398))) else (laws_FnNext.j0 k t393 t396 true)))))) = some r := h
 clear h
 by_cases c2 : (l0.length : Int) > 1048576
 · rw [if_pos c2] at H
   have c2b0 := decide_eq_true c2
   have c2b1 : decide (1048576 < l0.length) = true := decide_eq_true (by omega)
   clear c2
   obtain rfl := Option.some.inj H
   go_enter Try.func3, Try.ntmps3
   go_wp2
   go_ret
   exact (rq (ph HB.out))
 rw [if_neg c2] at H
 have c2b0 := decide_eq_false c2
 have c2b1 : decide (1048576 < l0.length) = false := decide_eq_false (by omega)
 clear c2
 replace H := Option.bind_eq_some_iff.mp H
 obtain ⟨t393, A30, H⟩ := H
 replace H : ((impl_FindNext.f t393).bind fun t396 => ((spec_FindNext.f k t393).bind fun t397 => (if t396 = t397 then ((spec_FlashOk.f t393).bind fun t398 => (laws_FnNext.j0 k t393 t396 (!t398))) else (laws_FnNext.j0 k t393 t396 true)))) = some r := H
 have A3 := am A30
 clear A30
 replace H := Option.bind_eq_some_iff.mp H
 obtain ⟨t396, A40, H⟩ := H
 replace H : ((spec_FindNext.f k t393).bind fun t397 => (if t396 = t397 then ((spec_FlashOk.f t393).bind fun t398 => (laws_FnNext.j0 k t393 t396 (!t398))) else (laws_FnNext.j0 k t393 t396 true))) = some r := H
 have A4 := am A40
 clear A40
 have HC5 := am H
 clear H
 go_enter Try.func3, Try.ntmps3
 go_upto_region 5 with (first | (refine gl 17 Try.func4 #[.slice A0 l0.length c0] rfl ?_; (with_reducible refine (spec_DrawFindNext.calls k _ _ l0 t393 _ ?side1 ?side2 A3.out).mono ?_); (case side1 => repeat (first | exact HR0.out | (with_reducible refine Kd.C_alloc ?_ _) | (with_reducible refine Kd.C_drewN ?_ _) | (with_reducible refine Kd.C_drew ?_))); (case side2 => exact HC0.out); rintro e w6 ⟨v394, rfl, ho0, hb⟩; refine ⟨_, rfl, ?_⟩; have HO395 := am (Kd.V_lower (Kd.V_mono (ok' := fun k_ => True) ho0 (fun k_ hk_ => trivial)) (below_size (ph HB.out))); replace HB := am (below_step (ph HB.out) hb); (try clear hb); (try clear hb2); (try clear hk); (try clear hi); (try clear ho0); obtain ⟨Ao7, co7, eo7⟩ := Kd.V_slice HO395.out; subst eo7) | (refine gl 19 Try.func5 #[.slice Ao7 t393.length co7] rfl ?_; (with_reducible refine (impl_FindNext.calls _ _ t393 t396 _ ?side1 ?side2 A4.out).mono ?_); (case side1 => repeat (first | exact (Kd.V_reads' HO395.out).2.2 | (with_reducible refine Kd.C_alloc ?_ _) | (with_reducible refine Kd.C_drewN ?_ _) | (with_reducible refine Kd.C_drew ?_))); (case side2 => exact (Kd.V_reads' HO395.out).2.1); rintro e w8 ⟨rfl, hb⟩; refine ⟨_, rfl, ?_⟩; replace HO395 := am (Kd.V_below (by (with_reducible repeat (first | apply Kd.V_alloc | apply Kd.V_drewN | apply Kd.V_drew)); exact HO395.out) hb); replace HB := am (below_step (ph HB.out) hb); (try clear hb); (try clear hb2); (try clear hk); (try clear hi)))
 (try simp only [Act.put, List.setIfInBounds_toArray, List.set_cons_zero, List.set_cons_succ])
 go_cut [28] (fun v28 wc => ∃ (kq : Nat) (x28_4 : Bool), v28 = .bool x28_4 ∧ Aside0 (laws_FnNext.j0 kq t393 t396 x28_4 = some r) ∧ Aside0 (kq ≤ k) ∧ Aside0 (Kd.V k33 33 wc w.heap.size (fun _ => True) (.slice Ao7 t393.length co7) t393) ∧ Aside0 (Below w.heap.size w wc))
 case first =>
  have H := HC5.out
  clear HC5
  replace H := Option.bind_eq_some_iff.mp H
  obtain ⟨t397, A90, H⟩ := H
  replace H : (if t396 = t397 then ((spec_FlashOk.f t393).bind fun t398 => (laws_FnNext.j0 k t393 t396 (!t398))) else (laws_FnNext.j0 k t393 t396 true)) = some r := H
  have A9 := am A90
  clear A90
  by_cases c10 : t396 = t397
  rotate_left
  · rw [if_neg c10] at H
    have c10b0 : (t396 == t397) = false := beq_eq_false_iff_ne.mpr c10
    have c10b1 : (t396 != t397) = true := bne_iff_ne.mpr c10
    (first | rw [c10b0] | (simp only [i64_w, i32_w]; rw [c10b0]) | skip)
    have H' := am H
    clear H
    go_wp2_with (first | (refine gl 22 Try.func6 #[.slice Ao7 t393.length co7] rfl ?_; (with_reducible refine (spec_FindNext.calls k _ _ t393 t397 _ ?side1 ?side2 A9.out).mono ?_); (case side1 => repeat (first | exact (Kd.V_reads' HO395.out).2.2 | (with_reducible refine Kd.C_alloc ?_ _) | (with_reducible refine Kd.C_drewN ?_ _) | (with_reducible refine Kd.C_drew ?_))); (case side2 => exact (Kd.V_reads' HO395.out).2.1); rintro e w14 ⟨rfl, hb⟩; refine ⟨_, rfl, ?_⟩; replace HO395 := am (Kd.V_below (by (with_reducible repeat (first | apply Kd.V_alloc | apply Kd.V_drewN | apply Kd.V_drew)); exact HO395.out) hb); replace HB := am (below_step (ph HB.out) hb); (try clear hb); (try clear hb2); (try clear hk); (try clear hi)))
    go_meet
    case rel => exact ⟨_, (true), rf, H', ⟨by first | omega | exact Nat.le_refl _⟩, ⟨by (with_reducible repeat (first | apply Kd.V_alloc | apply Kd.V_drewN | apply Kd.V_drew)); exact HO395.out⟩, ⟨ph HB.out⟩⟩
  rw [if_pos c10] at H
  have c10b0 : (t396 == t397) = true := beq_iff_eq.mpr c10
  have c10b1 : (t396 != t397) = false := bne_eq_false_iff_eq.mpr c10
  clear c10
  (first | rw [c10b0] | (simp only [i64_w, i32_w]; rw [c10b0]) | skip)
  replace H := Option.bind_eq_some_iff.mp H
  obtain ⟨t398, A110, H⟩ := H
  replace H : (laws_FnNext.j0 k t393 t396 (!t398)) = some r := H
  have A11 := am A110
  clear A110
  have H' := am H
  clear H
  go_wp2_with (first | (refine gl 22 Try.func6 #[.slice Ao7 t393.length co7] rfl ?_; (with_reducible refine (spec_FindNext.calls k _ _ t393 t397 _ ?side1 ?side2 A9.out).mono ?_); (case side1 => repeat (first | exact (Kd.V_reads' HO395.out).2.2 | (with_reducible refine Kd.C_alloc ?_ _) | (with_reducible refine Kd.C_drewN ?_ _) | (with_reducible refine Kd.C_drew ?_))); (case side2 => exact (Kd.V_reads' HO395.out).2.1); rintro e w12 ⟨rfl, hb⟩; refine ⟨_, rfl, ?_⟩; replace HO395 := am (Kd.V_below (by (with_reducible repeat (first | apply Kd.V_alloc | apply Kd.V_drewN | apply Kd.V_drew)); exact HO395.out) hb); replace HB := am (below_step (ph HB.out) hb); (try clear hb); (try clear hb2); (try clear hk); (try clear hi)) | (go_at_call 7; (with_reducible refine (spec_FlashOk.calls _ _ t393 t398 _ ?side1 ?side2 A11.out).mono ?_); (case side1 => repeat (first | exact (Kd.V_reads' HO395.out).2.2 | (with_reducible refine Kd.C_alloc ?_ _) | (with_reducible refine Kd.C_drewN ?_ _) | (with_reducible refine Kd.C_drew ?_))); (case side2 => exact (Kd.V_reads' HO395.out).2.1); rintro e w13 ⟨rfl, hb⟩; replace HO395 := am (Kd.V_below (by (with_reducible repeat (first | apply Kd.V_alloc | apply Kd.V_drewN | apply Kd.V_drew)); exact HO395.out) hb); replace HB := am (below_step (ph HB.out) hb); (try clear hb); (try clear hb2); (try clear hk); (try clear hi)))
  go_meet
  case rel => exact ⟨_, (!t398), rf, H', ⟨by first | omega | exact Nat.le_refl _⟩, ⟨by (with_reducible repeat (first | apply Kd.V_alloc | apply Kd.V_drewN | apply Kd.V_drew)); exact HO395.out⟩, ⟨ph HB.out⟩⟩
 case rest =>
  clear HC5
  obtain ⟨kq, x28_4, rfl, HA, HJ4, HO_3, HB⟩ := hcut
  cases kq with
  | zero => exact absurd HA.out (by simp [laws_FnNext.j0])
  | succ kj4 =>
   have H := HA.out
   clear HA
   simp only [laws_FnNext.j0] at H
   by_cases c15 : x28_4 = true
   · subst c15
     have H1 : ((spec_FindNext.f kj4 t393).bind fun t399 => (some (t396 == t399))) = some r := by rw [if_pos rfl] at H; exact H
     clear H
     have H := H1
     clear H1
     replace H := Option.bind_eq_some_iff.mp H
     obtain ⟨t399, A160, H⟩ := H
     replace H : (some (t396 == t399)) = some r := H
     have A16 := am A160
     clear A160
     obtain rfl := Option.some.inj H
     go_wp2_with (first | (refine gl 31 Try.func6 #[.slice Ao7 t393.length co7] rfl ?_; (with_reducible refine (spec_FindNext.calls kj4 _ _ t393 t399 _ ?side1 ?side2 A16.out).mono ?_); (case side1 => repeat (first | exact (Kd.V_reads' HO_3.out).2.2 | (with_reducible refine Kd.C_alloc ?_ _) | (with_reducible refine Kd.C_drewN ?_ _) | (with_reducible refine Kd.C_drew ?_))); (case side2 => exact (Kd.V_reads' HO_3.out).2.1); rintro e w17 ⟨rfl, hb⟩; refine ⟨_, rfl, ?_⟩; replace HO_3 := am (Kd.V_below (by (with_reducible repeat (first | apply Kd.V_alloc | apply Kd.V_drewN | apply Kd.V_drew)); exact HO_3.out) hb); replace HB := am (below_step (ph HB.out) hb); (try clear hb); (try clear hb2); (try clear hk); (try clear hi)))
     go_ret
     exact (rq (ph HB.out))
   replace c15 := Bool.eq_false_iff.mpr c15
   subst c15
   have H1 : (laws_FnNext.l0 kj4 t393 t396 (t396 == 1) 0) = some r := by rw [if_neg (show ¬ (false = true) by decide)] at H; exact H
   clear H
   have H := H1
   clear H1
   have H' := am H
   clear H
   go_wp2
   go_loopg [5, 6] kj4 (fun kq v5 v6 w' => ∃ (x5_2 : Bool) (x6_2 : Int), v5 = .bool x5_2 ∧ v6 = .int .i64 x6_2 ∧ Aside0 (laws_FnNext.l0 kq t393 t396 x5_2 x6_2 = some r) ∧ Aside0 (kq ≤ kj4) ∧ Aside0 (Kd.V k33 33 w' w.heap.size (fun _ => True) (.slice Ao7 t393.length co7) t393) ∧ Aside0 (Below w.heap.size w w'))
   case atStart => exact ⟨((t396 == 1)), (0), rf, rf, H', ⟨Nat.le_refl _⟩, ⟨by (with_reducible repeat (first | apply Kd.V_alloc | apply Kd.V_drewN | apply Kd.V_drew)); exact HO_3.out⟩, ⟨ph HB.out⟩⟩
   case round =>
    clear H'
    obtain ⟨x5_2, x6_2, rfl, rfl, HA, HK2, HO_3, HB⟩ := hrel
    cases gk with
    | zero => exact absurd HA.out (by simp [laws_FnNext.l0])
    | succ k2 =>
     have H := HA.out
     clear HA
     simp only [laws_FnNext.l0] at H
     by_cases c18 : x6_2 < (t393.length : Int)
     rotate_left
     · rw [if_neg c18] at H
       have c18b0 := decide_eq_false c18
       clear c18
       replace H := Option.bind_eq_some_iff.mp H
       obtain ⟨⟨t402, t403⟩, A260, H⟩ := H
       replace H : (if t403 = true then (if t396 > 600 then (some x5_2) else ((impl_FlashWrite.f k2 t393 t402 1 t396 1 0 false).bind fun bt404 => (if x5_2 = true then (some bt404.2) else (some false)))) else (some x5_2)) = some r := H
       have A26 := am A260
       clear A260
       by_cases c27 : t403 = true
       rotate_left
       · replace c27 := Bool.eq_false_iff.mpr c27
         subst c27
         have H1 : (some x5_2) = some r := by rw [if_neg (show ¬ (false = true) by decide)] at H; exact H
         clear H
         have H := H1
         clear H1
         obtain rfl := Option.some.inj H
         go_wp2_with (first | (refine gl 67 Try.func8 #[.slice Ao7 t393.length co7] rfl ?_; (with_reducible refine (impl_FindOpen.calls k2 _ _ t393 t402 false _ ?side1 ?side2 A26.out).mono ?_); (case side1 => repeat (first | exact (Kd.V_reads' HO_3.out).2.2 | (with_reducible refine Kd.C_alloc ?_ _) | (with_reducible refine Kd.C_drewN ?_ _) | (with_reducible refine Kd.C_drew ?_))); (case side2 => exact (Kd.V_reads' HO_3.out).2.1); rintro e w36 ⟨rfl, hb⟩; refine ⟨_, rfl, ?_⟩; replace HO_3 := am (Kd.V_below (by (with_reducible repeat (first | apply Kd.V_alloc | apply Kd.V_drewN | apply Kd.V_drew)); exact HO_3.out) hb); replace HB := am (below_step (ph HB.out) hb); (try clear hb); (try clear hb2); (try clear hk); (try clear hi)))
         go_ret
         exact (rq (ph HB.out))
       subst c27
       have H1 : (if t396 > 600 then (some x5_2) else ((impl_FlashWrite.f k2 t393 t402 1 t396 1 0 false).bind fun bt404 => (if x5_2 = true then (some bt404.2) else (some false)))) = some r := by rw [if_pos rfl] at H; exact H
       clear H
       have H := H1
       clear H1
       by_cases c28 : t396 > 600
       · rw [if_pos c28] at H
         have c28b0 := decide_eq_true c28
         clear c28
         obtain rfl := Option.some.inj H
         go_wp2_with (first | (refine gl 67 Try.func8 #[.slice Ao7 t393.length co7] rfl ?_; (with_reducible refine (impl_FindOpen.calls k2 _ _ t393 t402 true _ ?side1 ?side2 A26.out).mono ?_); (case side1 => repeat (first | exact (Kd.V_reads' HO_3.out).2.2 | (with_reducible refine Kd.C_alloc ?_ _) | (with_reducible refine Kd.C_drewN ?_ _) | (with_reducible refine Kd.C_drew ?_))); (case side2 => exact (Kd.V_reads' HO_3.out).2.1); rintro e w29 ⟨rfl, hb⟩; refine ⟨_, rfl, ?_⟩; replace HO_3 := am (Kd.V_below (by (with_reducible repeat (first | apply Kd.V_alloc | apply Kd.V_drewN | apply Kd.V_drew)); exact HO_3.out) hb); replace HB := am (below_step (ph HB.out) hb); (try clear hb); (try clear hb2); (try clear hk); (try clear hi)))
         go_ret
         exact (rq (ph HB.out))
       rw [if_neg c28] at H
       have c28b0 := decide_eq_false c28
       clear c28
       replace H := Option.bind_eq_some_iff.mp H
       obtain ⟨⟨t404, t407⟩, A300, H⟩ := H
       replace H : (if x5_2 = true then (some t407) else (some false)) = some r := H
       have A30 := am A300
       clear A300
       by_cases c31 : x5_2 = true
       · subst c31
         have H1 : (some t407) = some r := by rw [if_pos rfl] at H; exact H
         clear H
         have H := H1
         clear H1
         obtain rfl := Option.some.inj H
         go_wp2_with (first | (refine gl 67 Try.func8 #[.slice Ao7 t393.length co7] rfl ?_; (with_reducible refine (impl_FindOpen.calls k2 _ _ t393 t402 true _ ?side1 ?side2 A26.out).mono ?_); (case side1 => repeat (first | exact (Kd.V_reads' HO_3.out).2.2 | (with_reducible refine Kd.C_alloc ?_ _) | (with_reducible refine Kd.C_drewN ?_ _) | (with_reducible refine Kd.C_drew ?_))); (case side2 => exact (Kd.V_reads' HO_3.out).2.1); rintro e w32 ⟨rfl, hb⟩; refine ⟨_, rfl, ?_⟩; replace HO_3 := am (Kd.V_below (by (with_reducible repeat (first | apply Kd.V_alloc | apply Kd.V_drewN | apply Kd.V_drew)); exact HO_3.out) hb); replace HB := am (below_step (ph HB.out) hb); (try clear hb); (try clear hb2); (try clear hk); (try clear hi)) | (refine gl 82 Try.func9 #[.slice Ao7 t393.length co7, .int .i64 t402, .agg #[.int .i64 1, .int .i64 t396, .int .i64 1, .int .i64 0], .bool false] rfl ?_; (with_reducible refine (impl_FlashWrite.calls k2 _ _ t393 t402 1 t396 1 0 false t404 t407 _ ?side1 ?side2 A30.out).mono ?_); (case side1 => repeat (first | exact (Kd.V_reads' HO_3.out).2.2 | (with_reducible refine Kd.C_alloc ?_ _) | (with_reducible refine Kd.C_drewN ?_ _) | (with_reducible refine Kd.C_drew ?_))); (case side2 => exact (Kd.V_reads' HO_3.out).2.1); rintro e w33 ⟨v405, rfl, ho0, hb⟩; refine ⟨_, rfl, ?_⟩; replace HO_3 := am (Kd.V_below (by (with_reducible repeat (first | apply Kd.V_alloc | apply Kd.V_drewN | apply Kd.V_drew)); exact HO_3.out) hb); have HO406 := am (Kd.V_lower (Kd.V_mono (ok' := fun k_ => True) ho0 (fun k_ hk_ => trivial)) (below_size (ph HB.out))); replace HB := am (below_step (ph HB.out) hb); (try clear hb); (try clear hb2); (try clear hk); (try clear hi); (try clear ho0)))
         go_ret
         exact (rq (ph HB.out))
       replace c31 := Bool.eq_false_iff.mpr c31
       subst c31
       have H1 : (some false) = some r := by rw [if_neg (show ¬ (false = true) by decide)] at H; exact H
       clear H
       have H := H1
       clear H1
       obtain rfl := Option.some.inj H
       go_wp2_with (first | (refine gl 67 Try.func8 #[.slice Ao7 t393.length co7] rfl ?_; (with_reducible refine (impl_FindOpen.calls k2 _ _ t393 t402 true _ ?side1 ?side2 A26.out).mono ?_); (case side1 => repeat (first | exact (Kd.V_reads' HO_3.out).2.2 | (with_reducible refine Kd.C_alloc ?_ _) | (with_reducible refine Kd.C_drewN ?_ _) | (with_reducible refine Kd.C_drew ?_))); (case side2 => exact (Kd.V_reads' HO_3.out).2.1); rintro e w34 ⟨rfl, hb⟩; refine ⟨_, rfl, ?_⟩; replace HO_3 := am (Kd.V_below (by (with_reducible repeat (first | apply Kd.V_alloc | apply Kd.V_drewN | apply Kd.V_drew)); exact HO_3.out) hb); replace HB := am (below_step (ph HB.out) hb); (try clear hb); (try clear hb2); (try clear hk); (try clear hi)) | (refine gl 82 Try.func9 #[.slice Ao7 t393.length co7, .int .i64 t402, .agg #[.int .i64 1, .int .i64 t396, .int .i64 1, .int .i64 0], .bool false] rfl ?_; (with_reducible refine (impl_FlashWrite.calls k2 _ _ t393 t402 1 t396 1 0 false t404 t407 _ ?side1 ?side2 A30.out).mono ?_); (case side1 => repeat (first | exact (Kd.V_reads' HO_3.out).2.2 | (with_reducible refine Kd.C_alloc ?_ _) | (with_reducible refine Kd.C_drewN ?_ _) | (with_reducible refine Kd.C_drew ?_))); (case side2 => exact (Kd.V_reads' HO_3.out).2.1); rintro e w35 ⟨v405, rfl, ho0, hb⟩; refine ⟨_, rfl, ?_⟩; replace HO_3 := am (Kd.V_below (by (with_reducible repeat (first | apply Kd.V_alloc | apply Kd.V_drewN | apply Kd.V_drew)); exact HO_3.out) hb); have HO406 := am (Kd.V_lower (Kd.V_mono (ok' := fun k_ => True) ho0 (fun k_ hk_ => trivial)) (below_size (ph HB.out))); replace HB := am (below_step (ph HB.out) hb); (try clear hb); (try clear hb2); (try clear hk); (try clear hi); (try clear ho0)))
       go_ret
       exact (rq (ph HB.out))
     rw [if_pos c18] at H
     have c18b0 := decide_eq_true c18
     clear c18
     have H' := am H
     clear H
     go_wp2
     go_loopg [5, 7] k2 (fun kq v5 v7 w' => ∃ (x5_3 : Bool) (x7_3 : Int), v5 = .bool x5_3 ∧ v7 = .int .i64 x7_3 ∧ Aside0 (laws_FnNext.l1 kq t393 t396 x5_3 x6_2 x7_3 = some r) ∧ Aside0 (kq ≤ k2) ∧ Aside0 (Kd.V k33 33 w' w.heap.size (fun _ => True) (.slice Ao7 t393.length co7) t393) ∧ Aside0 (Below w.heap.size w w'))
     case atStart => exact ⟨(x5_2), (0), rf, rf, H', ⟨Nat.le_refl _⟩, ⟨by (with_reducible repeat (first | apply Kd.V_alloc | apply Kd.V_drewN | apply Kd.V_drew)); exact HO_3.out⟩, ⟨ph HB.out⟩⟩
     case round =>
      clear H'
      obtain ⟨x5_3, x7_3, rfl, rfl, HA, HK3, HO_3, HB⟩ := hrel
      cases gk with
      | zero => exact absurd HA.out (by simp [laws_FnNext.l1])
      | succ k3 =>
       have H := HA.out
       clear HA
       simp only [laws_FnNext.l1] at H
       by_cases c19 : x7_3 < 4
       rotate_left
       · rw [if_neg c19] at H
         have c19b0 := decide_eq_false c19
         clear c19
         have H' := am H
         clear H
         go_wp2
         go_roundg k3
         case measure => have := HJ4.out; have := HK2.out; have := HK3.out; omega
         case rel => exact ⟨(x5_3), (wrap64 (x6_2 + 1)), rf, rf, H', ⟨by have := HJ4.out; have := HK2.out; have := HK3.out; omega⟩, ⟨by (with_reducible repeat (first | apply Kd.V_alloc | apply Kd.V_drewN | apply Kd.V_drew)); exact HO_3.out⟩, ⟨ph HB.out⟩⟩
       rw [if_pos c19] at H
       have c19b0 := decide_eq_true c19
       clear c19
       by_cases c20 : 0 ≤ x6_2
       rotate_left
       · rw [if_neg c20] at H
         exact absurd H (by simp)
       rw [if_pos c20] at H
       have c20b0 := decide_eq_true c20
       clear c20
       by_cases c21 : x6_2 < (t393.length : Int)
       rotate_left
       · rw [if_neg c21] at H
         exact absurd H (by simp)
       rw [if_pos c21] at H
       have c21b0 := decide_eq_true c21
       clear c21
       by_cases c22 : 0 ≤ x7_3
       rotate_left
       · rw [if_neg c22] at H
         exact absurd H (by simp)
       rw [if_pos c22] at H
       have c22b0 := decide_eq_true c22
       clear c22
       by_cases c23 : x7_3 < (((rd_T33 t393 x6_2).f0).length : Int)
       rotate_left
       · rw [if_neg c23] at H
         exact absurd H (by simp)
       rw [if_pos c23] at H
       have c23b0 := decide_eq_true c23
       clear c23
       by_cases c24 : ((rd_T30 ((rd_T33 t393 x6_2).f0) x7_3).f1.f1) ≥ t396
       · rw [if_pos c24] at H
         have c24b0 := decide_eq_true c24
         clear c24
         obtain rfl := Option.some.inj H
         have p400 : 0 ≤ (x6_2 : Int) := ofb
         have q400 : x6_2 < (t393.length : Int) := ofb
         obtain ⟨ad400, A400_0, c400_0, e400, hx400_0, hx400_1, hl400_0, hi400_0⟩ := at_T33 (Kd.V_reads' HO_3.out).2.2 x6_2 p400 q400
         cases e400
         obtain ⟨ce400, hce400, hMe400, hcc400⟩ := Kd.V_get HO_3.out z33 x6_2 p400 (by first | exact q400 | exact ofb | (have e_ := (Kd.V_reads' HO_3.out).1; omega))
         obtain ⟨ua400_0, uc400_0, rfl, ul400_0, ge400_0⟩ := k33_openF hMe400
         have hv400_0 := hcc400 0 _ rfl
         rw [Nat.add_zero] at hv400_0
         replace hv400_0 := Option.some.inj (hv400_0.symm.trans hx400_0)
         injection hv400_0 with hva_ hvn_ hvc_
         rw [hva_] at ge400_0
         rw [hvc_] at ul400_0
         have HL400_0 := am (show Kd.V k30 30 _ w.heap.size _ _ ((rd_T33 t393 x6_2).f0) from Kd.V_mk ul400_0 ge400_0)
         clear hva_ hvn_ hvc_ ge400_0 ul400_0
         clear hcc400 hce400
         have HR400_0 := am hi400_0
         have HC400_0 := am hl400_0
         clear hi400_0 hl400_0
         replace p400 := eq_true p400
         replace q400 := eq_true q400
         have p401 : 0 ≤ (x7_3 : Int) := ofb
         have q401 : x7_3 < (((rd_T33 t393 x6_2).f0).length : Int) := ofb
         obtain ⟨ad401, e401, hx401_0, hx401_1, hx401_2, hx401_3, hx401_4⟩ := at_T30 (by repeat (first | (with_reducible exact HR400_0.out) | (with_reducible refine Kd.C_alloc ?_ _) | (with_reducible refine Kd.C_drewN ?_ _) | (with_reducible refine Kd.C_drew ?_) | exact HR400_0.out)) x7_3 p401 q401
         cases e401
         replace p401 := eq_true p401
         replace q401 := eq_true q401
         go_wp2
         go_ret
         exact (rq (ph HB.out))
       rw [if_neg c24] at H
       have c24b0 := decide_eq_false c24
       clear c24
       by_cases c25 : x5_3 = true
       · subst c25
         have H1 : (laws_FnNext.l1 k3 t393 t396 true x6_2 (wrap64 (x7_3 + 1))) = some r := by rw [if_pos rfl] at H; exact H
         clear H
         have H := H1
         clear H1
         have H' := am H
         clear H
         have p400 : 0 ≤ (x6_2 : Int) := ofb
         have q400 : x6_2 < (t393.length : Int) := ofb
         obtain ⟨ad400, A400_0, c400_0, e400, hx400_0, hx400_1, hl400_0, hi400_0⟩ := at_T33 (Kd.V_reads' HO_3.out).2.2 x6_2 p400 q400
         cases e400
         obtain ⟨ce400, hce400, hMe400, hcc400⟩ := Kd.V_get HO_3.out z33 x6_2 p400 (by first | exact q400 | exact ofb | (have e_ := (Kd.V_reads' HO_3.out).1; omega))
         obtain ⟨ua400_0, uc400_0, rfl, ul400_0, ge400_0⟩ := k33_openF hMe400
         have hv400_0 := hcc400 0 _ rfl
         rw [Nat.add_zero] at hv400_0
         replace hv400_0 := Option.some.inj (hv400_0.symm.trans hx400_0)
         injection hv400_0 with hva_ hvn_ hvc_
         rw [hva_] at ge400_0
         rw [hvc_] at ul400_0
         have HL400_0 := am (show Kd.V k30 30 _ w.heap.size _ _ ((rd_T33 t393 x6_2).f0) from Kd.V_mk ul400_0 ge400_0)
         clear hva_ hvn_ hvc_ ge400_0 ul400_0
         clear hcc400 hce400
         have HR400_0 := am hi400_0
         have HC400_0 := am hl400_0
         clear hi400_0 hl400_0
         replace p400 := eq_true p400
         replace q400 := eq_true q400
         have p401 : 0 ≤ (x7_3 : Int) := ofb
         have q401 : x7_3 < (((rd_T33 t393 x6_2).f0).length : Int) := ofb
         obtain ⟨ad401, e401, hx401_0, hx401_1, hx401_2, hx401_3, hx401_4⟩ := at_T30 (by repeat (first | (with_reducible exact HR400_0.out) | (with_reducible refine Kd.C_alloc ?_ _) | (with_reducible refine Kd.C_drewN ?_ _) | (with_reducible refine Kd.C_drew ?_) | exact HR400_0.out)) x7_3 p401 q401
         cases e401
         replace p401 := eq_true p401
         replace q401 := eq_true q401
         go_wp2
         go_roundg k3
         case measure => have := HJ4.out; have := HK2.out; have := HK3.out; omega
         case rel => exact ⟨(true), (wrap64 (x7_3 + 1)), rf, rf, H', ⟨by have := HJ4.out; have := HK2.out; have := HK3.out; omega⟩, ⟨by (with_reducible repeat (first | apply Kd.V_alloc | apply Kd.V_drewN | apply Kd.V_drew)); exact HO_3.out⟩, ⟨ph HB.out⟩⟩
       replace c25 := Bool.eq_false_iff.mpr c25
       subst c25
       have H1 : (laws_FnNext.l1 k3 t393 t396 (((rd_T30 ((rd_T33 t393 x6_2).f0) x7_3).f1.f1) == (wrap64 (t396 - 1))) x6_2 (wrap64 (x7_3 + 1))) = some r := by rw [if_neg (show ¬ (false = true) by decide)] at H; exact H
       clear H
       have H := H1
       clear H1
       have H' := am H
       clear H
       have p400 : 0 ≤ (x6_2 : Int) := ofb
       have q400 : x6_2 < (t393.length : Int) := ofb
       obtain ⟨ad400, A400_0, c400_0, e400, hx400_0, hx400_1, hl400_0, hi400_0⟩ := at_T33 (Kd.V_reads' HO_3.out).2.2 x6_2 p400 q400
       cases e400
       obtain ⟨ce400, hce400, hMe400, hcc400⟩ := Kd.V_get HO_3.out z33 x6_2 p400 (by first | exact q400 | exact ofb | (have e_ := (Kd.V_reads' HO_3.out).1; omega))
       obtain ⟨ua400_0, uc400_0, rfl, ul400_0, ge400_0⟩ := k33_openF hMe400
       have hv400_0 := hcc400 0 _ rfl
       rw [Nat.add_zero] at hv400_0
       replace hv400_0 := Option.some.inj (hv400_0.symm.trans hx400_0)
       injection hv400_0 with hva_ hvn_ hvc_
       rw [hva_] at ge400_0
       rw [hvc_] at ul400_0
       have HL400_0 := am (show Kd.V k30 30 _ w.heap.size _ _ ((rd_T33 t393 x6_2).f0) from Kd.V_mk ul400_0 ge400_0)
       clear hva_ hvn_ hvc_ ge400_0 ul400_0
       clear hcc400 hce400
       have HR400_0 := am hi400_0
       have HC400_0 := am hl400_0
       clear hi400_0 hl400_0
       replace p400 := eq_true p400
       replace q400 := eq_true q400
       have p401 : 0 ≤ (x7_3 : Int) := ofb
       have q401 : x7_3 < (((rd_T33 t393 x6_2).f0).length : Int) := ofb
       obtain ⟨ad401, e401, hx401_0, hx401_1, hx401_2, hx401_3, hx401_4⟩ := at_T30 (by repeat (first | (with_reducible exact HR400_0.out) | (with_reducible refine Kd.C_alloc ?_ _) | (with_reducible refine Kd.C_drewN ?_ _) | (with_reducible refine Kd.C_drew ?_) | exact HR400_0.out)) x7_3 p401 q401
       cases e401
       replace p401 := eq_true p401
       replace q401 := eq_true q401
       go_wp2
       go_roundg k3
       case measure => have := HJ4.out; have := HK2.out; have := HK3.out; omega
       case rel => exact ⟨((((rd_T30 ((rd_T33 t393 x6_2).f0) x7_3).f1.f1) == (wrap64 (t396 - 1)))), (wrap64 (x7_3 + 1)), rf, rf, H', ⟨by have := HJ4.out; have := HK2.out; have := HK3.out; omega⟩, ⟨by (with_reducible repeat (first | apply Kd.V_alloc | apply Kd.V_drewN | apply Kd.V_drew)); exact HO_3.out⟩, ⟨ph HB.out⟩⟩
def laws_FnNext.Pure : Prop := ∀ (l0 : List Int), l0.length ≤ maxLen → l0.length * 1 ≤ 140737488351232 → (∀ x ∈ l0, (Lit.int .u8 x).wf = true) → ∃ k, laws_FnNext.f k l0 = some true
theorem laws_FnNext.walk (P : laws_FnNext.Pure) (a0 : Option Addr) (len0 cap0 : Nat) (z0 : List Int) (w : World) (w0 : (a0 = none ∧ len0 = 0 ∧ cap0 = 0 ∧ z0 = []) ∨ ∃ x, a0 = some x ∧ len0 ≤ cap0 ∧ cap0 ≤ maxLen ∧ z0.length = cap0 ∧ (∀ i, i < z0.length → w.cell? (x.add i) = some (.int .u8 (z0.getD i 0))) ∧ ∀ n ∈ z0, (Lit.int .u8 n).wf = true) (y0 : len0 * 1 ≤ 140737488351232) :
 Calls Try.prog 3 #[.slice a0 len0 cap0] w fun e w' => e = .returned (.bool true) ∧ Below w.heap.size w w' := by
 obtain ⟨l0, rfl, hr0, hm0, hw0, hc0⟩ := ReadsInt.ofRowC w0
 obtain ⟨k, h⟩ := P l0 hm0 y0 hw0
 refine (laws_FnNext.calls k _ _ l0 true w (Kd.C_of_reads (d := (0 : Int)) (h1 := fun _ => rfl) hr0) hc0 h).mono ?_
 rintro e w' ⟨rfl, hd⟩
 exact ⟨rfl, hd⟩
end Go.Proofs.Ytjfbiobjegnibaa.Rq
