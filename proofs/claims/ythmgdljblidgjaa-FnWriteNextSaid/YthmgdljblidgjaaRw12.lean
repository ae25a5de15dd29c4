-- printed by wip/pp/pp.py
import Derived.Test.YthmgdljblidgjaaRw0
import Derived.Test.YthmgdljblidgjaaRw8
import Derived.Test.YthmgdljblidgjaaRw11
namespace Go.Proofs.Ythmgdljblidgjaa.Rw
open Go.RowKit Go.Proofs.YthmgdljblidgjaaW.PrintWords Go.Proofs.YthmgdljblidgjaaW.PrintLast Go.Proofs.YthmgdljblidgjaaW.PrintMore
attribute [local go_sem] max2_int min2_int max_two min_two max_three min_three max_four min_four
set_option linter.unusedVariables false
set_option linter.unusedSimpArgs false
theorem blockOk_eq (b : Int) : impl_blockOk.f b = some (decide (0 ≤ b ∧ b < 4)) := by
 unfold impl_blockOk.f
 by_cases h : b ≥ 0
 rotate_left
 · rw [if_neg h]
   exact congrArg some (decide_eq_false (fun h2 => h h2.1)).symm
 rw [if_pos h]
 exact congrArg some (decide_eq_decide.2 ⟨fun h2 => ⟨h, h2⟩, fun h2 => h2.2⟩)
def pageFW (r0 r1 r2 r3 : Int) (tn : Bool) : S33 := if tn then ⟨2, ⟨0, 0, 0, 0⟩⟩ else ⟨1, ⟨r0, r1, r2, r3⟩⟩
def listFW (l0 : List S36) (b : Int) (n : Int) (p : S33) : List S36 := l0.set b.toNat ⟨(rd_T36 l0 b).f0.set (4 - n).toNat p, (rd_T36 l0 b).f1⟩
def outFW (l0 : List S36) (b : Int) (n : Int) (u : Bool) (p : S33) : List S36 := if n ≠ 0 ∧ u = false then listFW l0 b n p else l0
def okFW (n : Int) (u : Bool) : Bool := decide (n ≠ 0) && !u
theorem outFW_no {l0 : List S36} {b n : Int} {u : Bool} {p : S33} (h : n = 0 ∨ u = true) : outFW l0 b n u p = l0 ∧ okFW n u = false := by
 unfold outFW okFW
 rcases h with rfl | rfl
 · exact ⟨if_neg (fun h => h.1 rfl), rfl⟩
 · exact ⟨if_neg (fun h => Bool.noConfusion h.2), by rw [Bool.not_true, Bool.and_false]⟩
theorem outFW_yes {l0 : List S36} {b n : Int} {p : S33} (h : n ≠ 0) : outFW l0 b n false p = listFW l0 b n p ∧ okFW n false = true := by
 unfold outFW okFW
 exact ⟨if_pos ⟨h, rfl⟩, by rw [decide_eq_true h]; rfl⟩
set_option maxHeartbeats 4000000 in
set_option maxRecDepth 100000 in
theorem impl_FlashWrite.bad (A0 : Option Addr) (c0 : Nat) (l0 : List S36) (b r0 r1 r2 r3 : Int) (tn : Bool) (w : World) (hr0 : Kd.C k36 w A0 l0.length l0) (hc0 : l0.length ≤ c0) (hg : ¬ (flashOkB l0 = true ∧ (0 ≤ b ∧ b < 4) ∧ recOkB r0 r1 r2 r3 = true)) :
 Calls Try.prog 6 #[.slice A0 l0.length c0, .int .i64 b, .agg #[.int .i64 r0, .int .i64 r1, .int .i64 r2, .int .i64 r3], .bool tn] w fun e w' => e = .returned (.tuple #[.slice none 0 0, .bool false]) ∧ Below w.heap.size w w' := by
 have hu := Try.underlying25
 have HC := am (And.intro hr0 hc0)
 clear hr0 hc0
 have hbx := blk_new w (.cells #[.int .i64 r0, .int .i64 r1, .int .i64 r2, .int .i64 r3] 25)
 have hB1 := below_alloc (Below.refl _ w) (.cells #[.int .i64 r0, .int .i64 r1, .int .i64 r2, .int .i64 r3] 25)
 go_enter Try.func6, Try.ntmps6
 go_wp2_with fail
 refine (impl_FlashOk.calls A0 c0 l0 (flashOkB l0) _ (Kd.C_below HC.out.1 hB1) HC.out.2 rfl).mono ?_
 rintro e w2 ⟨rfl, hb⟩
 have hB2 := below_then hB1 hB1.size hb
 have hbx2 := blk_below hbx hb
 clear hB1 hbx hb
 cases hf : flashOkB l0 with
 | false =>
  clear hf hg
  go_wp2
  refine bodyPost_ret (results_tmp2 rfl _ _ _) rfl ?_
  exact ⟨rfl, hB2⟩
 | true =>
  go_wp2_with fail
  refine (impl_blockOk.calls b _ _ (blockOk_eq b)).mono ?_
  rintro e w3 ⟨rfl, hd⟩
  have hB3 := below_then hB2 hB2.size hd.below
  have hbx3 := blk_below hbx2 hd.below
  clear hB2 hbx2 hd
  by_cases hb : 0 ≤ b ∧ b < 4
  rotate_left
  · rw [decide_eq_false hb]
    clear hf hg hb
    go_wp2
    refine bodyPost_ret (results_tmp2 rfl _ _ _) rfl ?_
    exact ⟨rfl, hB3⟩
  rw [decide_eq_true hb]
  have q0 : w3.cell? ⟨w.heap.size, 0, none⟩ = some (.int .i64 r0) := (blk_cell hbx3 0).trans rfl
  have q1 : w3.cell? ⟨w.heap.size, 1, none⟩ = some (.int .i64 r1) := (blk_cell hbx3 1).trans rfl
  have q2 : w3.cell? ⟨w.heap.size, 2, none⟩ = some (.int .i64 r2) := (blk_cell hbx3 2).trans rfl
  have q3 : w3.cell? ⟨w.heap.size, 3, none⟩ = some (.int .i64 r3) := (blk_cell hbx3 3).trans rfl
  have hrec : recOkB r0 r1 r2 r3 = false := by
   cases h : recOkB r0 r1 r2 r3 with
   | false => rfl
   | true => exact absurd ⟨hf, hb, h⟩ hg
  clear hf hg hb
  go_wp2_with fail
  refine (impl_RecOk.calls r0 r1 r2 r3 (recOkB r0 r1 r2 r3) _ rfl).mono ?_
  rintro e w4 ⟨rfl, hb⟩
  rw [hrec]
  have hB4 := below_then hB3 hB3.size hb
  clear hB3 hb hbx3 q0 q1 q2 q3 hrec
  go_wp2
  refine bodyPost_ret (results_tmp2 rfl _ _ _) rfl ?_
  exact ⟨rfl, hB4⟩
theorem S_page {w1 : World} {base g n cap gi ni ci : Nat} {xs : List S36} (HS : Kd.S kb_ 36 w1 base (fun k => base ≤ k) (.slice (some ⟨g, 0, none⟩) n cap) xs) (b : Int) (h0 : 0 ≤ b) (h1 : b < n)
 (hc : w1.cell? ⟨g, b.toNat * 2, none⟩ = some (.slice (some ⟨gi, 0, none⟩) ni ci)) (j : Int) (hj0 : 0 ≤ j) (hj1 : j < ni) (p : S33) :
 Kd.S kb_ 36 (w1.setCells gi (j.toNat * 5) [.int .i64 p.f0, .int .i64 p.f1.f0, .int .i64 p.f1.f1, .int .i64 p.f1.f2, .int .i64 p.f1.f3]) base (fun k => base ≤ k) (.slice (some ⟨g, 0, none⟩) n cap) (xs.set b.toNat ⟨(rd_T36 xs b).f0.set j.toNat p, (rd_T36 xs b).f1⟩) := by
 obtain ⟨oki, c, hcl, hM, hcc, hfr, hoki, hH⟩ := Kd.S_elem HS z36 b h0 h1
 obtain ⟨v0, rfl, hR⟩ := kb__openM hM
 have hc0 := hcc 0 _ rfl
 have esz : (kb_).sz = 2 := rfl
 rw [esz, Nat.add_zero, hc] at hc0
 obtain rfl := Option.some.inj hc0
 obtain ⟨ce, hce, hMe, hcce, hfre⟩ := Kd.R_elem hR z33 j hj0 hj1
 obtain ⟨hR2, hg2⟩ := Kd.R_seg hR j hj0 hj1 (seg := [.int .i64 p.f0, .int .i64 p.f1.f0, .int .i64 p.f1.f1, .int .i64 p.f1.f2, .int .i64 p.f1.f3]) (j := 0) (okp := fun _ => False) hce hcce (show 0 + 5 ≤ 5 from Nat.le_refl 5) (x' := p)
  (by
   rw [List.take_zero, List.nil_append, List.drop_of_length_le (by rw [hce]; exact Nat.le_refl 5), List.append_nil]
   exact k33_mkM _ _ _ p) (fun _ h => h.elim)
 have hgi : oki gi := hR.1 gi rfl
 have hk : Kept w1 (w1.setCells gi (j.toNat * 5) [.int .i64 p.f0, .int .i64 p.f1.f0, .int .i64 p.f1.f1, .int .i64 p.f1.f2, .int .i64 p.f1.f3]) (fun k => k = gi) := Kept.of_grown hg2 (Kept.refl w1 _) (fun k hk => Or.inl (Option.some.inj hk).symm)
 exact Kd.H_back (Kd.H_kept hH hk (fun k _ hn hk2 => hn (by rw [hk2]; exact hgi))) (kb__mkM _ base oki ⟨(rd_T36 xs b).f0.set j.toNat p, (rd_T36 xs b).f1⟩ hR2) (fun k hk => hk)
theorem below_set5 {B gi : Nat} {w W : World} (h : Below B w W) (hg : B ≤ gi) (a b c d e : Nat) (u1 u2 u3 u4 u5 : Value) : Below B w (((((W.setCell ⟨gi, a, none⟩ u1).setCell ⟨gi, b, none⟩ u2).setCell ⟨gi, c, none⟩ u3).setCell ⟨gi, d, none⟩ u4).setCell ⟨gi, e, none⟩ u5) :=
 ((((h.setCell (p := ⟨gi, a, none⟩) hg _).setCell (p := ⟨gi, b, none⟩) hg _).setCell (p := ⟨gi, c, none⟩) hg _).setCell (p := ⟨gi, d, none⟩) hg _).setCell (p := ⟨gi, e, none⟩) hg _
set_option maxHeartbeats 8000000 in
set_option maxRecDepth 100000 in
theorem impl_FlashWrite.good (K : Nat) (A0 : Option Addr) (c0 : Nat) (l0 : List S36) (b r0 r1 r2 r3 n : Int) (tn u : Bool) (w : World) (hr0 : Kd.C k36 w A0 l0.length l0) (hc0 : l0.length ≤ c0) (hf : flashOkB l0 = true) (hlen : l0.length = 4) (hall : ∀ x ∈ l0, x.f0.length = 4)
 (hb : 0 ≤ b ∧ b < 4) (hrec : recOkB r0 r1 r2 r3 = true) (hp : (rd_T36 l0 b).f0.length = 4) (hn : impl_freePages.f K (rd_T36 l0 b).f0 (rd_T36 l0 b).f1 = some n) (hn0 : 0 ≤ n ∧ n ≤ 4) (hu0 : impl_seqUsed.f K l0 r1 = some u) :
 Calls Try.prog 6 #[.slice A0 l0.length c0, .int .i64 b, .agg #[.int .i64 r0, .int .i64 r1, .int .i64 r2, .int .i64 r3], .bool tn] w fun e w' => ∃ v, e = .returned (.tuple #[v, .bool (okFW n u)]) ∧ Kd.S kb_ 36 w' w.heap.size (fun k => w.heap.size ≤ k) v (outFW l0 b n u (pageFW r0 r1 r2 r3 tn)) ∧ Below w.heap.size w w' := by
 have hu := Try.underlying25
 have hu2 := Try.underlying36
 have hu3 := Try.underlying33
 have HC := am (And.intro hr0 hc0)
 have HL := am (And.intro hlen hall)
 have HF := am hf
 have HN := am hn
 have HU := am hu0
 have HP := am hp
 have HREC := am hrec
 have HB0 := am hb
 clear hr0 hc0 hlen hall hf hn hu0 hp hrec hb
 have hbx := blk_new w (.cells #[.int .i64 r0, .int .i64 r1, .int .i64 r2, .int .i64 r3] 25)
 have hB1 := below_alloc (Below.refl _ w) (.cells #[.int .i64 r0, .int .i64 r1, .int .i64 r2, .int .i64 r3] 25)
 go_enter Try.func6, Try.ntmps6
 go_wp2_with fail
 refine (impl_FlashOk.calls A0 c0 l0 (flashOkB l0) _ (Kd.C_below HC.out.1 hB1) HC.out.2 rfl).mono ?_
 rintro e w2 ⟨rfl, hb⟩
 rw [HF.out]
 have hB2 := below_then hB1 hB1.size hb
 have hbx2 := blk_below hbx hb
 clear hB1 hbx hb
 go_wp2_with fail
 refine (impl_blockOk.calls b _ _ (blockOk_eq b)).mono ?_
 rintro e w3 ⟨rfl, hd⟩
 rw [decide_eq_true HB0.out]
 have hB3 := below_then hB2 hB2.size hd.below
 have hbx3 := blk_below hbx2 hd.below
 clear hB2 hbx2 hd
 have q0 : w3.cell? ⟨w.heap.size, 0, none⟩ = some (.int .i64 r0) := (blk_cell hbx3 0).trans rfl
 have q1 : w3.cell? ⟨w.heap.size, 1, none⟩ = some (.int .i64 r1) := (blk_cell hbx3 1).trans rfl
 have q2 : w3.cell? ⟨w.heap.size, 2, none⟩ = some (.int .i64 r2) := (blk_cell hbx3 2).trans rfl
 have q3 : w3.cell? ⟨w.heap.size, 3, none⟩ = some (.int .i64 r3) := (blk_cell hbx3 3).trans rfl
 go_wp2_with fail
 refine (impl_RecOk.calls r0 r1 r2 r3 (recOkB r0 r1 r2 r3) _ rfl).mono ?_
 rintro e w4 ⟨rfl, hb⟩
 rw [HREC.out]
 have hB4 := below_then hB3 hB3.size hb
 have hbx4 := blk_below hbx3 hb
 clear hB3 hb hbx3 q0 q1 q2 q3
 go_wp2_with fail
 refine (impl_flashCopy.calls A0 c0 l0 _ (Kd.C_below HC.out.1 hB4) (by have := HL.out.1; omega) (by have := HL.out.1; omega) HL.out.2).mono ?_
 rintro e w5 ⟨v, rfl, hS, hb⟩
 have hB5 := below_then hB4 hB4.size hb
 have hbx5 := blk_below hbx4 hb
 have hS := Kd.S_mono (Kd.S_lower hS hB4.size) (ok' := fun k => w.heap.size ≤ k) (fun k hk => Nat.le_trans hB4.size hk)
 clear hB4 hb hbx4
 obtain ⟨g, cap, rfl, hgb, hgl, cellsg, hcg⟩ := Kd.S_form hS (by have := HL.out.1; omega)
 have hb4 : b < (l0.length : Int) := by have := HL.out.1; have := HB0.out; omega
 obtain ⟨oki, c, hcl, hM, hcc, hfr, hoki, hH⟩ := Kd.S_elem hS z36 b HB0.out.1 hb4
 obtain ⟨v0, rfl, hR⟩ := kb__openM hM
 have esz : (kb_).sz = 2 := rfl
 have o0 := hcc 0 _ rfl
 have o1 := hcc 1 _ rfl
 rw [esz, Nat.add_zero] at o0
 rw [esz] at o1
 have hR : k33.R 79 w5 w.heap.size oki v0 (rd_T36 l0 b).f0 := hR
 replace o1 : w5.cell? ⟨g, b.toNat * 2 + 1, none⟩ = some (.int .i64 (rd_T36 l0 b).f1) := o1
 obtain ⟨gi, ci, rfl, hgib, hgil, cellsi, hcgi⟩ := Kd.R_form hR (by rw [HP.out]; decide)
 have hRr := Kd.R_reads' hR
 have hgne : gi ≠ g := (hoki gi (hR.1 gi rfl)).2
 clear hcl hM hcc hfr hoki hH esz
 have HS := am hS
 have HRR := am hRr
 have HR := am hR
 have HCG := am hcg
 have HCI := am hcgi
 clear hS hRr hR hcg hcgi
 have hbt := decide_eq_true hb4
 have hbq : (b < (l0.length : Int)) = True := eq_true hb4
 have hbp : ((0 : Int) ≤ b) = True := eq_true HB0.out.1
 clear hb4
 go_wp2_with fail
 refine (impl_freePages.calls K (some ⟨gi, 0, none⟩) ci (rd_T36 l0 b).f0 (rd_T36 l0 b).f1 n _ HRR.out.2.2 HRR.out.2.1 HN.out).mono ?_
 rintro e w6 ⟨rfl, hb6⟩
 have hB6 := below_then hB5 hB5.size hb6
 have hbx6 := blk_below hbx5 hb6
 have hS6 := Kd.S_below HS.out hb6
 clear hbx5 hB5
 by_cases hnz : n = 0
 · subst hnz
   clear hbq hbp hbt
   go_wp2
   refine bodyPost_ret (results_tmp2 rfl _ _ _) rfl ?_
   refine ⟨.slice (some ⟨g, 0, none⟩) l0.length cap, rfl, ?_, hB6⟩
   rw [(outFW_no (Or.inl rfl)).1]
   exact hS6
 have hne : (n == 0) = false := by simpa using hnz
 have q1 : w6.cell? ⟨w.heap.size, 1, none⟩ = some (.int .i64 r1) := (blk_cell hbx6 1).trans rfl
 have HS6 := am hS6
 clear hS6
 go_wp2_with fail
 refine (impl_seqUsed.calls K (some ⟨g, 0, none⟩) cap l0 r1 u _ (kb_C (Kd.S_reads' HS6.out).2.2) (Kd.S_reads' HS6.out).2.1 HU.out).mono ?_
 rintro e w7 ⟨rfl, hb7⟩
 have hB7 := below_then hB6 hB6.size hb7
 have hbx7 := blk_below hbx6 hb7
 have hS7 := Kd.S_below HS6.out hb7
 have hb57 := below_then hb6 hb6.size hb7
 have hnd : decide (n ≠ 0) = true := decide_eq_true hnz
 cases u with
 | true =>
  clear q1 hbq hbp hbt o0 o1
  go_wp2
  refine bodyPost_ret (results_tmp2 rfl _ _ _) rfl ?_
  refine ⟨.slice (some ⟨g, 0, none⟩) l0.length cap, ?_, ?_, hB7⟩
  · rw [(outFW_no (l0 := l0) (b := b) (p := pageFW r0 r1 r2 r3 tn) (Or.inr rfl)).2]
    rfl
  · rw [(outFW_no (Or.inr rfl)).1]
    exact hS7
 | false =>
  have HS7 := am hS7
  have HB7 := am hB7
  have HND := am hnd
  have HNZ := am hnz
  have p0 := up hb57 o0
  have p1 := up hb57 o1
  have HCG7 := blk_below HCG.out hb57
  have HCI7 := blk_below HCI.out hb57
  have HR7 := am (Kd.R_below HR.out hb57)
  clear q1 o0 o1 hS7 hB7 hnd hb57 hb7 hbx6 hB6 hb6 hne hnz hgl hgil
  have q0 : w7.cell? ⟨w.heap.size, 0, none⟩ = some (.int .i64 r0) := (blk_cell hbx7 0).trans rfl
  have q1 : w7.cell? ⟨w.heap.size, 1, none⟩ = some (.int .i64 r1) := (blk_cell hbx7 1).trans rfl
  have q2 : w7.cell? ⟨w.heap.size, 2, none⟩ = some (.int .i64 r2) := (blk_cell hbx7 2).trans rfl
  have q3 : w7.cell? ⟨w.heap.size, 3, none⟩ = some (.int .i64 r3) := (blk_cell hbx7 3).trans rfl
  have l1 := blk_lt hbx7
  have l2 := blk_lt HCG7
  have l3 := blk_lt HCI7
  obtain rfl | rfl | rfl | rfl : n = 1 ∨ n = 2 ∨ n = 3 ∨ n = 4 := by have := HNZ.out; omega
  · cases tn with
    | true =>
     obtain ⟨ce, hce, hMe, hcce, hfre⟩ := Kd.R_elem HR7.out z33 (3 : Int) (by decide) (by have := HP.out; omega)
     obtain rfl := k33_openM hMe
     have d0 := hcce 0 _ rfl
     have f0 := hfre 0
     have d1 := hcce 1 _ rfl
     have f1 := hfre 1
     have d2 := hcce 2 _ rfl
     have f2 := hfre 2
     have d3 := hcce 3 _ rfl
     have f3 := hfre 3
     have d4 := hcce 4 _ rfl
     have f4 := hfre 4
     rw [show (Int.toNat 3) * (k33).sz = 15 from rfl] at d0 d1 d2 d3 d4 f0 f1 f2 f3 f4
     simp only [Nat.reduceAdd] at d0 d1 d2 d3 d4 f0 f1 f2 f3 f4
     clear hcce hfre hce hMe
     have hpl := HP.out
     rw [hpl] at p0
     go_wp2_with fail
     go_region
     have hst : Kd.S kb_ 36 (((((w7.setCell ⟨gi, 15, none⟩ (.int .i64 2)).setCell ⟨gi, 16, none⟩ (.int .i64 0)).setCell ⟨gi, 17, none⟩ (.int .i64 0)).setCell ⟨gi, 18, none⟩ (.int .i64 0)).setCell ⟨gi, 19, none⟩ (.int .i64 0)) w.heap.size (fun k => w.heap.size ≤ k) (.slice (some ⟨g, 0, none⟩) l0.length cap) (listFW l0 b 1 (pageFW r0 r1 r2 r3 true)) := S_page HS7.out b HB0.out.1 (of_decide_eq_true hbt) p0 (3 : Int) (by decide) (by decide) (pageFW r0 r1 r2 r3 true)
     have hbl : Below w.heap.size w (((((w7.setCell ⟨gi, 15, none⟩ (.int .i64 2)).setCell ⟨gi, 16, none⟩ (.int .i64 0)).setCell ⟨gi, 17, none⟩ (.int .i64 0)).setCell ⟨gi, 18, none⟩ (.int .i64 0)).setCell ⟨gi, 19, none⟩ (.int .i64 0)) := below_set5 HB7.out hgib _ _ _ _ _ _ _ _ _ _
     clear p0 p1 q0 q1 q2 q3 d0 d1 d2 d3 d4 f0 f1 f2 f3 f4 hbq hbp hbt
     go_wp2
     refine bodyPost_ret (results_tmp2 rfl _ _ _) rfl ?_
     refine ⟨.slice (some ⟨g, 0, none⟩) l0.length cap, ?_, ?_, below_drew (below_alloc hbl _)⟩
     · rw [(outFW_yes (l0 := l0) (b := b) (p := pageFW r0 r1 r2 r3 true) (show (1 : Int) ≠ 0 by decide)).2]
       rfl
     · rw [(outFW_yes (show (1 : Int) ≠ 0 by decide)).1]
       exact Kd.S_drew (Kd.S_alloc hst _)
    | false =>
     obtain ⟨ce, hce, hMe, hcce, hfre⟩ := Kd.R_elem HR7.out z33 (3 : Int) (by decide) (by have := HP.out; omega)
     obtain rfl := k33_openM hMe
     have d0 := hcce 0 _ rfl
     have f0 := hfre 0
     have d1 := hcce 1 _ rfl
     have f1 := hfre 1
     have d2 := hcce 2 _ rfl
     have f2 := hfre 2
     have d3 := hcce 3 _ rfl
     have f3 := hfre 3
     have d4 := hcce 4 _ rfl
     have f4 := hfre 4
     rw [show (Int.toNat 3) * (k33).sz = 15 from rfl] at d0 d1 d2 d3 d4 f0 f1 f2 f3 f4
     simp only [Nat.reduceAdd] at d0 d1 d2 d3 d4 f0 f1 f2 f3 f4
     clear hcce hfre hce hMe
     have hpl := HP.out
     rw [hpl] at p0
     go_wp2_with fail
     go_region
     have hst : Kd.S kb_ 36 (((((w7.setCell ⟨gi, 15, none⟩ (.int .i64 1)).setCell ⟨gi, 16, none⟩ (.int .i64 r0)).setCell ⟨gi, 17, none⟩ (.int .i64 r1)).setCell ⟨gi, 18, none⟩ (.int .i64 r2)).setCell ⟨gi, 19, none⟩ (.int .i64 r3)) w.heap.size (fun k => w.heap.size ≤ k) (.slice (some ⟨g, 0, none⟩) l0.length cap) (listFW l0 b 1 (pageFW r0 r1 r2 r3 false)) := S_page HS7.out b HB0.out.1 (of_decide_eq_true hbt) p0 (3 : Int) (by decide) (by decide) (pageFW r0 r1 r2 r3 false)
     have hbl : Below w.heap.size w (((((w7.setCell ⟨gi, 15, none⟩ (.int .i64 1)).setCell ⟨gi, 16, none⟩ (.int .i64 r0)).setCell ⟨gi, 17, none⟩ (.int .i64 r1)).setCell ⟨gi, 18, none⟩ (.int .i64 r2)).setCell ⟨gi, 19, none⟩ (.int .i64 r3)) := below_set5 HB7.out hgib _ _ _ _ _ _ _ _ _ _
     clear p0 p1 q0 q1 q2 q3 d0 d1 d2 d3 d4 f0 f1 f2 f3 f4 hbq hbp hbt
     go_wp2
     refine bodyPost_ret (results_tmp2 rfl _ _ _) rfl ?_
     refine ⟨.slice (some ⟨g, 0, none⟩) l0.length cap, ?_, ?_, below_drew (below_alloc hbl _)⟩
     · rw [(outFW_yes (l0 := l0) (b := b) (p := pageFW r0 r1 r2 r3 false) (show (1 : Int) ≠ 0 by decide)).2]
       rfl
     · rw [(outFW_yes (show (1 : Int) ≠ 0 by decide)).1]
       exact Kd.S_drew (Kd.S_alloc hst _)
  · cases tn with
    | true =>
     obtain ⟨ce, hce, hMe, hcce, hfre⟩ := Kd.R_elem HR7.out z33 (2 : Int) (by decide) (by have := HP.out; omega)
     obtain rfl := k33_openM hMe
     have d0 := hcce 0 _ rfl
     have f0 := hfre 0
     have d1 := hcce 1 _ rfl
     have f1 := hfre 1
     have d2 := hcce 2 _ rfl
     have f2 := hfre 2
     have d3 := hcce 3 _ rfl
     have f3 := hfre 3
     have d4 := hcce 4 _ rfl
     have f4 := hfre 4
     rw [show (Int.toNat 2) * (k33).sz = 10 from rfl] at d0 d1 d2 d3 d4 f0 f1 f2 f3 f4
     simp only [Nat.reduceAdd] at d0 d1 d2 d3 d4 f0 f1 f2 f3 f4
     clear hcce hfre hce hMe
     have hpl := HP.out
     rw [hpl] at p0
     go_wp2_with fail
     go_region
     have hst : Kd.S kb_ 36 (((((w7.setCell ⟨gi, 10, none⟩ (.int .i64 2)).setCell ⟨gi, 11, none⟩ (.int .i64 0)).setCell ⟨gi, 12, none⟩ (.int .i64 0)).setCell ⟨gi, 13, none⟩ (.int .i64 0)).setCell ⟨gi, 14, none⟩ (.int .i64 0)) w.heap.size (fun k => w.heap.size ≤ k) (.slice (some ⟨g, 0, none⟩) l0.length cap) (listFW l0 b 2 (pageFW r0 r1 r2 r3 true)) := S_page HS7.out b HB0.out.1 (of_decide_eq_true hbt) p0 (2 : Int) (by decide) (by decide) (pageFW r0 r1 r2 r3 true)
     have hbl : Below w.heap.size w (((((w7.setCell ⟨gi, 10, none⟩ (.int .i64 2)).setCell ⟨gi, 11, none⟩ (.int .i64 0)).setCell ⟨gi, 12, none⟩ (.int .i64 0)).setCell ⟨gi, 13, none⟩ (.int .i64 0)).setCell ⟨gi, 14, none⟩ (.int .i64 0)) := below_set5 HB7.out hgib _ _ _ _ _ _ _ _ _ _
     clear p0 p1 q0 q1 q2 q3 d0 d1 d2 d3 d4 f0 f1 f2 f3 f4 hbq hbp hbt
     go_wp2
     refine bodyPost_ret (results_tmp2 rfl _ _ _) rfl ?_
     refine ⟨.slice (some ⟨g, 0, none⟩) l0.length cap, ?_, ?_, below_drew (below_alloc hbl _)⟩
     · rw [(outFW_yes (l0 := l0) (b := b) (p := pageFW r0 r1 r2 r3 true) (show (2 : Int) ≠ 0 by decide)).2]
       rfl
     · rw [(outFW_yes (show (2 : Int) ≠ 0 by decide)).1]
       exact Kd.S_drew (Kd.S_alloc hst _)
    | false =>
     obtain ⟨ce, hce, hMe, hcce, hfre⟩ := Kd.R_elem HR7.out z33 (2 : Int) (by decide) (by have := HP.out; omega)
     obtain rfl := k33_openM hMe
     have d0 := hcce 0 _ rfl
     have f0 := hfre 0
     have d1 := hcce 1 _ rfl
     have f1 := hfre 1
     have d2 := hcce 2 _ rfl
     have f2 := hfre 2
     have d3 := hcce 3 _ rfl
     have f3 := hfre 3
     have d4 := hcce 4 _ rfl
     have f4 := hfre 4
     rw [show (Int.toNat 2) * (k33).sz = 10 from rfl] at d0 d1 d2 d3 d4 f0 f1 f2 f3 f4
     simp only [Nat.reduceAdd] at d0 d1 d2 d3 d4 f0 f1 f2 f3 f4
     clear hcce hfre hce hMe
     have hpl := HP.out
     rw [hpl] at p0
     go_wp2_with fail
     go_region
     have hst : Kd.S kb_ 36 (((((w7.setCell ⟨gi, 10, none⟩ (.int .i64 1)).setCell ⟨gi, 11, none⟩ (.int .i64 r0)).setCell ⟨gi, 12, none⟩ (.int .i64 r1)).setCell ⟨gi, 13, none⟩ (.int .i64 r2)).setCell ⟨gi, 14, none⟩ (.int .i64 r3)) w.heap.size (fun k => w.heap.size ≤ k) (.slice (some ⟨g, 0, none⟩) l0.length cap) (listFW l0 b 2 (pageFW r0 r1 r2 r3 false)) := S_page HS7.out b HB0.out.1 (of_decide_eq_true hbt) p0 (2 : Int) (by decide) (by decide) (pageFW r0 r1 r2 r3 false)
     have hbl : Below w.heap.size w (((((w7.setCell ⟨gi, 10, none⟩ (.int .i64 1)).setCell ⟨gi, 11, none⟩ (.int .i64 r0)).setCell ⟨gi, 12, none⟩ (.int .i64 r1)).setCell ⟨gi, 13, none⟩ (.int .i64 r2)).setCell ⟨gi, 14, none⟩ (.int .i64 r3)) := below_set5 HB7.out hgib _ _ _ _ _ _ _ _ _ _
     clear p0 p1 q0 q1 q2 q3 d0 d1 d2 d3 d4 f0 f1 f2 f3 f4 hbq hbp hbt
     go_wp2
     refine bodyPost_ret (results_tmp2 rfl _ _ _) rfl ?_
     refine ⟨.slice (some ⟨g, 0, none⟩) l0.length cap, ?_, ?_, below_drew (below_alloc hbl _)⟩
     · rw [(outFW_yes (l0 := l0) (b := b) (p := pageFW r0 r1 r2 r3 false) (show (2 : Int) ≠ 0 by decide)).2]
       rfl
     · rw [(outFW_yes (show (2 : Int) ≠ 0 by decide)).1]
       exact Kd.S_drew (Kd.S_alloc hst _)
  · cases tn with
    | true =>
     obtain ⟨ce, hce, hMe, hcce, hfre⟩ := Kd.R_elem HR7.out z33 (1 : Int) (by decide) (by have := HP.out; omega)
     obtain rfl := k33_openM hMe
     have d0 := hcce 0 _ rfl
     have f0 := hfre 0
     have d1 := hcce 1 _ rfl
     have f1 := hfre 1
     have d2 := hcce 2 _ rfl
     have f2 := hfre 2
     have d3 := hcce 3 _ rfl
     have f3 := hfre 3
     have d4 := hcce 4 _ rfl
     have f4 := hfre 4
     rw [show (Int.toNat 1) * (k33).sz = 5 from rfl] at d0 d1 d2 d3 d4 f0 f1 f2 f3 f4
     simp only [Nat.reduceAdd] at d0 d1 d2 d3 d4 f0 f1 f2 f3 f4
     clear hcce hfre hce hMe
     have hpl := HP.out
     rw [hpl] at p0
     go_wp2_with fail
     go_region
     have hst : Kd.S kb_ 36 (((((w7.setCell ⟨gi, 5, none⟩ (.int .i64 2)).setCell ⟨gi, 6, none⟩ (.int .i64 0)).setCell ⟨gi, 7, none⟩ (.int .i64 0)).setCell ⟨gi, 8, none⟩ (.int .i64 0)).setCell ⟨gi, 9, none⟩ (.int .i64 0)) w.heap.size (fun k => w.heap.size ≤ k) (.slice (some ⟨g, 0, none⟩) l0.length cap) (listFW l0 b 3 (pageFW r0 r1 r2 r3 true)) := S_page HS7.out b HB0.out.1 (of_decide_eq_true hbt) p0 (1 : Int) (by decide) (by decide) (pageFW r0 r1 r2 r3 true)
     have hbl : Below w.heap.size w (((((w7.setCell ⟨gi, 5, none⟩ (.int .i64 2)).setCell ⟨gi, 6, none⟩ (.int .i64 0)).setCell ⟨gi, 7, none⟩ (.int .i64 0)).setCell ⟨gi, 8, none⟩ (.int .i64 0)).setCell ⟨gi, 9, none⟩ (.int .i64 0)) := below_set5 HB7.out hgib _ _ _ _ _ _ _ _ _ _
     clear p0 p1 q0 q1 q2 q3 d0 d1 d2 d3 d4 f0 f1 f2 f3 f4 hbq hbp hbt
     go_wp2
     refine bodyPost_ret (results_tmp2 rfl _ _ _) rfl ?_
     refine ⟨.slice (some ⟨g, 0, none⟩) l0.length cap, ?_, ?_, below_drew (below_alloc hbl _)⟩
     · rw [(outFW_yes (l0 := l0) (b := b) (p := pageFW r0 r1 r2 r3 true) (show (3 : Int) ≠ 0 by decide)).2]
       rfl
     · rw [(outFW_yes (show (3 : Int) ≠ 0 by decide)).1]
       exact Kd.S_drew (Kd.S_alloc hst _)
    | false =>
     obtain ⟨ce, hce, hMe, hcce, hfre⟩ := Kd.R_elem HR7.out z33 (1 : Int) (by decide) (by have := HP.out; omega)
     obtain rfl := k33_openM hMe
     have d0 := hcce 0 _ rfl
     have f0 := hfre 0
     have d1 := hcce 1 _ rfl
     have f1 := hfre 1
     have d2 := hcce 2 _ rfl
     have f2 := hfre 2
     have d3 := hcce 3 _ rfl
     have f3 := hfre 3
     have d4 := hcce 4 _ rfl
     have f4 := hfre 4
     rw [show (Int.toNat 1) * (k33).sz = 5 from rfl] at d0 d1 d2 d3 d4 f0 f1 f2 f3 f4
     simp only [Nat.reduceAdd] at d0 d1 d2 d3 d4 f0 f1 f2 f3 f4
     clear hcce hfre hce hMe
     have hpl := HP.out
     rw [hpl] at p0
     go_wp2_with fail
     go_region
     have hst : Kd.S kb_ 36 (((((w7.setCell ⟨gi, 5, none⟩ (.int .i64 1)).setCell ⟨gi, 6, none⟩ (.int .i64 r0)).setCell ⟨gi, 7, none⟩ (.int .i64 r1)).setCell ⟨gi, 8, none⟩ (.int .i64 r2)).setCell ⟨gi, 9, none⟩ (.int .i64 r3)) w.heap.size (fun k => w.heap.size ≤ k) (.slice (some ⟨g, 0, none⟩) l0.length cap) (listFW l0 b 3 (pageFW r0 r1 r2 r3 false)) := S_page HS7.out b HB0.out.1 (of_decide_eq_true hbt) p0 (1 : Int) (by decide) (by decide) (pageFW r0 r1 r2 r3 false)
     have hbl : Below w.heap.size w (((((w7.setCell ⟨gi, 5, none⟩ (.int .i64 1)).setCell ⟨gi, 6, none⟩ (.int .i64 r0)).setCell ⟨gi, 7, none⟩ (.int .i64 r1)).setCell ⟨gi, 8, none⟩ (.int .i64 r2)).setCell ⟨gi, 9, none⟩ (.int .i64 r3)) := below_set5 HB7.out hgib _ _ _ _ _ _ _ _ _ _
     clear p0 p1 q0 q1 q2 q3 d0 d1 d2 d3 d4 f0 f1 f2 f3 f4 hbq hbp hbt
     go_wp2
     refine bodyPost_ret (results_tmp2 rfl _ _ _) rfl ?_
     refine ⟨.slice (some ⟨g, 0, none⟩) l0.length cap, ?_, ?_, below_drew (below_alloc hbl _)⟩
     · rw [(outFW_yes (l0 := l0) (b := b) (p := pageFW r0 r1 r2 r3 false) (show (3 : Int) ≠ 0 by decide)).2]
       rfl
     · rw [(outFW_yes (show (3 : Int) ≠ 0 by decide)).1]
       exact Kd.S_drew (Kd.S_alloc hst _)
  · cases tn with
    | true =>
     obtain ⟨ce, hce, hMe, hcce, hfre⟩ := Kd.R_elem HR7.out z33 (0 : Int) (by decide) (by have := HP.out; omega)
     obtain rfl := k33_openM hMe
     have d0 := hcce 0 _ rfl
     have f0 := hfre 0
     have d1 := hcce 1 _ rfl
     have f1 := hfre 1
     have d2 := hcce 2 _ rfl
     have f2 := hfre 2
     have d3 := hcce 3 _ rfl
     have f3 := hfre 3
     have d4 := hcce 4 _ rfl
     have f4 := hfre 4
     rw [show (Int.toNat 0) * (k33).sz = 0 from rfl] at d0 d1 d2 d3 d4 f0 f1 f2 f3 f4
     simp only [Nat.reduceAdd] at d0 d1 d2 d3 d4 f0 f1 f2 f3 f4
     clear hcce hfre hce hMe
     have hpl := HP.out
     rw [hpl] at p0
     go_wp2_with fail
     go_region
     have hst : Kd.S kb_ 36 (((((w7.setCell ⟨gi, 0, none⟩ (.int .i64 2)).setCell ⟨gi, 1, none⟩ (.int .i64 0)).setCell ⟨gi, 2, none⟩ (.int .i64 0)).setCell ⟨gi, 3, none⟩ (.int .i64 0)).setCell ⟨gi, 4, none⟩ (.int .i64 0)) w.heap.size (fun k => w.heap.size ≤ k) (.slice (some ⟨g, 0, none⟩) l0.length cap) (listFW l0 b 4 (pageFW r0 r1 r2 r3 true)) := S_page HS7.out b HB0.out.1 (of_decide_eq_true hbt) p0 (0 : Int) (by decide) (by decide) (pageFW r0 r1 r2 r3 true)
     have hbl : Below w.heap.size w (((((w7.setCell ⟨gi, 0, none⟩ (.int .i64 2)).setCell ⟨gi, 1, none⟩ (.int .i64 0)).setCell ⟨gi, 2, none⟩ (.int .i64 0)).setCell ⟨gi, 3, none⟩ (.int .i64 0)).setCell ⟨gi, 4, none⟩ (.int .i64 0)) := below_set5 HB7.out hgib _ _ _ _ _ _ _ _ _ _
     clear p0 p1 q0 q1 q2 q3 d0 d1 d2 d3 d4 f0 f1 f2 f3 f4 hbq hbp hbt
     go_wp2
     refine bodyPost_ret (results_tmp2 rfl _ _ _) rfl ?_
     refine ⟨.slice (some ⟨g, 0, none⟩) l0.length cap, ?_, ?_, below_drew (below_alloc hbl _)⟩
     · rw [(outFW_yes (l0 := l0) (b := b) (p := pageFW r0 r1 r2 r3 true) (show (4 : Int) ≠ 0 by decide)).2]
       rfl
     · rw [(outFW_yes (show (4 : Int) ≠ 0 by decide)).1]
       exact Kd.S_drew (Kd.S_alloc hst _)
    | false =>
     obtain ⟨ce, hce, hMe, hcce, hfre⟩ := Kd.R_elem HR7.out z33 (0 : Int) (by decide) (by have := HP.out; omega)
     obtain rfl := k33_openM hMe
     have d0 := hcce 0 _ rfl
     have f0 := hfre 0
     have d1 := hcce 1 _ rfl
     have f1 := hfre 1
     have d2 := hcce 2 _ rfl
     have f2 := hfre 2
     have d3 := hcce 3 _ rfl
     have f3 := hfre 3
     have d4 := hcce 4 _ rfl
     have f4 := hfre 4
     rw [show (Int.toNat 0) * (k33).sz = 0 from rfl] at d0 d1 d2 d3 d4 f0 f1 f2 f3 f4
     simp only [Nat.reduceAdd] at d0 d1 d2 d3 d4 f0 f1 f2 f3 f4
     clear hcce hfre hce hMe
     have hpl := HP.out
     rw [hpl] at p0
     go_wp2_with fail
     go_region
     have hst : Kd.S kb_ 36 (((((w7.setCell ⟨gi, 0, none⟩ (.int .i64 1)).setCell ⟨gi, 1, none⟩ (.int .i64 r0)).setCell ⟨gi, 2, none⟩ (.int .i64 r1)).setCell ⟨gi, 3, none⟩ (.int .i64 r2)).setCell ⟨gi, 4, none⟩ (.int .i64 r3)) w.heap.size (fun k => w.heap.size ≤ k) (.slice (some ⟨g, 0, none⟩) l0.length cap) (listFW l0 b 4 (pageFW r0 r1 r2 r3 false)) := S_page HS7.out b HB0.out.1 (of_decide_eq_true hbt) p0 (0 : Int) (by decide) (by decide) (pageFW r0 r1 r2 r3 false)
     have hbl : Below w.heap.size w (((((w7.setCell ⟨gi, 0, none⟩ (.int .i64 1)).setCell ⟨gi, 1, none⟩ (.int .i64 r0)).setCell ⟨gi, 2, none⟩ (.int .i64 r1)).setCell ⟨gi, 3, none⟩ (.int .i64 r2)).setCell ⟨gi, 4, none⟩ (.int .i64 r3)) := below_set5 HB7.out hgib _ _ _ _ _ _ _ _ _ _
     clear p0 p1 q0 q1 q2 q3 d0 d1 d2 d3 d4 f0 f1 f2 f3 f4 hbq hbp hbt
     go_wp2
     refine bodyPost_ret (results_tmp2 rfl _ _ _) rfl ?_
     refine ⟨.slice (some ⟨g, 0, none⟩) l0.length cap, ?_, ?_, below_drew (below_alloc hbl _)⟩
     · rw [(outFW_yes (l0 := l0) (b := b) (p := pageFW r0 r1 r2 r3 false) (show (4 : Int) ≠ 0 by decide)).2]
       rfl
     · rw [(outFW_yes (show (4 : Int) ≠ 0 by decide)).1]
       exact Kd.S_drew (Kd.S_alloc hst _)
theorem Sb_V {W : World} {base : Nat} {ok : Nat → Prop} {v : Value} {xs : List S36} (h : Kd.S kb_ 36 W base ok v xs) : Kd.V k36 36 W base ok v xs := by
 obtain ⟨A, c, rfl⟩ := Kd.S_slice h
 exact ⟨A, c, rfl, (Kd.S_reads' h).2.1, Kd.F_imp (Kd.S_F h) (fun _ hC => kb_C hC)⟩
theorem blocksB_four : ∀ (l : List S36) (S : List Int), blocksB l S = true → ∀ b ∈ l, b.f0.length = 4
 | [], _, _, _, hb => by cases hb
 | b :: bs, S, h, c, hc => by
  rw [blocksB, Bool.and_eq_true] at h
  obtain ⟨h1, h2⟩ := h
  rcases List.mem_cons.1 hc with rfl | hc
  · unfold blockB at h1
    rw [Bool.and_eq_true, decide_eq_true_eq] at h1
    omega
  · cases hp : pagesB b.f0 S with
    | none => rw [hp] at h2; cases h2
    | some S' =>
     rw [hp] at h2
     exact blocksB_four bs S' h2 c hc
def impl_FlashWrite.f (k : Nat) (l0 : List (S36)) (b r0 r1 r2 r3 : Int) (tn : Bool) : Option (List (S36) × Bool) :=
 if flashOkB l0 = true ∧ (0 ≤ b ∧ b < 4) ∧ recOkB r0 r1 r2 r3 = true then (impl_freePages.f k (rd_T36 l0 b).f0 (rd_T36 l0 b).f1).bind fun n => (impl_seqUsed.f k l0 r1).bind fun u => if 0 ≤ n ∧ n ≤ 4 then some (outFW l0 b n u (pageFW r0 r1 r2 r3 tn), okFW n u) else none
 else some ([], false)
theorem impl_FlashWrite.mono : ∀ a0 a1 a2 a3 a4 a5 a6 k, LeO (impl_FlashWrite.f k a0 a1 a2 a3 a4 a5 a6) (impl_FlashWrite.f (k + 1) a0 a1 a2 a3 a4 a5 a6) := by
 intro a0 a1 a2 a3 a4 a5 a6 k
 unfold impl_FlashWrite.f
 exact LeO.ite (LeO.bind (impl_freePages.mono _ _ _) (fun _ => LeO.bind (impl_seqUsed.mono _ _ _) (fun _ => LeO.refl _))) (LeO.refl _)
theorem impl_FlashWrite.calls (k : Nat) (A0 : Option Addr) (c0 : Nat) (l0 : List (S36)) (a1 : Int) (a2_0 : Int) (a2_1 : Int) (a2_2 : Int) (a2_3 : Int) (a3 : Bool) (r1 : List (S36)) (r2 : Bool) (w : World) (hr0 : Kd.C k36 w A0 l0.length l0) (hc0 : l0.length ≤ c0) (h : impl_FlashWrite.f k l0 a1 a2_0 a2_1 a2_2 a2_3 a3 = some (r1, r2)) :
 Calls Try.prog 6 #[.slice A0 l0.length c0, .int .i64 a1, .agg #[.int .i64 a2_0, .int .i64 a2_1, .int .i64 a2_2, .int .i64 a2_3], .bool a3] w fun e w' => ∃ v0_ : Value, e = .returned (.tuple #[v0_, .bool r2]) ∧ Kd.V k36 36 w' w.heap.size (fun k_ => w.heap.size ≤ k_) v0_ r1 ∧ Below w.heap.size w w' := by
 unfold impl_FlashWrite.f at h
 by_cases hg : flashOkB l0 = true ∧ (0 ≤ a1 ∧ a1 < 4) ∧ recOkB a2_0 a2_1 a2_2 a2_3 = true
 rotate_left
 · rw [if_neg hg] at h
   have e := Prod.mk.inj (Option.some.inj h)
   rw [← e.1, ← e.2]
   refine (impl_FlashWrite.bad A0 c0 l0 a1 a2_0 a2_1 a2_2 a2_3 a3 w hr0 hc0 hg).mono ?_
   rintro e w' ⟨rfl, hb⟩
   exact ⟨_, rfl, Kd.V_nil _ _ _ _ _, hb⟩
 rw [if_pos hg] at h
 obtain ⟨n, hn, h⟩ := Option.bind_eq_some_iff.1 h
 obtain ⟨u, hu, h⟩ := Option.bind_eq_some_iff.1 h
 by_cases hn0 : 0 ≤ n ∧ n ≤ 4
 rotate_left
 · rw [if_neg hn0] at h
   cases h
 rw [if_pos hn0] at h
 have e := Prod.mk.inj (Option.some.inj h)
 have hf := hg.1
 have hf2 := hf
 unfold flashOkB at hf2
 rw [Bool.and_eq_true, decide_eq_true_eq] at hf2
 have hall := blocksB_four l0 [] hf2.2
 have hlen : l0.length = 4 := by omega
 have hm : rd_T36 l0 a1 ∈ l0 := by
  unfold rd_T36
  rw [List.getD_eq_getElem?_getD, List.getElem?_eq_getElem (by omega : a1.toNat < l0.length)]
  exact List.getElem_mem _
 rw [← e.1, ← e.2]
 refine (impl_FlashWrite.good k A0 c0 l0 a1 a2_0 a2_1 a2_2 a2_3 n a3 u w hr0 hc0 hf hlen hall hg.2.1 hg.2.2 (hall _ hm) hn hn0 hu).mono ?_
 rintro e w' ⟨v, rfl, hS, hb⟩
 exact ⟨v, rfl, Sb_V hS, hb⟩
end Go.Proofs.Ythmgdljblidgjaa.Rw
namespace Go.Proofs.Ythmgdljblidgjaa.Rw
open Go.RowKit Go.Proofs.YthmgdljblidgjaaW.PrintWords Go.Proofs.YthmgdljblidgjaaW.PrintLast Go.Proofs.YthmgdljblidgjaaW.PrintMore
attribute [local go_sem] max2_int min2_int max_two min_two max_three min_three max_four min_four
set_option linter.unusedVariables false
set_option linter.unusedSimpArgs false
attribute [local go_sem high] eqA33
def laws_lqPages.l0 : Nat → List (S33) → List (S33) → Int → Option (Bool)
 | 0, _, _, _ => none
 | k + 1, x0, x1, x5 => if x5 < (x0.length : Int) then (if 0 ≤ x5 then (if x5 < (x1.length : Int) then (if (!(((rd_T33 x0 x5).f0) == ((rd_T33 x1 x5).f0)) || ((!(((rd_T33 x0 x5).f1.f0) == ((rd_T33 x1 x5).f1.f0)) || (!(((rd_T33 x0 x5).f1.f1) == ((rd_T33 x1 x5).f1.f1)) || (!(((rd_T33 x0 x5).f1.f2) == ((rd_T33 x1 x5).f1.f2)) || (!(((rd_T33 x0 x5).f1.f3) == ((rd_T33 x1 x5).f1.f3)))))))) = true then (some false) else (laws_lqPages.l0 k x0 x1 (wrap64 (x5 + 1)))) else (none)) else (none)) else (some true)
def laws_lqPages.f (k : Nat) (l0 : List (S33)) (l1 : List (S33)) : Option (Bool) := if (l0.length : Int) = (l1.length : Int) then (laws_lqPages.l0 k l0 l1 0) else (some false)
theorem laws_lqPages.mono_l : ∀ k, (∀ y0 y1 y2, LeO (laws_lqPages.l0 k y0 y1 y2) (laws_lqPages.l0 (k + 1) y0 y1 y2))
 | 0 => fun _ _ _ r h => by simp [laws_lqPages.l0] at h
 | k + 1 => by
  have ih0 := laws_lqPages.mono_l k
  · intro y0 y1 y2
    unfold laws_lqPages.l0
    with_reducible repeat' first | exact ih0 _ _ _ | exact LeO.refl _ | exact LeO.none _ | refine LeO.ite ?_ ?_ | refine LeO.bind ?_ (fun _ => ?_)
theorem laws_lqPages.mono : ∀ a0 a1 k, LeO (laws_lqPages.f k a0 a1) (laws_lqPages.f (k + 1) a0 a1) := by
 intro a0 a1 k
 have ih0 := laws_lqPages.mono_l k
 unfold laws_lqPages.f
 with_reducible repeat' first | exact ih0 _ _ _ | exact LeO.refl _ | exact LeO.none _ | refine LeO.ite ?_ ?_ | refine LeO.bind ?_ (fun _ => ?_)
set_option maxHeartbeats 8000000 in
set_option maxRecDepth 100000 in
theorem laws_lqPages.calls (k : Nat) (A0 : Option Addr) (c0 : Nat) (l0 : List (S33)) (A1 : Option Addr) (c1 : Nat) (l1 : List (S33)) (r : Bool) (w : World) (hr0 : Kd.C k33 w A0 l0.length l0) (hc0 : l0.length ≤ c0) (hr1 : Kd.C k33 w A1 l1.length l1) (hc1 : l1.length ≤ c1) (h : laws_lqPages.f k l0 l1 = some r) :
 Calls Try.prog 10 #[.slice A0 l0.length c0, .slice A1 l1.length c1] w fun e w' => e = .returned (.bool r) ∧ Drawn0 w w' := by
 have hu33 := Try.underlying33
 have HR0 := am hr0
 have HC0 := am hc0
 clear hr0 hc0
 have HR1 := am hr1
 have HC1 := am hc1
 clear hr1 hc1
 have H : (if (l0.length : Int) = (l1.length : Int) then (laws_lqPages.l0 k l0 l1 0) else (some false)) = some r := h
 clear h
 by_cases c3 : (l0.length : Int) = (l1.length : Int)
 rotate_left
 · rw [if_neg c3] at H
   have c3b0 : ((l0.length : Int) == (l1.length : Int)) = false := beq_eq_false_iff_ne.mpr c3
   have c3b1 : ((l0.length : Int) != (l1.length : Int)) = true := bne_iff_ne.mpr c3
   have c3b2 : (l0.length == l1.length) = false := by first | simpa using c3 | (simp at c3 ⊢; omega)
   obtain rfl := Option.some.inj H
   go_enter Try.func10, Try.ntmps10
   go_wp2
   repeat (go_quiet (fail); try go_wp2)
   go_ret
   exact ⟨by first | rfl | (simp; done) | (simp [*]; done), by repeat (first | exact Drawn0.refl _ | apply Drawn0.step)⟩
 rw [if_pos c3] at H
 have c3b0 : ((l0.length : Int) == (l1.length : Int)) = true := beq_iff_eq.mpr c3
 have c3b1 : ((l0.length : Int) != (l1.length : Int)) = false := bne_eq_false_iff_eq.mpr c3
 have c3b2 : (l0.length == l1.length) = true := by first | simpa using c3 | (simp at c3 ⊢; omega)
 clear c3
 have H' := am H
 clear H
 go_enter Try.func10, Try.ntmps10
 go_wp2
 repeat (go_quiet (fail); try go_wp2)
 go_loopg [5] k (fun kq v5 w' => ∃ (x5_1 : Int), v5 = .int .i64 x5_1 ∧ Aside0 (laws_lqPages.l0 kq l0 l1 x5_1 = some r) ∧ Aside0 (kq ≤ k) ∧ Drawn0 w w')
 case atStart => exact ⟨(0), rf, H', ⟨Nat.le_refl _⟩, by repeat (first | exact Drawn0.refl _ | apply Drawn0.step)⟩
 case round =>
  clear H'
  obtain ⟨x5_1, rfl, HA, HK1, ⟨m1, rfl⟩⟩ := hrel
  cases gk with
  | zero => exact absurd HA.out (by simp [laws_lqPages.l0])
  | succ k1 =>
   have H := HA.out
   clear HA
   simp only [laws_lqPages.l0] at H
   by_cases c4 : x5_1 < (l0.length : Int)
   rotate_left
   · rw [if_neg c4] at H
     have c4b0 := decide_eq_false c4
     clear c4
     obtain rfl := Option.some.inj H
     go_wp2
     repeat (go_quiet (fail); try go_wp2)
     go_ret
     exact ⟨by first | rfl | (simp; done) | (simp [*]; done), by repeat (first | exact Drawn0.refl _ | apply Drawn0.step)⟩
   rw [if_pos c4] at H
   have c4b0 := decide_eq_true c4
   clear c4
   obtain ⟨c5b0, H⟩ := ifd H
   obtain ⟨c6b0, H⟩ := ifd H
   by_cases c7 : (!(((rd_T33 l0 x5_1).f0) == ((rd_T33 l1 x5_1).f0)) || ((!(((rd_T33 l0 x5_1).f1.f0) == ((rd_T33 l1 x5_1).f1.f0)) || (!(((rd_T33 l0 x5_1).f1.f1) == ((rd_T33 l1 x5_1).f1.f1)) || (!(((rd_T33 l0 x5_1).f1.f2) == ((rd_T33 l1 x5_1).f1.f2)) || (!(((rd_T33 l0 x5_1).f1.f3) == ((rd_T33 l1 x5_1).f1.f3)))))))) = true
   · rw [if_pos c7] at H
     have c7b0 : (!(((rd_T33 l0 x5_1).f0) == ((rd_T33 l1 x5_1).f0)) || ((!(((rd_T33 l0 x5_1).f1.f0) == ((rd_T33 l1 x5_1).f1.f0)) || (!(((rd_T33 l0 x5_1).f1.f1) == ((rd_T33 l1 x5_1).f1.f1)) || (!(((rd_T33 l0 x5_1).f1.f2) == ((rd_T33 l1 x5_1).f1.f2)) || (!(((rd_T33 l0 x5_1).f1.f3) == ((rd_T33 l1 x5_1).f1.f3)))))))) = true := c7
     clear c7
     obtain rfl := Option.some.inj H
     have p436 : 0 ≤ (x5_1 : Int) := ofb
     have q436 : x5_1 < (l0.length : Int) := ofb
     obtain ⟨ad436, e436, hx436_0, hx436_1, hx436_2, hx436_3, hx436_4⟩ := at_T33 HR0.out x5_1 p436 q436
     cases e436
     replace p436 := eq_true p436
     replace q436 := eq_true q436
     have p437 : 0 ≤ (x5_1 : Int) := ofb
     have q437 : x5_1 < (l1.length : Int) := ofb
     obtain ⟨ad437, e437, hx437_0, hx437_1, hx437_2, hx437_3, hx437_4⟩ := at_T33 HR1.out x5_1 p437 q437
     cases e437
     replace p437 := eq_true p437
     replace q437 := eq_true q437
     go_wp2
     repeat (go_quiet (fail); try go_wp2)
     go_ret
     exact ⟨by first | rfl | (simp; done) | (simp [*]; done), by repeat (first | exact Drawn0.refl _ | apply Drawn0.step)⟩
   rw [if_neg c7] at H
   have c7b0 : (!(((rd_T33 l0 x5_1).f0) == ((rd_T33 l1 x5_1).f0)) || ((!(((rd_T33 l0 x5_1).f1.f0) == ((rd_T33 l1 x5_1).f1.f0)) || (!(((rd_T33 l0 x5_1).f1.f1) == ((rd_T33 l1 x5_1).f1.f1)) || (!(((rd_T33 l0 x5_1).f1.f2) == ((rd_T33 l1 x5_1).f1.f2)) || (!(((rd_T33 l0 x5_1).f1.f3) == ((rd_T33 l1 x5_1).f1.f3)))))))) = false := by simpa using c7
   clear c7
   have H' := am H
   clear H
   have p436 : 0 ≤ (x5_1 : Int) := ofb
   have q436 : x5_1 < (l0.length : Int) := ofb
   obtain ⟨ad436, e436, hx436_0, hx436_1, hx436_2, hx436_3, hx436_4⟩ := at_T33 HR0.out x5_1 p436 q436
   cases e436
   replace p436 := eq_true p436
   replace q436 := eq_true q436
   have p437 : 0 ≤ (x5_1 : Int) := ofb
   have q437 : x5_1 < (l1.length : Int) := ofb
   obtain ⟨ad437, e437, hx437_0, hx437_1, hx437_2, hx437_3, hx437_4⟩ := at_T33 HR1.out x5_1 p437 q437
   cases e437
   replace p437 := eq_true p437
   replace q437 := eq_true q437
   go_wp2
   repeat (go_quiet (fail); try go_wp2)
   go_roundg k1
   case measure => have := HK1.out; omega
   case rel => exact ⟨(wrap64 (x5_1 + 1)), rf, H', ⟨by have := HK1.out; omega⟩, by repeat (first | exact Drawn0.refl _ | apply Drawn0.step)⟩
def laws_lqFlash.l0 : Nat → List (S36) → List (S36) → Int → Option (Bool)
 | 0, _, _, _ => none
 | k + 1, x0, x1, x5 => if x5 < (x0.length : Int) then (if 0 ≤ x5 then (if x5 < (x1.length : Int) then (if ((rd_T36 x0 x5).f1) = ((rd_T36 x1 x5).f1) then ((laws_lqPages.f k ((rd_T36 x0 x5).f0) ((rd_T36 x1 x5).f0)).bind fun t442 => (if t442 = true then (laws_lqFlash.l0 k x0 x1 (wrap64 (x5 + 1))) else (some false))) else (some false)) else (none)) else (none)) else (some true)
def laws_lqFlash.f (k : Nat) (l0 : List (S36)) (l1 : List (S36)) : Option (Bool) := if (l0.length : Int) = (l1.length : Int) then (laws_lqFlash.l0 k l0 l1 0) else (some false)
theorem laws_lqFlash.mono_l : ∀ k, (∀ y0 y1 y2, LeO (laws_lqFlash.l0 k y0 y1 y2) (laws_lqFlash.l0 (k + 1) y0 y1 y2))
 | 0 => fun _ _ _ r h => by simp [laws_lqFlash.l0] at h
 | k + 1 => by
  have ih0 := laws_lqFlash.mono_l k
  · intro y0 y1 y2
    unfold laws_lqFlash.l0
    with_reducible repeat' first | exact ih0 _ _ _ | exact laws_lqPages.mono _ _ _ | exact LeO.refl _ | exact LeO.none _ | refine LeO.ite ?_ ?_ | refine LeO.bind ?_ (fun _ => ?_)
theorem laws_lqFlash.mono : ∀ a0 a1 k, LeO (laws_lqFlash.f k a0 a1) (laws_lqFlash.f (k + 1) a0 a1) := by
 intro a0 a1 k
 have ih0 := laws_lqFlash.mono_l k
 unfold laws_lqFlash.f
 with_reducible repeat' first | exact ih0 _ _ _ | exact laws_lqPages.mono _ _ _ | exact LeO.refl _ | exact LeO.none _ | refine LeO.ite ?_ ?_ | refine LeO.bind ?_ (fun _ => ?_)
set_option maxHeartbeats 8000000 in
set_option maxRecDepth 100000 in
theorem laws_lqFlash.calls (k : Nat) (A0 : Option Addr) (c0 : Nat) (l0 : List (S36)) (A1 : Option Addr) (c1 : Nat) (l1 : List (S36)) (r : Bool) (w : World) (hr0 : Kd.C k36 w A0 l0.length l0) (hc0 : l0.length ≤ c0) (hr1 : Kd.C k36 w A1 l1.length l1) (hc1 : l1.length ≤ c1) (h : laws_lqFlash.f k l0 l1 = some r) :
 Calls Try.prog 7 #[.slice A0 l0.length c0, .slice A1 l1.length c1] w fun e w' => e = .returned (.bool r) ∧ Drawn0 w w' := by
 have HR0 := am hr0
 have HC0 := am hc0
 clear hr0 hc0
 have HR1 := am hr1
 have HC1 := am hc1
 clear hr1 hc1
 have H : (if (l0.length : Int) = (l1.length : Int) then (laws_lqFlash.l0 k l0 l1 0) else (some false)) = some r := h
 clear h
 by_cases c3 : (l0.length : Int) = (l1.length : Int)
 rotate_left
 · rw [if_neg c3] at H
   have c3b0 : ((l0.length : Int) == (l1.length : Int)) = false := beq_eq_false_iff_ne.mpr c3
   have c3b1 : ((l0.length : Int) != (l1.length : Int)) = true := bne_iff_ne.mpr c3
   have c3b2 : (l0.length == l1.length) = false := by first | simpa using c3 | (simp at c3 ⊢; omega)
   obtain rfl := Option.some.inj H
   go_enter Try.func7, Try.ntmps7
   go_wp2
   repeat (go_quiet (fail); try go_wp2)
   go_ret
   exact ⟨by first | rfl | (simp; done) | (simp [*]; done), by repeat (first | exact Drawn0.refl _ | apply Drawn0.step)⟩
 rw [if_pos c3] at H
 have c3b0 : ((l0.length : Int) == (l1.length : Int)) = true := beq_iff_eq.mpr c3
 have c3b1 : ((l0.length : Int) != (l1.length : Int)) = false := bne_eq_false_iff_eq.mpr c3
 have c3b2 : (l0.length == l1.length) = true := by first | simpa using c3 | (simp at c3 ⊢; omega)
 clear c3
 have H' := am H
 clear H
 go_enter Try.func7, Try.ntmps7
 go_wp2
 repeat (go_quiet (fail); try go_wp2)
 go_loopg [5] k (fun kq v5 w' => ∃ (x5_1 : Int), v5 = .int .i64 x5_1 ∧ Aside0 (laws_lqFlash.l0 kq l0 l1 x5_1 = some r) ∧ Aside0 (kq ≤ k) ∧ Drawn0 w w')
 case atStart => exact ⟨(0), rf, H', ⟨Nat.le_refl _⟩, by repeat (first | exact Drawn0.refl _ | apply Drawn0.step)⟩
 case round =>
  clear H'
  obtain ⟨x5_1, rfl, HA, HK1, ⟨m1, rfl⟩⟩ := hrel
  cases gk with
  | zero => exact absurd HA.out (by simp [laws_lqFlash.l0])
  | succ k1 =>
   have H := HA.out
   clear HA
   simp only [laws_lqFlash.l0] at H
   by_cases c4 : x5_1 < (l0.length : Int)
   rotate_left
   · rw [if_neg c4] at H
     have c4b0 := decide_eq_false c4
     clear c4
     obtain rfl := Option.some.inj H
     go_wp2
     repeat (go_quiet (fail); try go_wp2)
     go_ret
     exact ⟨by first | rfl | (simp; done) | (simp [*]; done), by repeat (first | exact Drawn0.refl _ | apply Drawn0.step)⟩
   rw [if_pos c4] at H
   have c4b0 := decide_eq_true c4
   clear c4
   obtain ⟨c5b0, H⟩ := ifd H
   obtain ⟨c6b0, H⟩ := ifd H
   by_cases c7 : ((rd_T36 l0 x5_1).f1) = ((rd_T36 l1 x5_1).f1)
   rotate_left
   · rw [if_neg c7] at H
     have c7b0 : (((rd_T36 l0 x5_1).f1) == ((rd_T36 l1 x5_1).f1)) = false := beq_eq_false_iff_ne.mpr c7
     have c7b1 : (((rd_T36 l0 x5_1).f1) != ((rd_T36 l1 x5_1).f1)) = true := bne_iff_ne.mpr c7
     obtain rfl := Option.some.inj H
     have p438 : 0 ≤ (x5_1 : Int) := ofb
     have q438 : x5_1 < (l0.length : Int) := ofb
     obtain ⟨ad438, A438_0, c438_0, e438, hx438_0, hx438_1, hl438_0, hi438_0⟩ := at_T36 HR0.out x5_1 p438 q438
     cases e438
     have HR438_0 := am hi438_0
     have HC438_0 := am hl438_0
     clear hi438_0 hl438_0
     replace p438 := eq_true p438
     replace q438 := eq_true q438
     have p439 : 0 ≤ (x5_1 : Int) := ofb
     have q439 : x5_1 < (l1.length : Int) := ofb
     obtain ⟨ad439, A439_0, c439_0, e439, hx439_0, hx439_1, hl439_0, hi439_0⟩ := at_T36 HR1.out x5_1 p439 q439
     cases e439
     have HR439_0 := am hi439_0
     have HC439_0 := am hl439_0
     clear hi439_0 hl439_0
     replace p439 := eq_true p439
     replace q439 := eq_true q439
     go_wp2
     repeat (go_quiet (fail); try go_wp2)
     go_ret
     exact ⟨by first | rfl | (simp; done) | (simp [*]; done), by repeat (first | exact Drawn0.refl _ | apply Drawn0.step)⟩
   rw [if_pos c7] at H
   have c7b0 : (((rd_T36 l0 x5_1).f1) == ((rd_T36 l1 x5_1).f1)) = true := beq_iff_eq.mpr c7
   have c7b1 : (((rd_T36 l0 x5_1).f1) != ((rd_T36 l1 x5_1).f1)) = false := bne_eq_false_iff_eq.mpr c7
   clear c7
   replace H := Option.bind_eq_some_iff.mp H
   obtain ⟨t442, A80, H⟩ := H
   have A8 := am A80
   clear A80
   by_cases c9 : t442 = true
   rotate_left
   · replace c9 := Bool.eq_false_iff.mpr c9
     subst c9
     rw [if_neg (show ¬ (false = true) by decide)] at H
     obtain rfl := Option.some.inj H
     have p438 : 0 ≤ (x5_1 : Int) := ofb
     have q438 : x5_1 < (l0.length : Int) := ofb
     obtain ⟨ad438, A438_0, c438_0, e438, hx438_0, hx438_1, hl438_0, hi438_0⟩ := at_T36 HR0.out x5_1 p438 q438
     cases e438
     have HR438_0 := am hi438_0
     have HC438_0 := am hl438_0
     clear hi438_0 hl438_0
     replace p438 := eq_true p438
     replace q438 := eq_true q438
     have p439 : 0 ≤ (x5_1 : Int) := ofb
     have q439 : x5_1 < (l1.length : Int) := ofb
     obtain ⟨ad439, A439_0, c439_0, e439, hx439_0, hx439_1, hl439_0, hi439_0⟩ := at_T36 HR1.out x5_1 p439 q439
     cases e439
     have HR439_0 := am hi439_0
     have HC439_0 := am hl439_0
     clear hi439_0 hl439_0
     replace p439 := eq_true p439
     replace q439 := eq_true q439
     have p440 : 0 ≤ (x5_1 : Int) := ofb
     have q440 : x5_1 < (l0.length : Int) := ofb
     obtain ⟨ad440, A440_0, c440_0, e440, hx440_0, hx440_1, hl440_0, hi440_0⟩ := at_T36 HR0.out x5_1 p440 q440
     obtain rfl : ad438 = ad440 := (by injection e440)
     have HR440_0 := am hi440_0
     have HC440_0 := am hl440_0
     clear hi440_0 hl440_0
     replace p440 := eq_true p440
     replace q440 := eq_true q440
     have ea_ := Option.some.inj (hx438_0.symm.trans hx440_0)
     injection ea_ with ea_ en_ ec_
     subst ea_
     subst ec_
     clear en_
     have p441 : 0 ≤ (x5_1 : Int) := ofb
     have q441 : x5_1 < (l1.length : Int) := ofb
     obtain ⟨ad441, A441_0, c441_0, e441, hx441_0, hx441_1, hl441_0, hi441_0⟩ := at_T36 HR1.out x5_1 p441 q441
     obtain rfl : ad439 = ad441 := (by injection e441)
     have HR441_0 := am hi441_0
     have HC441_0 := am hl441_0
     clear hi441_0 hl441_0
     replace p441 := eq_true p441
     replace q441 := eq_true q441
     have ea_ := Option.some.inj (hx439_0.symm.trans hx441_0)
     injection ea_ with ea_ en_ ec_
     subst ea_
     subst ec_
     clear en_
     go_wp2_with (first | (go_at_call 10; (with_reducible refine (laws_lqPages.calls k1 _ _ ((rd_T36 l0 x5_1).f0) _ _ ((rd_T36 l1 x5_1).f0) false _ ?side1 ?side2 ?side3 ?side4 A8.out).mono ?_); (case side1 => exact pc HR440_0.out); (case side2 => exact HC440_0.out); (case side3 => exact pc HR441_0.out); (case side4 => exact HC441_0.out); rintro e w' ⟨rfl, ⟨nd, rfl⟩⟩; (try first | exact ⟨rfl, _, World.drewN_drewN _ _ _⟩ | exact ⟨rfl, _, Eq.trans (World.drewN_drewN _ _ _) (congrArg (World.drewN _) (Nat.add_assoc _ _ _))⟩)))
     repeat (go_quiet (first | (go_at_call 10; (with_reducible refine (laws_lqPages.calls k1 _ _ ((rd_T36 l0 x5_1).f0) _ _ ((rd_T36 l1 x5_1).f0) false _ ?side1 ?side2 ?side3 ?side4 A8.out).mono ?_); (case side1 => exact pc HR440_0.out); (case side2 => exact HC440_0.out); (case side3 => exact pc HR441_0.out); (case side4 => exact HC441_0.out); rintro e w' ⟨rfl, ⟨nd, rfl⟩⟩; (try first | exact ⟨rfl, _, World.drewN_drewN _ _ _⟩ | exact ⟨rfl, _, Eq.trans (World.drewN_drewN _ _ _) (congrArg (World.drewN _) (Nat.add_assoc _ _ _))⟩))); try go_wp2_with (first | (go_at_call 10; (with_reducible refine (laws_lqPages.calls k1 _ _ ((rd_T36 l0 x5_1).f0) _ _ ((rd_T36 l1 x5_1).f0) false _ ?side1 ?side2 ?side3 ?side4 A8.out).mono ?_); (case side1 => exact pc HR440_0.out); (case side2 => exact HC440_0.out); (case side3 => exact pc HR441_0.out); (case side4 => exact HC441_0.out); rintro e w' ⟨rfl, ⟨nd, rfl⟩⟩; (try first | exact ⟨rfl, _, World.drewN_drewN _ _ _⟩ | exact ⟨rfl, _, Eq.trans (World.drewN_drewN _ _ _) (congrArg (World.drewN _) (Nat.add_assoc _ _ _))⟩))))
     go_ret
     exact ⟨by first | rfl | (simp; done) | (simp [*]; done), by repeat (first | exact Drawn0.refl _ | apply Drawn0.step)⟩
   subst c9
   rw [if_pos rfl] at H
   have H' := am H
   clear H
   have p438 : 0 ≤ (x5_1 : Int) := ofb
   have q438 : x5_1 < (l0.length : Int) := ofb
   obtain ⟨ad438, A438_0, c438_0, e438, hx438_0, hx438_1, hl438_0, hi438_0⟩ := at_T36 HR0.out x5_1 p438 q438
   cases e438
   have HR438_0 := am hi438_0
   have HC438_0 := am hl438_0
   clear hi438_0 hl438_0
   replace p438 := eq_true p438
   replace q438 := eq_true q438
   have p439 : 0 ≤ (x5_1 : Int) := ofb
   have q439 : x5_1 < (l1.length : Int) := ofb
   obtain ⟨ad439, A439_0, c439_0, e439, hx439_0, hx439_1, hl439_0, hi439_0⟩ := at_T36 HR1.out x5_1 p439 q439
   cases e439
   have HR439_0 := am hi439_0
   have HC439_0 := am hl439_0
   clear hi439_0 hl439_0
   replace p439 := eq_true p439
   replace q439 := eq_true q439
   have p440 : 0 ≤ (x5_1 : Int) := ofb
   have q440 : x5_1 < (l0.length : Int) := ofb
   obtain ⟨ad440, A440_0, c440_0, e440, hx440_0, hx440_1, hl440_0, hi440_0⟩ := at_T36 HR0.out x5_1 p440 q440
   obtain rfl : ad438 = ad440 := (by injection e440)
   have HR440_0 := am hi440_0
   have HC440_0 := am hl440_0
   clear hi440_0 hl440_0
   replace p440 := eq_true p440
   replace q440 := eq_true q440
   have ea_ := Option.some.inj (hx438_0.symm.trans hx440_0)
   injection ea_ with ea_ en_ ec_
   subst ea_
   subst ec_
   clear en_
   have p441 : 0 ≤ (x5_1 : Int) := ofb
   have q441 : x5_1 < (l1.length : Int) := ofb
   obtain ⟨ad441, A441_0, c441_0, e441, hx441_0, hx441_1, hl441_0, hi441_0⟩ := at_T36 HR1.out x5_1 p441 q441
   obtain rfl : ad439 = ad441 := (by injection e441)
   have HR441_0 := am hi441_0
   have HC441_0 := am hl441_0
   clear hi441_0 hl441_0
   replace p441 := eq_true p441
   replace q441 := eq_true q441
   have ea_ := Option.some.inj (hx439_0.symm.trans hx441_0)
   injection ea_ with ea_ en_ ec_
   subst ea_
   subst ec_
   clear en_
   go_wp2_with (first | (go_at_call 10; (with_reducible refine (laws_lqPages.calls k1 _ _ ((rd_T36 l0 x5_1).f0) _ _ ((rd_T36 l1 x5_1).f0) true _ ?side1 ?side2 ?side3 ?side4 A8.out).mono ?_); (case side1 => exact pc HR440_0.out); (case side2 => exact HC440_0.out); (case side3 => exact pc HR441_0.out); (case side4 => exact HC441_0.out); rintro e w' ⟨rfl, ⟨nd, rfl⟩⟩; (try first | exact ⟨rfl, _, World.drewN_drewN _ _ _⟩ | exact ⟨rfl, _, Eq.trans (World.drewN_drewN _ _ _) (congrArg (World.drewN _) (Nat.add_assoc _ _ _))⟩)))
   repeat (go_quiet (first | (go_at_call 10; (with_reducible refine (laws_lqPages.calls k1 _ _ ((rd_T36 l0 x5_1).f0) _ _ ((rd_T36 l1 x5_1).f0) true _ ?side1 ?side2 ?side3 ?side4 A8.out).mono ?_); (case side1 => exact pc HR440_0.out); (case side2 => exact HC440_0.out); (case side3 => exact pc HR441_0.out); (case side4 => exact HC441_0.out); rintro e w' ⟨rfl, ⟨nd, rfl⟩⟩; (try first | exact ⟨rfl, _, World.drewN_drewN _ _ _⟩ | exact ⟨rfl, _, Eq.trans (World.drewN_drewN _ _ _) (congrArg (World.drewN _) (Nat.add_assoc _ _ _))⟩))); try go_wp2_with (first | (go_at_call 10; (with_reducible refine (laws_lqPages.calls k1 _ _ ((rd_T36 l0 x5_1).f0) _ _ ((rd_T36 l1 x5_1).f0) true _ ?side1 ?side2 ?side3 ?side4 A8.out).mono ?_); (case side1 => exact pc HR440_0.out); (case side2 => exact HC440_0.out); (case side3 => exact pc HR441_0.out); (case side4 => exact HC441_0.out); rintro e w' ⟨rfl, ⟨nd, rfl⟩⟩; (try first | exact ⟨rfl, _, World.drewN_drewN _ _ _⟩ | exact ⟨rfl, _, Eq.trans (World.drewN_drewN _ _ _) (congrArg (World.drewN _) (Nat.add_assoc _ _ _))⟩))))
   go_roundg k1
   case measure => have := HK1.out; omega
   case rel => exact ⟨(wrap64 (x5_1 + 1)), rf, H', ⟨by have := HK1.out; omega⟩, by repeat (first | exact Drawn0.refl _ | apply Drawn0.step)⟩
end Go.Proofs.Ythmgdljblidgjaa.Rw
namespace Go.Proofs.Ythmgdljblidgjaa.Rw
open Go.RowKit Go.Proofs.YthmgdljblidgjaaW.PrintWords Go.Proofs.YthmgdljblidgjaaW.PrintLast Go.Proofs.YthmgdljblidgjaaW.PrintMore
attribute [local go_sem] max2_int min2_int max_two min_two max_three min_three max_four min_four
set_option linter.unusedVariables false
set_option linter.unusedSimpArgs false
def impl_FlashClean.f (k : Nat) (l0 : List (S36)) (a1 : Int) : Option (Int) := (impl_FlashOk.f l0).bind fun t443 => (if t443 = true then ((impl_blockOk.f a1).bind fun t444 => (if t444 = true then (if 0 ≤ a1 then (if a1 < (l0.length : Int) then ((impl_freePages.f k ((rd_T36 l0 a1).f0) ((rd_T36 l0 a1).f1)).bind fun t446 => (some t446)) else (none)) else (none)) else (some (-1)))) else (some (-1)))
theorem impl_FlashClean.mono : ∀ a0 a1 k, LeO (impl_FlashClean.f k a0 a1) (impl_FlashClean.f (k + 1) a0 a1) := by
 intro a0 a1 k
 unfold impl_FlashClean.f
 with_reducible repeat' first | exact impl_freePages.mono _ _ _ | exact LeO.refl _ | exact LeO.none _ | refine LeO.ite ?_ ?_ | refine LeO.bind ?_ (fun _ => ?_)
set_option maxHeartbeats 8000000 in
set_option maxRecDepth 100000 in
theorem impl_FlashClean.calls (k : Nat) (A0 : Option Addr) (c0 : Nat) (l0 : List (S36)) (a1 : Int) (r : Int) (w : World) (hr0 : Kd.C k36 w A0 l0.length l0) (hc0 : l0.length ≤ c0) (h : impl_FlashClean.f k l0 a1 = some r) :
 Calls Try.prog 8 #[.slice A0 l0.length c0, .int .i64 a1] w fun e w' => e = .returned (.int .i64 r) ∧ Below w.heap.size w w' := by
 have hu36 := Try.underlying36
 have HR0 := am hr0
 have HC0 := am hc0
 clear hr0 hc0
 have HB := am (Below.refl w.heap.size w)
 have H : ((impl_FlashOk.f l0).bind fun t443 => (if t443 = true then ((impl_blockOk.f a1).bind fun t444 => (if t444 = true then (if 0 ≤ a1 then (if a1 < (l0.length : Int) then ((impl_freePages.f k ((rd_T36 l0 a1).f0) ((rd_T36 l0 a1).f1)).bind fun t446 => (some t446)) else (none)) else (none)) else (some (-1)))) else (some (-1)))) = some r := h
 clear h
 replace H := Option.bind_eq_some_iff.mp H
 obtain ⟨t443, A30, H⟩ := H
 have A3 := am A30
 clear A30
 by_cases c4 : t443 = true
 rotate_left
 · replace c4 := Bool.eq_false_iff.mpr c4
   subst c4
   rw [if_neg (show ¬ (false = true) by decide)] at H
   obtain rfl := Option.some.inj H
   go_enter Try.func8, Try.ntmps8
   go_wp2_with (first | (refine gl 6 Try.func11 #[.slice A0 l0.length c0] rfl ?_; (with_reducible refine (impl_FlashOk.calls _ _ l0 false _ ?side1 ?side2 A3.out).mono ?_); (case side1 => exact pc HR0.out); (case side2 => exact HC0.out); rintro e w13 ⟨rfl, hb⟩; refine ⟨_, rfl, ?_⟩; replace HB := am (below_step (ph HB.out) hb); clear hb))
   go_ret
   exact (rq (ph HB.out))
 subst c4
 rw [if_pos rfl] at H
 replace H := Option.bind_eq_some_iff.mp H
 obtain ⟨t444, A50, H⟩ := H
 have A5 := am A50
 clear A50
 by_cases c6 : t444 = true
 rotate_left
 · replace c6 := Bool.eq_false_iff.mpr c6
   subst c6
   rw [if_neg (show ¬ (false = true) by decide)] at H
   obtain rfl := Option.some.inj H
   go_enter Try.func8, Try.ntmps8
   go_wp2_with (first | (refine gl 6 Try.func11 #[.slice A0 l0.length c0] rfl ?_; (with_reducible refine (impl_FlashOk.calls _ _ l0 true _ ?side1 ?side2 A3.out).mono ?_); (case side1 => exact pc HR0.out); (case side2 => exact HC0.out); rintro e w12 ⟨rfl, hb⟩; refine ⟨_, rfl, ?_⟩; replace HB := am (below_step (ph HB.out) hb); clear hb) | (go_at_call 23; (with_reducible refine (impl_blockOk.calls a1 false _ A5.out).mono ?_); rintro e w' ⟨rfl, ⟨nd, rfl⟩⟩))
   go_ret
   exact (rq (ph HB.out))
 subst c6
 rw [if_pos rfl] at H
 obtain ⟨c7b0, H⟩ := ifd H
 obtain ⟨c8b0, H⟩ := ifd H
 replace H := Option.bind_eq_some_iff.mp H
 obtain ⟨t446, A90, H⟩ := H
 have A9 := am A90
 clear A90
 obtain rfl := Option.some.inj H
 go_enter Try.func8, Try.ntmps8
 go_wp2_with (first | (refine gl 6 Try.func11 #[.slice A0 l0.length c0] rfl ?_; (with_reducible refine (impl_FlashOk.calls _ _ l0 true _ ?side1 ?side2 A3.out).mono ?_); (case side1 => exact pc HR0.out); (case side2 => exact HC0.out); rintro e w10 ⟨rfl, hb⟩; refine ⟨_, rfl, ?_⟩; replace HB := am (below_step (ph HB.out) hb); clear hb) | (go_at_call 23; (with_reducible refine (impl_blockOk.calls a1 true _ A5.out).mono ?_); rintro e w' ⟨rfl, ⟨nd, rfl⟩⟩; have p445 : 0 ≤ (a1 : Int) := ofb; have q445 : a1 < (l0.length : Int) := ofb; obtain ⟨ad445, A445_0, c445_0, e445, hx445_0, hx445_1, hl445_0, hi445_0⟩ := at_T36 HR0.out a1 p445 q445; cases e445; replace hx445_0 := up HB.out hx445_0; replace hx445_1 := up HB.out hx445_1; have HR445_0 := am hi445_0; have HC445_0 := am hl445_0; clear hi445_0 hl445_0; replace p445 := eq_true p445; replace q445 := eq_true q445) | (refine gl 17 Try.func26 #[.agg #[.slice A445_0 ((rd_T36 l0 a1).f0).length c445_0, .int .i64 ((rd_T36 l0 a1).f1)]] rfl ?_; (with_reducible refine (impl_freePages.calls k _ _ ((rd_T36 l0 a1).f0) ((rd_T36 l0 a1).f1) t446 _ ?side1 ?side2 A9.out).mono ?_); (case side1 => exact (Kd.C_below HR445_0.out (ph HB.out))); (case side2 => exact HC445_0.out); rintro e w11 ⟨rfl, hb⟩; refine ⟨_, rfl, ?_⟩; replace HB := am (below_step (ph HB.out) hb); clear hb))
 go_ret
 exact (rq (ph HB.out))
end Go.Proofs.Ythmgdljblidgjaa.Rw
