-- printed by wip/pp/pp.py
import Derived.Test.YtcfpddgfhkaboaaRz0
import Derived.Test.YtcfpddgfhkaboaaRz3
namespace Go.Proofs.Ytcfpddgfhkaboaa.Rz
open Go.RowKit Go.Proofs.YtcfpddgfhkaboaaW.PrintWords Go.Proofs.YtcfpddgfhkaboaaW.PrintLast Go.Proofs.YtcfpddgfhkaboaaW.PrintMore
attribute [local go_sem] max2_int min2_int max_two min_two max_three min_three max_four min_four
set_option linter.unusedVariables false
set_option linter.unusedSimpArgs false
mutual
def spec_l3Last.l0 : Nat → List (S60) → Int → Int → Int → Int → Int → Int → Option (Int × Int × Int × Int × Bool)
 | 0, _, _, _, _, _, _, _ => none
 | k + 1, x0, x1, x7, x184000, x184001, x184002, x184003 => if x7 < (x0.length : Int) then (spec_l3Last.l1 k x0 x1 x7 0 x184000 x184001 x184002 x184003) else (some (x184000, x184001, x184002, x184003, decide (x184001 > 0)))
def spec_l3Last.l1 : Nat → List (S60) → Int → Int → Int → Int → Int → Int → Int → Option (Int × Int × Int × Int × Bool)
 | 0, _, _, _, _, _, _, _, _ => none
 | k + 1, x0, x1, x7, x8, x184000, x184001, x184002, x184003 => if 0 ≤ x7 then (if x7 < (x0.length : Int) then (if x8 < (((rd_T60 x0 x7).f0).length : Int) then (if 0 ≤ x8 then (if ((rd_T52 ((rd_T60 x0 x7).f0) x8).f0) = 1 then (if ((rd_T52 ((rd_T60 x0 x7).f0) x8).f1.f2) = x1 then (if ((rd_T52 ((rd_T60 x0 x7).f0) x8).f1.f1) > x184001 then (spec_l3Last.l1 k x0 x1 x7 (wrap64 (x8 + 1)) ((rd_T52 ((rd_T60 x0 x7).f0) x8).f1.f0) ((rd_T52 ((rd_T60 x0 x7).f0) x8).f1.f1) ((rd_T52 ((rd_T60 x0 x7).f0) x8).f1.f2) ((rd_T52 ((rd_T60 x0 x7).f0) x8).f1.f3)) else (spec_l3Last.l1 k x0 x1 x7 (wrap64 (x8 + 1)) x184000 x184001 x184002 x184003)) else (spec_l3Last.l1 k x0 x1 x7 (wrap64 (x8 + 1)) x184000 x184001 x184002 x184003)) else (spec_l3Last.l1 k x0 x1 x7 (wrap64 (x8 + 1)) x184000 x184001 x184002 x184003)) else (none)) else (spec_l3Last.l0 k x0 x1 (wrap64 (x7 + 1)) x184000 x184001 x184002 x184003)) else (none)) else (none)
end
def spec_l3Last.f (k : Nat) (l0 : List (S60)) (a1 : Int) : Option (Int × Int × Int × Int × Bool) := spec_l3Last.l0 k l0 a1 0 0 0 0 0
theorem spec_l3Last.mono_l : ∀ k, (∀ y0 y1 y2 y3 y4 y5 y6, LeO (spec_l3Last.l0 k y0 y1 y2 y3 y4 y5 y6) (spec_l3Last.l0 (k + 1) y0 y1 y2 y3 y4 y5 y6)) ∧ (∀ y0 y1 y2 y3 y4 y5 y6 y7, LeO (spec_l3Last.l1 k y0 y1 y2 y3 y4 y5 y6 y7) (spec_l3Last.l1 (k + 1) y0 y1 y2 y3 y4 y5 y6 y7))
 | 0 => ⟨fun _ _ _ _ _ _ _ r h => by simp [spec_l3Last.l0] at h, fun _ _ _ _ _ _ _ _ r h => by simp [spec_l3Last.l1] at h⟩
 | k + 1 => by
  obtain ⟨ih0, ih1⟩ := spec_l3Last.mono_l k
  refine ⟨?_, ?_⟩
  · intro y0 y1 y2 y3 y4 y5 y6
    unfold spec_l3Last.l0
    with_reducible repeat' first | exact ih0 _ _ _ _ _ _ _ | exact ih1 _ _ _ _ _ _ _ _ | exact LeO.refl _ | exact LeO.none _ | refine LeO.ite ?_ ?_ | refine LeO.bind ?_ (fun _ => ?_)
  · intro y0 y1 y2 y3 y4 y5 y6 y7
    unfold spec_l3Last.l1
    with_reducible repeat' first | exact ih0 _ _ _ _ _ _ _ | exact ih1 _ _ _ _ _ _ _ _ | exact LeO.refl _ | exact LeO.none _ | refine LeO.ite ?_ ?_ | refine LeO.bind ?_ (fun _ => ?_)
theorem spec_l3Last.mono : ∀ a0 a1 k, LeO (spec_l3Last.f k a0 a1) (spec_l3Last.f (k + 1) a0 a1) := by
 intro a0 a1 k
 obtain ⟨ih0, ih1⟩ := spec_l3Last.mono_l k
 unfold spec_l3Last.f
 with_reducible repeat' first | exact ih0 _ _ _ _ _ _ _ | exact ih1 _ _ _ _ _ _ _ _ | exact LeO.refl _ | exact LeO.none _ | refine LeO.ite ?_ ?_ | refine LeO.bind ?_ (fun _ => ?_)
set_option maxHeartbeats 8000000 in
set_option maxRecDepth 100000 in
theorem spec_l3Last.calls (k : Nat) (A0 : Option Addr) (c0 : Nat) (l0 : List (S60)) (a1 : Int) (r1 : Int) (r2 : Int) (r3 : Int) (r4 : Int) (r5 : Bool) (w : World) (hr0 : Kd.C k60 w A0 l0.length l0) (hc0 : l0.length ≤ c0) (h : spec_l3Last.f k l0 a1 = some (r1, r2, r3, r4, r5)) :
 Calls Try.prog 17 #[.slice A0 l0.length c0, .int .i64 a1] w fun e w' => e = .returned (.tuple #[.agg #[.int .i64 r1, .int .i64 r2, .int .i64 r3, .int .i64 r4], .bool r5]) ∧ Below w.heap.size w w' := by
 have hu30 := Try.underlying30
 have hu52 := Try.underlying52
 have HR0 := am hr0
 have HC0 := am hc0
 clear hr0 hc0
 have HB := am (Below.refl w.heap.size w)
 have H : (spec_l3Last.l0 k l0 a1 0 0 0 0 0) = some (r1, r2, r3, r4, r5) := h
 clear h
 have H' := am H
 clear H
 go_enter Try.func17, Try.ntmps17
 go_wp2_with (first | (refine bx 4 #[.int .i64 0, .int .i64 0, .int .i64 0, .int .i64 0] 30 rfl ?_; intro gb182 hg w3 hbox hb; have BK182 := am (hbox); have GW182 := am (ge hg (ph HB.out)); have GE182 := GW182; replace HB := am (below_step (ph HB.out) hb); clear hb hbox hg) | (refine bx 6 #[.int .i64 0, .int .i64 0, .int .i64 0, .int .i64 0] 30 rfl ?_; intro gb183 hg w4 hbox hb; have BK183 := am (hbox); have GW183 := am (ge hg (bg1 HB.out GE182.out)); have GE183 := GW183; replace HB := am (below_step (bg1 HB.out GE182.out) hb); have NB182_183 := am (nb hg (pb BK182.out)); have NB183_182 := am (Ne.symm NB182_183.out); replace BK182 := am (blk_below (pb BK182.out) hb); clear hb hbox hg; have hnb5 := NB183_182.out; have hnc5 := NB182_183.out; obtain ⟨hcz6_0, hcz6_1, hcz6_2, hcz6_3⟩ := b4 BK183.out; obtain ⟨hfz6_0, hfz6_1, hfz6_2, hfz6_3⟩ := f4 BK183.out))
 go_loopg [7] k (fun kq v7 w' => ∃ (x7_1 : Int) (x184000_1 : Int) (x184001_1 : Int) (x184002_1 : Int) (x184003_1 : Int), v7 = .int .i64 x7_1 ∧ Aside0 (spec_l3Last.l0 kq l0 a1 x7_1 x184000_1 x184001_1 x184002_1 x184003_1 = some (r1, r2, r3, r4, r5)) ∧ Aside0 (kq ≤ k) ∧ Aside0 (w'.heap[gb182]? = some (.cells #[.int .i64 0, .int .i64 0, .int .i64 0, .int .i64 0] 30 (0, 0))) ∧ Aside0 (w'.heap[gb183]? = some (.cells #[.int .i64 x184000_1, .int .i64 x184001_1, .int .i64 x184002_1, .int .i64 x184003_1] 30 (0, 0))) ∧ Aside0 (Below w.heap.size w w'))
 case atStart => exact ⟨(0), (0), (0), (0), (0), rf, H', ⟨Nat.le_refl _⟩, ⟨bf4 (pb BK182.out) NB182_183.out⟩, ⟨bp4 (pb BK183.out)⟩, ⟨bg2 HB.out GE182.out GE183.out⟩⟩
 case round =>
  clear H'
  obtain ⟨x7_1, x184000_1, x184001_1, x184002_1, x184003_1, rfl, HA, HK1, BK182, BK183, HB⟩ := hrel
  cases gk with
  | zero => exact absurd HA.out (by simp [spec_l3Last.l0])
  | succ k1 =>
   have H := HA.out
   clear HA
   simp only [spec_l3Last.l0] at H
   by_cases c7 : x7_1 < (l0.length : Int)
   rotate_left
   · rw [if_neg c7] at H
     have c7b0 := decide_eq_false c7
     clear c7
     simp only [Option.some.injEq, Prod.mk.injEq] at H
     obtain ⟨rfl, rfl, rfl, rfl, rfl⟩ := H
     try go_wp2
     replace BK182 := am (blk_drew BK182.out)
     replace BK183 := am (blk_drew BK183.out)
     replace HB := am (below_drew1 HB.out)
     refine start_ (n := 6) (S := fun w' => w'.cell? ⟨gb183, 0, none⟩ = some (.int .i64 x184000_1) ∧ w'.cell? ⟨gb183, 1, none⟩ = some (.int .i64 x184001_1) ∧ w'.cell? ⟨gb183, 2, none⟩ = some (.int .i64 x184002_1) ∧ w'.cell? ⟨gb183, 3, none⟩ = some (.int .i64 x184003_1)) (ds := []) (bt 6 0) (by kernel_rfl) rfl rfl ⟨(blk_cell BK183.out 0).trans rfl, (blk_cell BK183.out 1).trans rfl, (blk_cell BK183.out 2).trans rfl, (blk_cell BK183.out 3).trans rfl⟩ (fun hHeld => ?_)
     generalize wr.drew = w35 at BK182 BK183 HB hHeld ⊢
     refine pi_ 1 56 (bt 6 2) rfl rfl (fun _ _ _ h => h) ?_
     refine pm_ 0 55 (bt 6 3) rfl rfl (by kernel_rfl) (fun _ _ _ h => h) hHeld ?_
     refine pm_ 2 57 (bt 6 7) rfl rfl (by kernel_rfl) (fun _ _ _ h => h) hHeld ?_
     refine pi_ 3 58 (bt 6 15) rfl rfl (fun _ _ _ h => h) ?_
     refine one_ (i := 4) (N := none) (bt 6 31) rfl rfl (by kernel_rfl) (by decide) (fun K hK => ?_)
     have hs36 : w35.cell? ⟨gb182, 0, none⟩ = some (.int .i64 0) := (blk_cell BK182.out 0).trans rfl
     have hfs36 := blk_frozen BK182.out 0
     have hns36_1 := NB183_182.out
     have hms36_1 := NB182_183.out
     have hs37 : w35.cell? ⟨gb182, 1, none⟩ = some (.int .i64 0) := (blk_cell BK182.out 1).trans rfl
     have hfs37 := blk_frozen BK182.out 1
     have hns37_1 := NB183_182.out
     have hms37_1 := NB182_183.out
     have hs38 : w35.cell? ⟨gb182, 2, none⟩ = some (.int .i64 0) := (blk_cell BK182.out 2).trans rfl
     have hfs38 := blk_frozen BK182.out 2
     have hns38_1 := NB183_182.out
     have hms38_1 := NB182_183.out
     have hs39 : w35.cell? ⟨gb182, 3, none⟩ = some (.int .i64 0) := (blk_cell BK182.out 3).trans rfl
     have hfs39 := blk_frozen BK182.out 3
     have hns39_1 := NB183_182.out
     have hms39_1 := NB182_183.out
     refine qs rfl ?_
     refine hK.out _ _ ⟨((cell_far (p := ⟨gb182, _, none⟩) NB183_182.out _).trans (((cell_far (p := ⟨gb182, _, none⟩) NB183_182.out _).trans (((cell_far (p := ⟨gb182, _, none⟩) NB183_182.out _).trans (((cell_far (p := ⟨gb182, _, none⟩) NB183_182.out _).trans (hHeld.1)))))))), ((cell_far (p := ⟨gb182, _, none⟩) NB183_182.out _).trans (((cell_far (p := ⟨gb182, _, none⟩) NB183_182.out _).trans (((cell_far (p := ⟨gb182, _, none⟩) NB183_182.out _).trans (((cell_far (p := ⟨gb182, _, none⟩) NB183_182.out _).trans (hHeld.2.1)))))))), ((cell_far (p := ⟨gb182, _, none⟩) NB183_182.out _).trans (((cell_far (p := ⟨gb182, _, none⟩) NB183_182.out _).trans (((cell_far (p := ⟨gb182, _, none⟩) NB183_182.out _).trans (((cell_far (p := ⟨gb182, _, none⟩) NB183_182.out _).trans (hHeld.2.2.1)))))))), ((cell_far (p := ⟨gb182, _, none⟩) NB183_182.out _).trans (((cell_far (p := ⟨gb182, _, none⟩) NB183_182.out _).trans (((cell_far (p := ⟨gb182, _, none⟩) NB183_182.out _).trans (((cell_far (p := ⟨gb182, _, none⟩) NB183_182.out _).trans (hHeld.2.2.2))))))))⟩ (fun hHeld => ?_)
     clear hK K
     refine pi_ 5 5 (bt 6 63) rfl rfl (fun _ _ _ h => h) ?_
     refine done_ (by kernel_rfl) ?_
     try go_wp2
     refine bodyPost_ret (results_ct rfl _ _ gb182 30 #[.int .i64 x184000_1, .int .i64 x184001_1, .int .i64 x184002_1, .int .i64 x184003_1] (0, 0) _ rfl (bp4 (pb BK182.out)) Try.underlying30 rfl (by kernel_rfl)) rfl ?_
     exact (rq (bg2 HB.out GE182.out GE183.out))
   rw [if_pos c7] at H
   have c7b0 := decide_eq_true c7
   clear c7
   have H' := am H
   clear H
   go_wp2
   go_loopg [8] k1 (fun kq v8 w' => ∃ (x8_2 : Int) (x184000_2 : Int) (x184001_2 : Int) (x184002_2 : Int) (x184003_2 : Int), v8 = .int .i64 x8_2 ∧ Aside0 (spec_l3Last.l1 kq l0 a1 x7_1 x8_2 x184000_2 x184001_2 x184002_2 x184003_2 = some (r1, r2, r3, r4, r5)) ∧ Aside0 (kq ≤ k1) ∧ Aside0 (w'.heap[gb182]? = some (.cells #[.int .i64 0, .int .i64 0, .int .i64 0, .int .i64 0] 30 (0, 0))) ∧ Aside0 (w'.heap[gb183]? = some (.cells #[.int .i64 x184000_2, .int .i64 x184001_2, .int .i64 x184002_2, .int .i64 x184003_2] 30 (0, 0))) ∧ Aside0 (Below w.heap.size w w'))
   case atStart => exact ⟨(0), (x184000_1), (x184001_1), (x184002_1), (x184003_1), rf, H', ⟨Nat.le_refl _⟩, ⟨pb BK182.out⟩, ⟨pb BK183.out⟩, ⟨bg2 HB.out GE182.out GE183.out⟩⟩
   case round =>
    clear H'
    obtain ⟨x8_2, x184000_2, x184001_2, x184002_2, x184003_2, rfl, HA, HK2, BK182, BK183, HB⟩ := hrel
    cases gk with
    | zero => exact absurd HA.out (by simp [spec_l3Last.l1])
    | succ k2 =>
     have H := HA.out
     clear HA
     simp only [spec_l3Last.l1] at H
     obtain ⟨c8b0, H⟩ := ifd H
     obtain ⟨c9b0, H⟩ := ifd H
     by_cases c10 : x8_2 < (((rd_T60 l0 x7_1).f0).length : Int)
     rotate_left
     · rw [if_neg c10] at H
       have c10b0 := decide_eq_false c10
       clear c10
       have H' := am H
       clear H
       have p184 : 0 ≤ (x7_1 : Int) := ofb
       have q184 : x7_1 < (l0.length : Int) := ofb
       obtain ⟨ad184, A184_0, c184_0, e184, hx184_0, hx184_1, hl184_0, hi184_0⟩ := at_T60 HR0.out x7_1 p184 q184
       cases e184
       replace hx184_0 := up HB.out hx184_0
       replace hx184_1 := up HB.out hx184_1
       have HR184_0 := am hi184_0
       have HC184_0 := am hl184_0
       clear hi184_0 hl184_0
       replace p184 := eq_true p184
       replace q184 := eq_true q184
       go_wp2
       go_roundg k2
       case measure => have := HK1.out; have := HK2.out; omega
       case rel => exact ⟨(wrap64 (x7_1 + 1)), (x184000_2), (x184001_2), (x184002_2), (x184003_2), rf, H', ⟨by have := HK1.out; have := HK2.out; omega⟩, ⟨pb BK182.out⟩, ⟨pb BK183.out⟩, ⟨bg2 HB.out GE182.out GE183.out⟩⟩
     rw [if_pos c10] at H
     have c10b0 := decide_eq_true c10
     clear c10
     obtain ⟨c11b0, H⟩ := ifd H
     by_cases c12 : ((rd_T52 ((rd_T60 l0 x7_1).f0) x8_2).f0) = 1
     rotate_left
     · rw [if_neg c12] at H
       have c12b0 : (((rd_T52 ((rd_T60 l0 x7_1).f0) x8_2).f0) == 1) = false := beq_eq_false_iff_ne.mpr c12
       have c12b1 : (((rd_T52 ((rd_T60 l0 x7_1).f0) x8_2).f0) != 1) = true := bne_iff_ne.mpr c12
       have H' := am H
       clear H
       have p184 : 0 ≤ (x7_1 : Int) := ofb
       have q184 : x7_1 < (l0.length : Int) := ofb
       obtain ⟨ad184, A184_0, c184_0, e184, hx184_0, hx184_1, hl184_0, hi184_0⟩ := at_T60 HR0.out x7_1 p184 q184
       cases e184
       replace hx184_0 := up HB.out hx184_0
       replace hx184_1 := up HB.out hx184_1
       have HR184_0 := am hi184_0
       have HC184_0 := am hl184_0
       clear hi184_0 hl184_0
       replace p184 := eq_true p184
       replace q184 := eq_true q184
       have p185 : 0 ≤ (x7_1 : Int) := ofb
       have q185 : x7_1 < (l0.length : Int) := ofb
       obtain ⟨ad185, A185_0, c185_0, e185, hx185_0, hx185_1, hl185_0, hi185_0⟩ := at_T60 HR0.out x7_1 p185 q185
       obtain rfl : ad184 = ad185 := (by injection e185)
       replace hx185_0 := up HB.out hx185_0
       replace hx185_1 := up HB.out hx185_1
       have HR185_0 := am hi185_0
       have HC185_0 := am hl185_0
       clear hi185_0 hl185_0
       replace p185 := eq_true p185
       replace q185 := eq_true q185
       have ea_ := Option.some.inj (hx184_0.symm.trans hx185_0)
       injection ea_ with ea_ en_ ec_
       subst ea_
       subst ec_
       clear en_
       have p186 : 0 ≤ (x8_2 : Int) := ofb
       have q186 : x8_2 < (((rd_T60 l0 x7_1).f0).length : Int) := ofb
       obtain ⟨ad186, e186, hx186_0, hx186_1, hx186_2, hx186_3, hx186_4⟩ := at_T52 HR185_0.out x8_2 p186 q186
       cases e186
       replace hx186_0 := up HB.out hx186_0
       replace hx186_1 := up HB.out hx186_1
       replace hx186_2 := up HB.out hx186_2
       replace hx186_3 := up HB.out hx186_3
       replace hx186_4 := up HB.out hx186_4
       replace p186 := eq_true p186
       replace q186 := eq_true q186
       go_wp2_with (first | (refine bx 9 #[.int .i64 0, .int .i64 0, .int .i64 0, .int .i64 0, .int .i64 0] 52 rfl ?_; intro gb187 hg w31 hbox hb; have BK187 := am (hbox); have GW187 := am (ge hg (bg2 HB.out GE182.out GE183.out)); have GE187 := GW187; replace HB := am (below_step (bg2 HB.out GE182.out GE183.out) hb); have NB182_187 := am (nb hg (pb BK182.out)); have NB187_182 := am (Ne.symm NB182_187.out); replace BK182 := am (blk_below (pb BK182.out) hb); have NB183_187 := am (nb hg (pb BK183.out)); have NB187_183 := am (Ne.symm NB183_187.out); replace BK183 := am (blk_below (pb BK183.out) hb); clear hb hbox hg; have hnb32 := NB187_182.out; have hnc32 := NB182_187.out; have hnb33 := NB187_183.out; have hnc33 := NB183_187.out; obtain ⟨hcz34_0, hcz34_1, hcz34_2, hcz34_3, hcz34_4⟩ := b5 BK187.out; obtain ⟨hfz34_0, hfz34_1, hfz34_2, hfz34_3, hfz34_4⟩ := f5 BK187.out))
       go_roundg k2
       case measure => have := HK1.out; have := HK2.out; omega
       case rel => exact ⟨(wrap64 (x8_2 + 1)), (x184000_2), (x184001_2), (x184002_2), (x184003_2), rf, H', ⟨by have := HK1.out; have := HK2.out; omega⟩, ⟨bf5 (pb BK182.out) NB182_187.out⟩, ⟨bf5 (pb BK183.out) NB183_187.out⟩, ⟨bg3 HB.out GE182.out GE183.out GE187.out⟩⟩
     rw [if_pos c12] at H
     have c12b0 : (((rd_T52 ((rd_T60 l0 x7_1).f0) x8_2).f0) == 1) = true := beq_iff_eq.mpr c12
     have c12b1 : (((rd_T52 ((rd_T60 l0 x7_1).f0) x8_2).f0) != 1) = false := bne_eq_false_iff_eq.mpr c12
     clear c12
     by_cases c13 : ((rd_T52 ((rd_T60 l0 x7_1).f0) x8_2).f1.f2) = a1
     rotate_left
     · rw [if_neg c13] at H
       have c13b0 : (((rd_T52 ((rd_T60 l0 x7_1).f0) x8_2).f1.f2) == a1) = false := beq_eq_false_iff_ne.mpr c13
       have c13b1 : (((rd_T52 ((rd_T60 l0 x7_1).f0) x8_2).f1.f2) != a1) = true := bne_iff_ne.mpr c13
       have H' := am H
       clear H
       have p184 : 0 ≤ (x7_1 : Int) := ofb
       have q184 : x7_1 < (l0.length : Int) := ofb
       obtain ⟨ad184, A184_0, c184_0, e184, hx184_0, hx184_1, hl184_0, hi184_0⟩ := at_T60 HR0.out x7_1 p184 q184
       cases e184
       replace hx184_0 := up HB.out hx184_0
       replace hx184_1 := up HB.out hx184_1
       have HR184_0 := am hi184_0
       have HC184_0 := am hl184_0
       clear hi184_0 hl184_0
       replace p184 := eq_true p184
       replace q184 := eq_true q184
       have p185 : 0 ≤ (x7_1 : Int) := ofb
       have q185 : x7_1 < (l0.length : Int) := ofb
       obtain ⟨ad185, A185_0, c185_0, e185, hx185_0, hx185_1, hl185_0, hi185_0⟩ := at_T60 HR0.out x7_1 p185 q185
       obtain rfl : ad184 = ad185 := (by injection e185)
       replace hx185_0 := up HB.out hx185_0
       replace hx185_1 := up HB.out hx185_1
       have HR185_0 := am hi185_0
       have HC185_0 := am hl185_0
       clear hi185_0 hl185_0
       replace p185 := eq_true p185
       replace q185 := eq_true q185
       have ea_ := Option.some.inj (hx184_0.symm.trans hx185_0)
       injection ea_ with ea_ en_ ec_
       subst ea_
       subst ec_
       clear en_
       have p186 : 0 ≤ (x8_2 : Int) := ofb
       have q186 : x8_2 < (((rd_T60 l0 x7_1).f0).length : Int) := ofb
       obtain ⟨ad186, e186, hx186_0, hx186_1, hx186_2, hx186_3, hx186_4⟩ := at_T52 HR185_0.out x8_2 p186 q186
       cases e186
       replace hx186_0 := up HB.out hx186_0
       replace hx186_1 := up HB.out hx186_1
       replace hx186_2 := up HB.out hx186_2
       replace hx186_3 := up HB.out hx186_3
       replace hx186_4 := up HB.out hx186_4
       replace p186 := eq_true p186
       replace q186 := eq_true q186
       go_wp2_with (first | (refine bx 9 #[.int .i64 0, .int .i64 0, .int .i64 0, .int .i64 0, .int .i64 0] 52 rfl ?_; intro gb187 hg w27 hbox hb; have BK187 := am (hbox); have GW187 := am (ge hg (bg2 HB.out GE182.out GE183.out)); have GE187 := GW187; replace HB := am (below_step (bg2 HB.out GE182.out GE183.out) hb); have NB182_187 := am (nb hg (pb BK182.out)); have NB187_182 := am (Ne.symm NB182_187.out); replace BK182 := am (blk_below (pb BK182.out) hb); have NB183_187 := am (nb hg (pb BK183.out)); have NB187_183 := am (Ne.symm NB183_187.out); replace BK183 := am (blk_below (pb BK183.out) hb); clear hb hbox hg; have hnb28 := NB187_182.out; have hnc28 := NB182_187.out; have hnb29 := NB187_183.out; have hnc29 := NB183_187.out; obtain ⟨hcz30_0, hcz30_1, hcz30_2, hcz30_3, hcz30_4⟩ := b5 BK187.out; obtain ⟨hfz30_0, hfz30_1, hfz30_2, hfz30_3, hfz30_4⟩ := f5 BK187.out))
       go_roundg k2
       case measure => have := HK1.out; have := HK2.out; omega
       case rel => exact ⟨(wrap64 (x8_2 + 1)), (x184000_2), (x184001_2), (x184002_2), (x184003_2), rf, H', ⟨by have := HK1.out; have := HK2.out; omega⟩, ⟨bf5 (pb BK182.out) NB182_187.out⟩, ⟨bf5 (pb BK183.out) NB183_187.out⟩, ⟨bg3 HB.out GE182.out GE183.out GE187.out⟩⟩
     rw [if_pos c13] at H
     have c13b0 : (((rd_T52 ((rd_T60 l0 x7_1).f0) x8_2).f1.f2) == a1) = true := beq_iff_eq.mpr c13
     have c13b1 : (((rd_T52 ((rd_T60 l0 x7_1).f0) x8_2).f1.f2) != a1) = false := bne_eq_false_iff_eq.mpr c13
     clear c13
     by_cases c14 : ((rd_T52 ((rd_T60 l0 x7_1).f0) x8_2).f1.f1) > x184001_2
     rotate_left
     · rw [if_neg c14] at H
       have c14b0 := decide_eq_false c14
       clear c14
       have H' := am H
       clear H
       have p184 : 0 ≤ (x7_1 : Int) := ofb
       have q184 : x7_1 < (l0.length : Int) := ofb
       obtain ⟨ad184, A184_0, c184_0, e184, hx184_0, hx184_1, hl184_0, hi184_0⟩ := at_T60 HR0.out x7_1 p184 q184
       cases e184
       replace hx184_0 := up HB.out hx184_0
       replace hx184_1 := up HB.out hx184_1
       have HR184_0 := am hi184_0
       have HC184_0 := am hl184_0
       clear hi184_0 hl184_0
       replace p184 := eq_true p184
       replace q184 := eq_true q184
       have p185 : 0 ≤ (x7_1 : Int) := ofb
       have q185 : x7_1 < (l0.length : Int) := ofb
       obtain ⟨ad185, A185_0, c185_0, e185, hx185_0, hx185_1, hl185_0, hi185_0⟩ := at_T60 HR0.out x7_1 p185 q185
       obtain rfl : ad184 = ad185 := (by injection e185)
       replace hx185_0 := up HB.out hx185_0
       replace hx185_1 := up HB.out hx185_1
       have HR185_0 := am hi185_0
       have HC185_0 := am hl185_0
       clear hi185_0 hl185_0
       replace p185 := eq_true p185
       replace q185 := eq_true q185
       have ea_ := Option.some.inj (hx184_0.symm.trans hx185_0)
       injection ea_ with ea_ en_ ec_
       subst ea_
       subst ec_
       clear en_
       have p186 : 0 ≤ (x8_2 : Int) := ofb
       have q186 : x8_2 < (((rd_T60 l0 x7_1).f0).length : Int) := ofb
       obtain ⟨ad186, e186, hx186_0, hx186_1, hx186_2, hx186_3, hx186_4⟩ := at_T52 HR185_0.out x8_2 p186 q186
       cases e186
       replace hx186_0 := up HB.out hx186_0
       replace hx186_1 := up HB.out hx186_1
       replace hx186_2 := up HB.out hx186_2
       replace hx186_3 := up HB.out hx186_3
       replace hx186_4 := up HB.out hx186_4
       replace p186 := eq_true p186
       replace q186 := eq_true q186
       go_wp2_with (first | (refine bx 9 #[.int .i64 0, .int .i64 0, .int .i64 0, .int .i64 0, .int .i64 0] 52 rfl ?_; intro gb187 hg w21 hbox hb; have BK187 := am (hbox); have GW187 := am (ge hg (bg2 HB.out GE182.out GE183.out)); have GE187 := GW187; replace HB := am (below_step (bg2 HB.out GE182.out GE183.out) hb); have NB182_187 := am (nb hg (pb BK182.out)); have NB187_182 := am (Ne.symm NB182_187.out); replace BK182 := am (blk_below (pb BK182.out) hb); have NB183_187 := am (nb hg (pb BK183.out)); have NB187_183 := am (Ne.symm NB183_187.out); replace BK183 := am (blk_below (pb BK183.out) hb); clear hb hbox hg; have hnb22 := NB187_182.out; have hnc22 := NB182_187.out; have hnb23 := NB187_183.out; have hnc23 := NB183_187.out; obtain ⟨hcz24_0, hcz24_1, hcz24_2, hcz24_3, hcz24_4⟩ := b5 BK187.out; obtain ⟨hfz24_0, hfz24_1, hfz24_2, hfz24_3, hfz24_4⟩ := f5 BK187.out; have hnb25 := NB183_182.out; have hnc25 := NB182_183.out; obtain ⟨hcz26_0, hcz26_1, hcz26_2, hcz26_3⟩ := b4 BK183.out; obtain ⟨hfz26_0, hfz26_1, hfz26_2, hfz26_3⟩ := f4 BK183.out))
       go_roundg k2
       case measure => have := HK1.out; have := HK2.out; omega
       case rel => exact ⟨(wrap64 (x8_2 + 1)), (x184000_2), (x184001_2), (x184002_2), (x184003_2), rf, H', ⟨by have := HK1.out; have := HK2.out; omega⟩, ⟨bf5 (pb BK182.out) NB182_187.out⟩, ⟨bf5 (pb BK183.out) NB183_187.out⟩, ⟨bg3 HB.out GE182.out GE183.out GE187.out⟩⟩
     rw [if_pos c14] at H
     have c14b0 := decide_eq_true c14
     clear c14
     have H' := am H
     clear H
     have p184 : 0 ≤ (x7_1 : Int) := ofb
     have q184 : x7_1 < (l0.length : Int) := ofb
     obtain ⟨ad184, A184_0, c184_0, e184, hx184_0, hx184_1, hl184_0, hi184_0⟩ := at_T60 HR0.out x7_1 p184 q184
     cases e184
     replace hx184_0 := up HB.out hx184_0
     replace hx184_1 := up HB.out hx184_1
     have HR184_0 := am hi184_0
     have HC184_0 := am hl184_0
     clear hi184_0 hl184_0
     replace p184 := eq_true p184
     replace q184 := eq_true q184
     have p185 : 0 ≤ (x7_1 : Int) := ofb
     have q185 : x7_1 < (l0.length : Int) := ofb
     obtain ⟨ad185, A185_0, c185_0, e185, hx185_0, hx185_1, hl185_0, hi185_0⟩ := at_T60 HR0.out x7_1 p185 q185
     obtain rfl : ad184 = ad185 := (by injection e185)
     replace hx185_0 := up HB.out hx185_0
     replace hx185_1 := up HB.out hx185_1
     have HR185_0 := am hi185_0
     have HC185_0 := am hl185_0
     clear hi185_0 hl185_0
     replace p185 := eq_true p185
     replace q185 := eq_true q185
     have ea_ := Option.some.inj (hx184_0.symm.trans hx185_0)
     injection ea_ with ea_ en_ ec_
     subst ea_
     subst ec_
     clear en_
     have p186 : 0 ≤ (x8_2 : Int) := ofb
     have q186 : x8_2 < (((rd_T60 l0 x7_1).f0).length : Int) := ofb
     obtain ⟨ad186, e186, hx186_0, hx186_1, hx186_2, hx186_3, hx186_4⟩ := at_T52 HR185_0.out x8_2 p186 q186
     cases e186
     replace hx186_0 := up HB.out hx186_0
     replace hx186_1 := up HB.out hx186_1
     replace hx186_2 := up HB.out hx186_2
     replace hx186_3 := up HB.out hx186_3
     replace hx186_4 := up HB.out hx186_4
     replace p186 := eq_true p186
     replace q186 := eq_true q186
     go_wp2_with (first | (refine bx 9 #[.int .i64 0, .int .i64 0, .int .i64 0, .int .i64 0, .int .i64 0] 52 rfl ?_; intro gb187 hg w15 hbox hb; have BK187 := am (hbox); have GW187 := am (ge hg (bg2 HB.out GE182.out GE183.out)); have GE187 := GW187; replace HB := am (below_step (bg2 HB.out GE182.out GE183.out) hb); have NB182_187 := am (nb hg (pb BK182.out)); have NB187_182 := am (Ne.symm NB182_187.out); replace BK182 := am (blk_below (pb BK182.out) hb); have NB183_187 := am (nb hg (pb BK183.out)); have NB187_183 := am (Ne.symm NB183_187.out); replace BK183 := am (blk_below (pb BK183.out) hb); clear hb hbox hg; have hnb16 := NB187_182.out; have hnc16 := NB182_187.out; have hnb17 := NB187_183.out; have hnc17 := NB183_187.out; obtain ⟨hcz18_0, hcz18_1, hcz18_2, hcz18_3, hcz18_4⟩ := b5 BK187.out; obtain ⟨hfz18_0, hfz18_1, hfz18_2, hfz18_3, hfz18_4⟩ := f5 BK187.out; have hnb19 := NB183_182.out; have hnc19 := NB182_183.out; obtain ⟨hcz20_0, hcz20_1, hcz20_2, hcz20_3⟩ := b4 BK183.out; obtain ⟨hfz20_0, hfz20_1, hfz20_2, hfz20_3⟩ := f4 BK183.out))
     go_roundg k2
     case measure => have := HK1.out; have := HK2.out; omega
     case rel => exact ⟨(wrap64 (x8_2 + 1)), ((rd_T52 ((rd_T60 l0 x7_1).f0) x8_2).f1.f0), ((rd_T52 ((rd_T60 l0 x7_1).f0) x8_2).f1.f1), ((rd_T52 ((rd_T60 l0 x7_1).f0) x8_2).f1.f2), ((rd_T52 ((rd_T60 l0 x7_1).f0) x8_2).f1.f3), rf, H', ⟨by have := HK1.out; have := HK2.out; omega⟩, ⟨bf4 (bf5 (pb BK182.out) NB182_187.out) NB182_183.out⟩, ⟨bp4 (bf5 (pb BK183.out) NB183_187.out)⟩, ⟨bg3 HB.out GE182.out GE183.out GE187.out⟩⟩
end Go.Proofs.Ytcfpddgfhkaboaa.Rz
namespace Go.Proofs.Ytcfpddgfhkaboaa.Rz
open Go.RowKit Go.Proofs.YtcfpddgfhkaboaaW.PrintWords Go.Proofs.YtcfpddgfhkaboaaW.PrintLast Go.Proofs.YtcfpddgfhkaboaaW.PrintMore
attribute [local go_sem] max2_int min2_int max_two min_two max_three min_three max_four min_four
set_option linter.unusedVariables false
set_option linter.unusedSimpArgs false
attribute [local go_sem high] eqA30
def spec_l3Live.f (k : Nat) (l0 : List (S60)) (a1_0 : Int) (a1_1 : Int) (a1_2 : Int) (a1_3 : Int) (a1_4 : Int) : Option (Bool) := if a1_0 = 1 then ((spec_l3Last.f k l0 a1_3).bind fun bt189 => (some (bt189.1 == a1_1 && (bt189.2.1 == a1_2 && (bt189.2.2.1 == a1_3 && (bt189.2.2.2.1 == a1_4)))))) else (some false)
theorem spec_l3Live.mono : ∀ a0 a1 a2 a3 a4 a5 k, LeO (spec_l3Live.f k a0 a1 a2 a3 a4 a5) (spec_l3Live.f (k + 1) a0 a1 a2 a3 a4 a5) := by
 intro a0 a1 a2 a3 a4 a5 k
 unfold spec_l3Live.f
 with_reducible repeat' first | exact spec_l3Last.mono _ _ _ | exact LeO.refl _ | exact LeO.none _ | refine LeO.ite ?_ ?_ | refine LeO.bind ?_ (fun _ => ?_)
set_option maxHeartbeats 8000000 in
set_option maxRecDepth 100000 in
theorem spec_l3Live.calls (k : Nat) (A0 : Option Addr) (c0 : Nat) (l0 : List (S60)) (a1_0 : Int) (a1_1 : Int) (a1_2 : Int) (a1_3 : Int) (a1_4 : Int) (r : Bool) (w : World) (hr0 : Kd.C k60 w A0 l0.length l0) (hc0 : l0.length ≤ c0) (h : spec_l3Live.f k l0 a1_0 a1_1 a1_2 a1_3 a1_4 = some r) :
 Calls Try.prog 60 #[.slice A0 l0.length c0, .agg #[.int .i64 a1_0, .int .i64 a1_1, .int .i64 a1_2, .int .i64 a1_3, .int .i64 a1_4]] w fun e w' => e = .returned (.bool r) ∧ Below w.heap.size w w' := by
 have hu52 := Try.underlying52
 have hu30 := Try.underlying30
 have HR0 := am hr0
 have HC0 := am hc0
 clear hr0 hc0
 have HB := am (Below.refl w.heap.size w)
 have H : (if a1_0 = 1 then ((spec_l3Last.f k l0 a1_3).bind fun bt189 => (some (bt189.1 == a1_1 && (bt189.2.1 == a1_2 && (bt189.2.2.1 == a1_3 && (bt189.2.2.2.1 == a1_4)))))) else (some false)) = some r := h
 clear h
 by_cases c3 : a1_0 = 1
 rotate_left
 · rw [if_neg c3] at H
   have c3b0 : (a1_0 == 1) = false := beq_eq_false_iff_ne.mpr c3
   have c3b1 : (a1_0 != 1) = true := bne_iff_ne.mpr c3
   obtain rfl := Option.some.inj H
   go_enter Try.func60, Try.ntmps60
   go_wp2_with (first | (refine bx 3 #[.int .i64 a1_0, .int .i64 a1_1, .int .i64 a1_2, .int .i64 a1_3, .int .i64 a1_4] 52 rfl ?_; intro gb188 hg w12 hbox hb; have BK188 := am (hbox); have GW188 := am (ge hg (ph HB.out)); have GE188 := GW188; replace HB := am (below_step (ph HB.out) hb); clear hb hbox hg; obtain ⟨hcz13_0, hcz13_1, hcz13_2, hcz13_3, hcz13_4⟩ := b5 BK188.out; obtain ⟨hfz13_0, hfz13_1, hfz13_2, hfz13_3, hfz13_4⟩ := f5 BK188.out))
   go_ret
   exact (rq (bg1 HB.out GE188.out))
 rw [if_pos c3] at H
 have c3b0 : (a1_0 == 1) = true := beq_iff_eq.mpr c3
 have c3b1 : (a1_0 != 1) = false := bne_eq_false_iff_eq.mpr c3
 clear c3
 replace H := Option.bind_eq_some_iff.mp H
 obtain ⟨⟨t189, t190, t191, t192, t193⟩, A40, H⟩ := H
 have A4 := am A40
 clear A40
 obtain rfl := Option.some.inj H
 go_enter Try.func60, Try.ntmps60
 go_wp2_with (first | (refine bx 3 #[.int .i64 a1_0, .int .i64 a1_1, .int .i64 a1_2, .int .i64 a1_3, .int .i64 a1_4] 52 rfl ?_; intro gb188 hg w5 hbox hb; have BK188 := am (hbox); have GW188 := am (ge hg (ph HB.out)); have GE188 := GW188; replace HB := am (below_step (ph HB.out) hb); clear hb hbox hg; obtain ⟨hcz6_0, hcz6_1, hcz6_2, hcz6_3, hcz6_4⟩ := b5 BK188.out; obtain ⟨hfz6_0, hfz6_1, hfz6_2, hfz6_3, hfz6_4⟩ := f5 BK188.out) | (refine gl 15 Try.func17 #[.slice A0 l0.length c0, .int .i64 a1_3] rfl ?_; (with_reducible refine (spec_l3Last.calls k _ _ l0 a1_3 t189 t190 t191 t192 t193 _ ?side1 ?side2 A4.out).mono ?_); (case side1 => exact pc (Kd.C_below HR0.out HB.out)); (case side2 => exact HC0.out); rintro e w7 ⟨rfl, hb⟩; refine ⟨_, rfl, ?_⟩; replace BK188 := am (blk_below (pb BK188.out) hb); replace HB := am (below_step (bg1 HB.out GE188.out) hb); clear hb) | (refine bx 5 #[.int .i64 0, .int .i64 0, .int .i64 0, .int .i64 0] 30 rfl ?_; intro gb194 hg w8 hbox hb; have BK194 := am (hbox); have GW194 := am (ge hg (bg1 HB.out GE188.out)); have GE194 := GW194; replace HB := am (below_step (bg1 HB.out GE188.out) hb); have NB188_194 := am (nb hg (pb BK188.out)); have NB194_188 := am (Ne.symm NB188_194.out); replace BK188 := am (blk_below (pb BK188.out) hb); clear hb hbox hg; have hnb9 := NB194_188.out; have hnc9 := NB188_194.out; obtain ⟨hcz10_0, hcz10_1, hcz10_2, hcz10_3⟩ := b4 BK194.out; obtain ⟨hfz10_0, hfz10_1, hfz10_2, hfz10_3⟩ := f4 BK194.out; obtain ⟨hcz11_0, hcz11_1, hcz11_2, hcz11_3, hcz11_4⟩ := b5 BK188.out; obtain ⟨hfz11_0, hfz11_1, hfz11_2, hfz11_3, hfz11_4⟩ := f5 BK188.out))
 go_ret
 exact (rq (bg2 HB.out GE188.out GE194.out))
end Go.Proofs.Ytcfpddgfhkaboaa.Rz
namespace Go.Proofs.Ytcfpddgfhkaboaa.Rz
open Go.RowKit Go.Proofs.YtcfpddgfhkaboaaW.PrintWords Go.Proofs.YtcfpddgfhkaboaaW.PrintLast Go.Proofs.YtcfpddgfhkaboaaW.PrintMore
attribute [local go_sem] max2_int min2_int max_two min_two max_three min_three max_four min_four
set_option linter.unusedVariables false
set_option linter.unusedSimpArgs false
def spec_l12Room.l0 : Nat → List (S91) → Int → Int → List (S60) → List Int → Option ((List (S91)) × Int × Bool)
 | 0, _, _, _, _, _ => none
 | k + 1, x5, x8, x9, x196000, x196001 => if x9 < 4 then (if 0 ≤ x8 then (if x8 < (x196000.length : Int) then (if 0 ≤ x9 then (if x9 < (((rd_T60 x196000 x8).f0).length : Int) then ((spec_l3Live.f k x196000 ((rd_T52 ((rd_T60 x196000 x8).f0) x9).f0) ((rd_T52 ((rd_T60 x196000 x8).f0) x9).f1.f0) ((rd_T52 ((rd_T60 x196000 x8).f0) x9).f1.f1) ((rd_T52 ((rd_T60 x196000 x8).f0) x9).f1.f2) ((rd_T52 ((rd_T60 x196000 x8).f0) x9).f1.f3)).bind fun t205 => (if t205 = true then (if ((rd_T52 ((rd_T60 x196000 x8).f0) x9).f1.f0) = 1 then (if x5.length < 2199023255552 then (spec_l12Room.l0 k (x5 ++ [(⟨1, (rd_T52 ((rd_T60 x196000 x8).f0) x9).f1.f2, (rd_T52 ((rd_T60 x196000 x8).f0) x9).f1.f3, 0, (⟨0, 0, 0, 0⟩ : S30)⟩ : S91)]) x8 (wrap64 (x9 + 1)) x196000 x196001) else (none)) else (spec_l12Room.l0 k x5 x8 (wrap64 (x9 + 1)) x196000 x196001)) else (spec_l12Room.l0 k x5 x8 (wrap64 (x9 + 1)) x196000 x196001))) else (none)) else (none)) else (none)) else (none)) else (if x5.length < 2199023255552 then (if 0 ≤ x8 then (if x8 < (x196000.length : Int) then (some ((x5 ++ [(⟨2, 0, 0, x8, (⟨0, 0, 0, 0⟩ : S30)⟩ : S91)]), x8, decide (((rd_T60 x196000 x8).f1) < 200))) else (none)) else (none)) else (none))
def spec_l12Room.f (k : Nat) (l0_0 : List (S60)) (l0_1 : List Int) : Option ((List (S91)) × Int × Bool) := (some (([] : List (S91)) : List (S91))).bind fun y196 => ((spec_l3Open.f k l0_0).bind fun bt199 => (if bt199.2 = true then (some (y196, bt199.1, true)) else ((spec_l3Old.f k l0_0).bind fun t201 => (spec_l12Room.l0 k y196 t201 0 l0_0 l0_1))))
theorem spec_l12Room.mono_l : ∀ k, (∀ y0 y1 y2 y3 y4, LeO (spec_l12Room.l0 k y0 y1 y2 y3 y4) (spec_l12Room.l0 (k + 1) y0 y1 y2 y3 y4))
 | 0 => fun _ _ _ _ _ r h => by simp [spec_l12Room.l0] at h
 | k + 1 => by
  have ih0 := spec_l12Room.mono_l k
  · intro y0 y1 y2 y3 y4
    unfold spec_l12Room.l0
    with_reducible repeat' first | exact ih0 _ _ _ _ _ | exact spec_l3Live.mono _ _ _ _ _ _ _ | exact spec_l3Old.mono _ _ | exact spec_l3Open.mono _ _ | exact LeO.refl _ | exact LeO.none _ | refine LeO.ite ?_ ?_ | refine LeO.bind ?_ (fun _ => ?_)
theorem spec_l12Room.mono : ∀ a0 a1 k, LeO (spec_l12Room.f k a0 a1) (spec_l12Room.f (k + 1) a0 a1) := by
 intro a0 a1 k
 have ih0 := spec_l12Room.mono_l k
 unfold spec_l12Room.f
 with_reducible repeat' first | exact ih0 _ _ _ _ _ | exact spec_l3Live.mono _ _ _ _ _ _ _ | exact spec_l3Old.mono _ _ | exact spec_l3Open.mono _ _ | exact LeO.refl _ | exact LeO.none _ | refine LeO.ite ?_ ?_ | refine LeO.bind ?_ (fun _ => ?_)
def spec_l12Room.T12 : Bool × List (List Nat × List Nat) := (true, [([], []), ([], []), ([1], [1]), ([2], [2]), ([0, 3], [0, 3]), ([], []), ([], []), ([6], [6]), ([], []), ([7, 8], [7, 8]), ([9], [9]), ([10], [10]), ([11], [11]), ([4, 4, 0, 1, 2, 3, 4], [4]), ([5, 13, 0, 1, 2, 3, 4, 5, 13], [5]), ([12, 14, 0, 1, 2, 3, 4, 5, 6, 7, 8, 9, 10, 11, 12, 13, 14], [12])])
def spec_l12Room.B12 : List Nat := [0, 0, 2, 6, 15, 0, 0, 64, 0, 448, 960, 1984, 4032, 31, 8255, 32767]
theorem spec_l12Room.tab12 : rtab .any (opsOf Try.f56 12) = spec_l12Room.T12 := by kernel_rfl
theorem spec_l12Room.bits12 : waitsOk spec_l12Room.T12.2 spec_l12Room.B12 = true := by kernel_rfl
set_option maxHeartbeats 8000000 in
set_option maxRecDepth 100000 in
theorem spec_l12Room.calls (k : Nat) (A0_0 : Option Addr) (c0_0 : Nat) (l0_0 : List (S60)) (A0_1 : Option Addr) (c0_1 : Nat) (l0_1 : List Int) (r1 : List (S91)) (r2 : Int) (r3 : Bool) (w : World) (hr0_0 : Kd.C k60 w A0_0 l0_0.length l0_0) (hc0_0 : l0_0.length ≤ c0_0) (hr0_1 : Kd.C (Kd.int .i64) w A0_1 l0_1.length l0_1) (hc0_1 : l0_1.length ≤ c0_1) (h : spec_l12Room.f k l0_0 l0_1 = some (r1, r2, r3)) :
 Calls Try.prog 56 #[.agg #[.slice A0_0 l0_0.length c0_0, .slice A0_1 l0_1.length c0_1]] w fun e w' => ∃ v0_ : Value, e = .returned (.tuple #[v0_, .int .i64 r2, .bool r3]) ∧ Kd.R k91 91 w' w.heap.size (fun _ => True) v0_ r1 ∧ Below w.heap.size w w' := by
 have hu26 := Try.underlying26
 have hu52 := Try.underlying52
 have hu91 := Try.underlying91
 have HR0_0 := am hr0_0
 have HC0_0 := am hc0_0
 clear hr0_0 hc0_0
 have HR0_1 := am hr0_1
 have HC0_1 := am hc0_1
 clear hr0_1 hc0_1
 have HB := am (Below.refl w.heap.size w)
 have H : ((some (([] : List (S91)) : List (S91))).bind fun y196 => ((spec_l3Open.f k l0_0).bind fun bt199 => (if bt199.2 = true then (some (y196, bt199.1, true)) else ((spec_l3Old.f k l0_0).bind fun t201 => (spec_l12Room.l0 k y196 t201 0 l0_0 l0_1))))) = some (r1, r2, r3) := h
 clear h
 obtain ⟨y196, hy196⟩ : ∃ y_ : List (S91), y_ = (([] : List (S91))) := ⟨_, rfl⟩
 replace H : ((spec_l3Open.f k l0_0).bind fun bt199 => (if bt199.2 = true then (some (y196, bt199.1, true)) else ((spec_l3Old.f k l0_0).bind fun t201 => (spec_l12Room.l0 k y196 t201 0 l0_0 l0_1)))) = some (r1, r2, r3) := yy hy196 H
 have Ny196 := am hy196
 clear hy196
 replace H := Option.bind_eq_some_iff.mp H
 obtain ⟨⟨t199, t200⟩, A20, H⟩ := H
 have A2 := am A20
 clear A20
 by_cases c3 : t200 = true
 · subst c3
   rw [if_pos rfl] at H
   simp only [Option.some.injEq, Prod.mk.injEq] at H
   obtain ⟨rfl, rfl, rfl⟩ := H
   go_enter Try.func56, Try.ntmps56
   go_wp2_with (first | (refine bx 1 #[.slice A0_0 l0_0.length c0_0, .slice A0_1 l0_1.length c0_1] 26 rfl ?_; intro gb195 hg w4 hbox hb; have BK195 := am (hbox); have GW195 := am (ge hg (ph HB.out)); have GE195 := GW195; replace HB := am (below_step (ph HB.out) hb); clear hb hbox hg) | ((with_reducible refine gate_dst (N := 11) rfl ?_); refine Kd.R_lit k91 _ 91 ?hg (N := 11) ?hd (xs := ([] : List (S91))) (inner := []) (ok := fun _ => True) (okp := fun _ => True) ?hr ?hp (fun _ hk => hk) trivial (Below.refl _ _) (Nat.le_refl _) (by simp) ?_; (case hd => rfl); (case hg => rfl); (case hr => first | (go_simp; done) | (go_simp; rfl)); (case hp => exact (Reps.none _ _)); intro v197 w5 ho6 hb hg_ hnew_; clear hg_ hnew_; (first | rw [← Ny196.out] at ho6 | (simp only [Int.reduceToNat] at ho6; rw [← Ny196.out] at ho6)); have HO198 := am (Kd.R_lower ho6 (below_size (bg1 HB.out GE195.out))); replace BK195 := am (blk_below (pb BK195.out) hb); replace HB := am (below_step (bg1 HB.out GE195.out) hb); clear hb ho6; obtain ⟨hcz7_0, hcz7_1⟩ := b2 BK195.out; obtain ⟨hfz7_0, hfz7_1⟩ := f2 BK195.out) | (refine gl 15 Try.func58 #[.slice A0_0 l0_0.length c0_0] rfl ?_; (with_reducible refine (spec_l3Open.calls k _ _ l0_0 t199 true _ ?side1 ?side2 A2.out).mono ?_); (case side1 => exact pc (Kd.C_below HR0_0.out HB.out)); (case side2 => exact HC0_0.out); rintro e w8 ⟨rfl, hb⟩; refine ⟨_, rfl, ?_⟩; replace HO198 := am (Kd.R_below (pr HO198.out) hb); replace BK195 := am (blk_below (pb BK195.out) hb); replace HB := am (below_step (bg1 HB.out GE195.out) hb); clear hb))
   go_ret3
   exact ⟨_, rq ⟨pr HO198.out, bg1 HB.out GE195.out⟩⟩
 replace c3 := Bool.eq_false_iff.mpr c3
 subst c3
 rw [if_neg (show ¬ (false = true) by decide)] at H
 replace H := Option.bind_eq_some_iff.mp H
 obtain ⟨t201, A90, H⟩ := H
 have A9 := am A90
 clear A90
 have H' := am H
 clear H
 go_enter Try.func56, Try.ntmps56
 go_wp2_with (first | (refine bx 1 #[.slice A0_0 l0_0.length c0_0, .slice A0_1 l0_1.length c0_1] 26 rfl ?_; intro gb195 hg w10 hbox hb; have BK195 := am (hbox); have GW195 := am (ge hg (ph HB.out)); have GE195 := GW195; replace HB := am (below_step (ph HB.out) hb); clear hb hbox hg) | ((with_reducible refine gate_dst (N := 11) rfl ?_); refine Kd.R_lit k91 _ 91 ?hg (N := 11) ?hd (xs := ([] : List (S91))) (inner := []) (ok := fun _ => True) (okp := fun _ => True) ?hr ?hp (fun _ hk => hk) trivial (Below.refl _ _) (Nat.le_refl _) (by simp) ?_; (case hd => rfl); (case hg => rfl); (case hr => first | (go_simp; done) | (go_simp; rfl)); (case hp => exact (Reps.none _ _)); intro v197 w11 ho12 hb hg_ hnew_; clear hg_ hnew_; (first | rw [← Ny196.out] at ho12 | (simp only [Int.reduceToNat] at ho12; rw [← Ny196.out] at ho12)); have HO198 := am (Kd.R_lower ho12 (below_size (bg1 HB.out GE195.out))); replace BK195 := am (blk_below (pb BK195.out) hb); replace HB := am (below_step (bg1 HB.out GE195.out) hb); clear hb ho12; obtain ⟨hcz13_0, hcz13_1⟩ := b2 BK195.out; obtain ⟨hfz13_0, hfz13_1⟩ := f2 BK195.out) | (refine gl 15 Try.func58 #[.slice A0_0 l0_0.length c0_0] rfl ?_; (with_reducible refine (spec_l3Open.calls k _ _ l0_0 t199 false _ ?side1 ?side2 A2.out).mono ?_); (case side1 => exact pc (Kd.C_below HR0_0.out HB.out)); (case side2 => exact HC0_0.out); rintro e w14 ⟨rfl, hb⟩; refine ⟨_, rfl, ?_⟩; replace HO198 := am (Kd.R_below (pr HO198.out) hb); replace BK195 := am (blk_below (pb BK195.out) hb); replace HB := am (below_step (bg1 HB.out GE195.out) hb); clear hb; obtain ⟨hcz15_0, hcz15_1⟩ := b2 BK195.out; obtain ⟨hfz15_0, hfz15_1⟩ := f2 BK195.out) | (refine gl 23 Try.func59 #[.slice A0_0 l0_0.length c0_0] rfl ?_; (with_reducible refine (spec_l3Old.calls k _ _ l0_0 t201 _ ?side1 ?side2 A9.out).mono ?_); (case side1 => exact pc (Kd.C_below HR0_0.out HB.out)); (case side2 => exact HC0_0.out); rintro e w16 ⟨rfl, hb⟩; refine ⟨_, rfl, ?_⟩; replace HO198 := am (Kd.R_below (pr HO198.out) hb); replace BK195 := am (blk_below (pb BK195.out) hb); replace HB := am (below_step (bg1 HB.out GE195.out) hb); clear hb))
 go_loopg [5, 9] k (fun kq v5 v9 w' => ∃ (x5_1 : List (S91)) (x9_1 : Int), v9 = .int .i64 x9_1 ∧ Aside0 (spec_l12Room.l0 kq x5_1 t201 x9_1 l0_0 l0_1 = some (r1, r2, r3)) ∧ Aside0 (kq ≤ k) ∧ Aside0 (Kd.R k91 91 w' w.heap.size (fun _ => True) v5 x5_1) ∧ Aside0 (w'.heap[gb195]? = some (.cells #[(.slice A0_0 l0_0.length c0_0), (.slice A0_1 l0_1.length c0_1)] 26 (0, 0))) ∧ Aside0 (Below w.heap.size w w'))
 case atStart => exact ⟨(y196), (0), rf, H', ⟨Nat.le_refl _⟩, ⟨pr HO198.out⟩, ⟨pb BK195.out⟩, ⟨bg1 HB.out GE195.out⟩⟩
 case round =>
  clear H'
  obtain ⟨x5_1, x9_1, rfl, HA, HK1, HO_5, BK195, HB⟩ := hrel
  cases gk with
  | zero => exact absurd HA.out (by simp [spec_l12Room.l0])
  | succ k1 =>
   have H := HA.out
   clear HA
   simp only [spec_l12Room.l0] at H
   by_cases c17 : x9_1 < 4
   rotate_left
   · rw [if_neg c17] at H
     have c17b0 := decide_eq_false c17
     clear c17
     by_cases c47 : x5_1.length < 2199023255552
     rotate_left
     · rw [if_neg c47] at H
       exact absurd H (by simp)
     rw [if_pos c47] at H
     have LMc47 := am c47
     clear c47
     obtain ⟨y209, hy209⟩ : ∃ y_ : List (S91), y_ = (x5_1 ++ [(⟨2, 0, 0, t201, (⟨0, 0, 0, 0⟩ : S30)⟩ : S91)]) := ⟨_, rfl⟩
     replace H : (if 0 ≤ t201 then (if t201 < (l0_0.length : Int) then (some (y209, t201, decide (((rd_T60 l0_0 t201).f1) < 200))) else (none)) else (none)) = some (r1, r2, r3) := yy hy209 H
     have Ny209 := am hy209
     clear hy209
     obtain ⟨c48b0, H⟩ := ifd H
     obtain ⟨c49b0, H⟩ := ifd H
     simp only [Option.some.injEq, Prod.mk.injEq] at H
     obtain ⟨rfl, rfl, rfl⟩ := H
     try go_wp2
     replace HO_5 := am (Kd.R_drew HO_5.out)
     replace BK195 := am (blk_drew BK195.out)
     replace HB := am (below_drew1 HB.out)
     have p212 : 0 ≤ (t201 : Int) := ofb
     have q212 : t201 < (l0_0.length : Int) := ofb
     obtain ⟨ad212, A212_0, c212_0, e212, hx212_0, hx212_1, hl212_0, hi212_0⟩ := at_T60 HR0_0.out t201 p212 q212
     have hw212_1 := hx212_1
     have hw212_0 := hx212_0
     cases e212
     replace hx212_0 := up HB.out hx212_0
     replace hx212_1 := up HB.out hx212_1
     have HR212_0 := am hi212_0
     have HC212_0 := am hl212_0
     clear hi212_0 hl212_0
     replace p212 := eq_true p212
     replace q212 := eq_true q212
     refine start_ (n := 16) (S := fun w' => w'.cell? ⟨gb195, 0, none⟩ = some (.slice (some ad212) l0_0.length c0_0) ∧ w'.cell? ⟨gb195, 1, none⟩ = some (.slice A0_1 l0_1.length c0_1) ∧ w'.cell? (ad212.add ((t201).toNat * 2)) = some (.slice A212_0 ((rd_T60 l0_0 t201).f0).length c212_0) ∧ w'.cell? ⟨(ad212.add ((t201).toNat * 2)).block, (ad212.add ((t201).toNat * 2)).off + 1, none⟩ = some (.int .i64 ((rd_T60 l0_0 t201).f1))) (ds := []) (bt 16 0) (by kernel_rfl) rfl rfl ⟨(blk_cell BK195.out 0).trans rfl, (blk_cell BK195.out 1).trans rfl, ((HB.out.cell (World.block_lt_of_cell? w _ hw212_0)).trans hw212_0), ((HB.out.cell (World.block_lt_of_cell? w _ hw212_1)).trans hw212_1)⟩ (fun hHeld => ?_); refine with_tabW spec_l12Room.tab12 spec_l12Room.bits12 (fun HT_ HW_ => ?_)
     generalize wr.drew = w50 at HO_5 BK195 HB HR212_0 hx212_0 hx212_1 hHeld ⊢
     refine qj 0 57 (bt 16 1) rfl rfl HT_.out ?_
     refine qj 1 58 (bt 16 3) rfl rfl HT_.out ?_
     refine qj 2 59 (bt 16 7) rfl rfl HT_.out ?_
     refine qj 5 62 (bt 16 39) rfl rfl HT_.out ?_
     refine qj 6 63 (bt 16 103) rfl rfl HT_.out ?_
     refine qj 8 65 (bt 16 359) rfl rfl HT_.out ?_
     refine qm 7 64 (bt 16 487) rfl rfl HT_.out HW_.out hHeld ?_
     refine qj 9 66 (bt 16 999) rfl rfl HT_.out ?_
     refine qj 10 67 (bt 16 2023) rfl rfl HT_.out ?_
     refine qm 11 68 (bt 16 4071) rfl rfl HT_.out HW_.out hHeld ?_
     refine qj 12 69 (bt 16 8167) rfl rfl HT_.out ?_
     refine qo 3 (some 60) (bt 16 8175) rfl rfl HT_.out fun K hK => ?_
     refine value_ (w1 := ?_) (v := ?_) (by rfl) rfl ?_ ?_
     rotate_left 2
     · go_simp
       constructor
       · rfl
       · rfl
     refine hK.out _ _ ⟨(blk_cell (blk_alloc BK195.out _) 0).trans rfl, (blk_cell (blk_alloc BK195.out _) 1).trans rfl, (World.cell?_alloc_lt _ _ _ (World.block_lt_of_cell? _ _ (((HB.out.cell (World.block_lt_of_cell? w _ hw212_0)).trans hw212_0)))).trans (((HB.out.cell (World.block_lt_of_cell? w _ hw212_0)).trans hw212_0)), (World.cell?_alloc_lt _ _ _ (World.block_lt_of_cell? _ _ (((HB.out.cell (World.block_lt_of_cell? w _ hw212_1)).trans hw212_1)))).trans (((HB.out.cell (World.block_lt_of_cell? w _ hw212_1)).trans hw212_1))⟩ (fun hHeld => ?_)
     clear hK K
     refine qn (some 60) ?_
     refine qo 4 (some 61) (bt 16 8191) rfl rfl HT_.out fun K hK => ?_
     refine Kd.R_append_step k91 (w0 := w) w.heap.size (by rfl) (.tmp 57) (.tmp 60) 83 91 (.agg #[(.int .i64 0), (.int .i64 0), (.int .i64 0), (.int .i64 0), (.int .i64 0), (.int .i64 0), (.int .i64 0), (.int .i64 0)]) 64 rfl Try.underlying83 info91 rfl (by decide) (by omega) u5 x5_1 (⟨2, 0, 0, t201, (⟨0, 0, 0, 0⟩ : S30)⟩ : S91) [.int .i64 2, .int .i64 0, .int .i64 0, .int .i64 t201, .int .i64 0, .int .i64 0, .int .i64 0, .int .i64 0] (fun _ => True) (fun _ => False) rfl rfl ?aP (fun _ hk => hk.elim) ?aF ?aO ?aB ?aS ?aL ?_
     (case aP => exact k91_mkM _ _ _ (⟨2, 0, 0, t201, (⟨0, 0, 0, 0⟩ : S30)⟩ : S91))
     (case aB => exact (bg1 HB.out GE195.out))
     (case aF => exact (fun _ _ => trivial))
     (case aO => exact (pr HO_5.out))
     (case aS => exact (below_size (bg1 HB.out GE195.out)))
     (case aL => have := LMc47.out; omega)
     intro v210 w51 ho hb hg hat
     rw [← Ny209.out] at ho
     replace BK195 := am (blk_grown (g := gb195) (o := .cells #[.slice (some ad212) l0_0.length c0_0, .slice A0_1 l0_1.length c0_1] 26 (0, 0)) (pb BK195.out) hg (Kd.R_ne HO_5.out BK195.out (by decide)))
     replace HB := am (hb)
     have HO211 := am (ho)
     clear HO_5 ho hb hg hat
     refine hK.out _ _ ⟨(blk_cell BK195.out 0).trans rfl, (blk_cell BK195.out 1).trans rfl, ((HB.out.cell (World.block_lt_of_cell? w _ hw212_0)).trans hw212_0), ((HB.out.cell (World.block_lt_of_cell? w _ hw212_1)).trans hw212_1)⟩ (fun hHeld => ?_)
     clear hK K
     refine qn (some 61) ?_
     refine qj 13 2 (bt 16 16383) rfl rfl HT_.out ?_
     refine qj 14 3 (bt 16 32767) rfl rfl HT_.out ?_
     refine qj 15 4 (bt 16 65535) rfl rfl HT_.out ?_
     refine done_ (done_of HT_.out (by kernel_rfl)) ?_
     try go_wp2
     go_ret3
     exact ⟨_, rq ⟨pr HO211.out, bg1 HB.out GE195.out⟩⟩
   rw [if_pos c17] at H
   have c17b0 := decide_eq_true c17
   clear c17
   obtain ⟨c18b0, H⟩ := ifd H
   obtain ⟨c19b0, H⟩ := ifd H
   obtain ⟨c20b0, H⟩ := ifd H
   obtain ⟨c21b0, H⟩ := ifd H
   replace H := Option.bind_eq_some_iff.mp H
   obtain ⟨t205, A220, H⟩ := H
   have A22 := am A220
   clear A220
   by_cases c23 : t205 = true
   rotate_left
   · replace c23 := Bool.eq_false_iff.mpr c23
     subst c23
     rw [if_neg (show ¬ (false = true) by decide)] at H
     have H' := am H
     clear H
     obtain ⟨hcz41_0, hcz41_1⟩ := b2 BK195.out
     obtain ⟨hfz41_0, hfz41_1⟩ := f2 BK195.out
     have p202 : 0 ≤ (t201 : Int) := ofb
     have q202 : t201 < (l0_0.length : Int) := ofb
     obtain ⟨ad202, A202_0, c202_0, e202, hx202_0, hx202_1, hl202_0, hi202_0⟩ := at_T60 HR0_0.out t201 p202 q202
     cases e202
     replace hx202_0 := up HB.out hx202_0
     replace hx202_1 := up HB.out hx202_1
     have HR202_0 := am hi202_0
     have HC202_0 := am hl202_0
     clear hi202_0 hl202_0
     replace p202 := eq_true p202
     replace q202 := eq_true q202
     have p203 : 0 ≤ (x9_1 : Int) := ofb
     have q203 : x9_1 < (((rd_T60 l0_0 t201).f0).length : Int) := ofb
     obtain ⟨ad203, e203, hx203_0, hx203_1, hx203_2, hx203_3, hx203_4⟩ := at_T52 HR202_0.out x9_1 p203 q203
     cases e203
     replace hx203_0 := up HB.out hx203_0
     replace hx203_1 := up HB.out hx203_1
     replace hx203_2 := up HB.out hx203_2
     replace hx203_3 := up HB.out hx203_3
     replace hx203_4 := up HB.out hx203_4
     replace p203 := eq_true p203
     replace q203 := eq_true q203
     go_wp2_with (first | (refine bx 10 #[.int .i64 0, .int .i64 0, .int .i64 0, .int .i64 0, .int .i64 0] 52 rfl ?_; intro gb204 hg w42 hbox hb; replace HO_5 := am (Kd.R_below (pr HO_5.out) hb); have BK204 := am (hbox); have GW204 := am (ge hg (bg1 HB.out GE195.out)); have GE204 := GW204; replace HB := am (below_step (bg1 HB.out GE195.out) hb); have NB195_204 := am (nb hg (pb BK195.out)); have NB204_195 := am (Ne.symm NB195_204.out); replace BK195 := am (blk_below (pb BK195.out) hb); clear hb hbox hg; have hnb43 := NB204_195.out; have hnc43 := NB195_204.out; obtain ⟨hcz44_0, hcz44_1, hcz44_2, hcz44_3, hcz44_4⟩ := b5 BK204.out; obtain ⟨hfz44_0, hfz44_1, hfz44_2, hfz44_3, hfz44_4⟩ := f5 BK204.out; obtain ⟨hcz45_0, hcz45_1⟩ := b2 BK195.out; obtain ⟨hfz45_0, hfz45_1⟩ := f2 BK195.out) | (refine gl 40 Try.func60 #[.slice (some ad202) l0_0.length c0_0, .agg #[.int .i64 ((rd_T52 ((rd_T60 l0_0 t201).f0) x9_1).f0), .int .i64 ((rd_T52 ((rd_T60 l0_0 t201).f0) x9_1).f1.f0), .int .i64 ((rd_T52 ((rd_T60 l0_0 t201).f0) x9_1).f1.f1), .int .i64 ((rd_T52 ((rd_T60 l0_0 t201).f0) x9_1).f1.f2), .int .i64 ((rd_T52 ((rd_T60 l0_0 t201).f0) x9_1).f1.f3)]] rfl ?_; (with_reducible refine (spec_l3Live.calls k1 _ _ l0_0 ((rd_T52 ((rd_T60 l0_0 t201).f0) x9_1).f0) ((rd_T52 ((rd_T60 l0_0 t201).f0) x9_1).f1.f0) ((rd_T52 ((rd_T60 l0_0 t201).f0) x9_1).f1.f1) ((rd_T52 ((rd_T60 l0_0 t201).f0) x9_1).f1.f2) ((rd_T52 ((rd_T60 l0_0 t201).f0) x9_1).f1.f3) false _ ?side1 ?side2 A22.out).mono ?_); (case side1 => exact Kd.C_below HR0_0.out (bg2 HB.out GE195.out GE204.out)); (case side2 => exact HC0_0.out); rintro e w46 ⟨rfl, hb⟩; refine ⟨_, rfl, ?_⟩; replace HO_5 := am (Kd.R_below (pr ((Kd.R_mono (Kd.R_far (p := ⟨gb204, 4, none⟩) (Kd.R_far (p := ⟨gb204, 3, none⟩) (Kd.R_far (p := ⟨gb204, 2, none⟩) (Kd.R_far (p := ⟨gb204, 1, none⟩) (Kd.R_far (p := ⟨gb204, 0, none⟩) (Kd.R_types HO_5.out BK204.out (by decide)) (fun _ hk => hk.2) (.int .i64 ((rd_T52 ((rd_T60 l0_0 t201).f0) x9_1).f0))) (fun _ hk => hk.2) (.int .i64 ((rd_T52 ((rd_T60 l0_0 t201).f0) x9_1).f1.f0))) (fun _ hk => hk.2) (.int .i64 ((rd_T52 ((rd_T60 l0_0 t201).f0) x9_1).f1.f1))) (fun _ hk => hk.2) (.int .i64 ((rd_T52 ((rd_T60 l0_0 t201).f0) x9_1).f1.f2))) (fun _ hk => hk.2) (.int .i64 ((rd_T52 ((rd_T60 l0_0 t201).f0) x9_1).f1.f3))) (fun _ h_ => h_.1)))) hb); replace BK195 := am (blk_below (bf5 (pb BK195.out) NB195_204.out) hb); replace BK204 := am (blk_below (bp5 (pb BK204.out)) hb); replace HB := am (below_step (bg2 HB.out GE195.out GE204.out) hb); clear hb))
     go_roundg k1
     case measure => have := HK1.out; omega
     case rel => exact ⟨(x5_1), (wrap64 (x9_1 + 1)), rf, H', ⟨by have := HK1.out; omega⟩, ⟨pr HO_5.out⟩, ⟨pb BK195.out⟩, ⟨bg2 HB.out GE195.out GE204.out⟩⟩
   subst c23
   rw [if_pos rfl] at H
   by_cases c24 : ((rd_T52 ((rd_T60 l0_0 t201).f0) x9_1).f1.f0) = 1
   rotate_left
   · rw [if_neg c24] at H
     have c24b0 : (((rd_T52 ((rd_T60 l0_0 t201).f0) x9_1).f1.f0) == 1) = false := beq_eq_false_iff_ne.mpr c24
     have c24b1 : (((rd_T52 ((rd_T60 l0_0 t201).f0) x9_1).f1.f0) != 1) = true := bne_iff_ne.mpr c24
     have H' := am H
     clear H
     obtain ⟨hcz34_0, hcz34_1⟩ := b2 BK195.out
     obtain ⟨hfz34_0, hfz34_1⟩ := f2 BK195.out
     have p202 : 0 ≤ (t201 : Int) := ofb
     have q202 : t201 < (l0_0.length : Int) := ofb
     obtain ⟨ad202, A202_0, c202_0, e202, hx202_0, hx202_1, hl202_0, hi202_0⟩ := at_T60 HR0_0.out t201 p202 q202
     cases e202
     replace hx202_0 := up HB.out hx202_0
     replace hx202_1 := up HB.out hx202_1
     have HR202_0 := am hi202_0
     have HC202_0 := am hl202_0
     clear hi202_0 hl202_0
     replace p202 := eq_true p202
     replace q202 := eq_true q202
     have p203 : 0 ≤ (x9_1 : Int) := ofb
     have q203 : x9_1 < (((rd_T60 l0_0 t201).f0).length : Int) := ofb
     obtain ⟨ad203, e203, hx203_0, hx203_1, hx203_2, hx203_3, hx203_4⟩ := at_T52 HR202_0.out x9_1 p203 q203
     cases e203
     replace hx203_0 := up HB.out hx203_0
     replace hx203_1 := up HB.out hx203_1
     replace hx203_2 := up HB.out hx203_2
     replace hx203_3 := up HB.out hx203_3
     replace hx203_4 := up HB.out hx203_4
     replace p203 := eq_true p203
     replace q203 := eq_true q203
     go_wp2_with (first | (refine bx 10 #[.int .i64 0, .int .i64 0, .int .i64 0, .int .i64 0, .int .i64 0] 52 rfl ?_; intro gb204 hg w35 hbox hb; replace HO_5 := am (Kd.R_below (pr HO_5.out) hb); have BK204 := am (hbox); have GW204 := am (ge hg (bg1 HB.out GE195.out)); have GE204 := GW204; replace HB := am (below_step (bg1 HB.out GE195.out) hb); have NB195_204 := am (nb hg (pb BK195.out)); have NB204_195 := am (Ne.symm NB195_204.out); replace BK195 := am (blk_below (pb BK195.out) hb); clear hb hbox hg; have hnb36 := NB204_195.out; have hnc36 := NB195_204.out; obtain ⟨hcz37_0, hcz37_1, hcz37_2, hcz37_3, hcz37_4⟩ := b5 BK204.out; obtain ⟨hfz37_0, hfz37_1, hfz37_2, hfz37_3, hfz37_4⟩ := f5 BK204.out; obtain ⟨hcz38_0, hcz38_1⟩ := b2 BK195.out; obtain ⟨hfz38_0, hfz38_1⟩ := f2 BK195.out) | (refine gl 40 Try.func60 #[.slice (some ad202) l0_0.length c0_0, .agg #[.int .i64 ((rd_T52 ((rd_T60 l0_0 t201).f0) x9_1).f0), .int .i64 ((rd_T52 ((rd_T60 l0_0 t201).f0) x9_1).f1.f0), .int .i64 ((rd_T52 ((rd_T60 l0_0 t201).f0) x9_1).f1.f1), .int .i64 ((rd_T52 ((rd_T60 l0_0 t201).f0) x9_1).f1.f2), .int .i64 ((rd_T52 ((rd_T60 l0_0 t201).f0) x9_1).f1.f3)]] rfl ?_; (with_reducible refine (spec_l3Live.calls k1 _ _ l0_0 ((rd_T52 ((rd_T60 l0_0 t201).f0) x9_1).f0) ((rd_T52 ((rd_T60 l0_0 t201).f0) x9_1).f1.f0) ((rd_T52 ((rd_T60 l0_0 t201).f0) x9_1).f1.f1) ((rd_T52 ((rd_T60 l0_0 t201).f0) x9_1).f1.f2) ((rd_T52 ((rd_T60 l0_0 t201).f0) x9_1).f1.f3) true _ ?side1 ?side2 A22.out).mono ?_); (case side1 => exact Kd.C_below HR0_0.out (bg2 HB.out GE195.out GE204.out)); (case side2 => exact HC0_0.out); rintro e w39 ⟨rfl, hb⟩; refine ⟨_, rfl, ?_⟩; replace HO_5 := am (Kd.R_below (pr ((Kd.R_mono (Kd.R_far (p := ⟨gb204, 4, none⟩) (Kd.R_far (p := ⟨gb204, 3, none⟩) (Kd.R_far (p := ⟨gb204, 2, none⟩) (Kd.R_far (p := ⟨gb204, 1, none⟩) (Kd.R_far (p := ⟨gb204, 0, none⟩) (Kd.R_types HO_5.out BK204.out (by decide)) (fun _ hk => hk.2) (.int .i64 ((rd_T52 ((rd_T60 l0_0 t201).f0) x9_1).f0))) (fun _ hk => hk.2) (.int .i64 ((rd_T52 ((rd_T60 l0_0 t201).f0) x9_1).f1.f0))) (fun _ hk => hk.2) (.int .i64 ((rd_T52 ((rd_T60 l0_0 t201).f0) x9_1).f1.f1))) (fun _ hk => hk.2) (.int .i64 ((rd_T52 ((rd_T60 l0_0 t201).f0) x9_1).f1.f2))) (fun _ hk => hk.2) (.int .i64 ((rd_T52 ((rd_T60 l0_0 t201).f0) x9_1).f1.f3))) (fun _ h_ => h_.1)))) hb); replace BK195 := am (blk_below (bf5 (pb BK195.out) NB195_204.out) hb); replace BK204 := am (blk_below (bp5 (pb BK204.out)) hb); replace HB := am (below_step (bg2 HB.out GE195.out GE204.out) hb); clear hb; have hcz40_0 : w39.cell? ⟨gb204, 0, none⟩ = some (.int .i64 ((rd_T52 ((rd_T60 l0_0 t201).f0) x9_1).f0)) := (blk_cell BK204.out 0).trans rfl; have hcz40_1 : w39.cell? ⟨gb204, 1, none⟩ = some (.int .i64 ((rd_T52 ((rd_T60 l0_0 t201).f0) x9_1).f1.f0)) := (blk_cell BK204.out 1).trans rfl; have hcz40_2 : w39.cell? ⟨gb204, 2, none⟩ = some (.int .i64 ((rd_T52 ((rd_T60 l0_0 t201).f0) x9_1).f1.f1)) := (blk_cell BK204.out 2).trans rfl; have hcz40_3 : w39.cell? ⟨gb204, 3, none⟩ = some (.int .i64 ((rd_T52 ((rd_T60 l0_0 t201).f0) x9_1).f1.f2)) := (blk_cell BK204.out 3).trans rfl; have hcz40_4 : w39.cell? ⟨gb204, 4, none⟩ = some (.int .i64 ((rd_T52 ((rd_T60 l0_0 t201).f0) x9_1).f1.f3)) := (blk_cell BK204.out 4).trans rfl; obtain ⟨hfz40_0, hfz40_1, hfz40_2, hfz40_3, hfz40_4⟩ := f5 BK204.out))
     go_roundg k1
     case measure => have := HK1.out; omega
     case rel => exact ⟨(x5_1), (wrap64 (x9_1 + 1)), rf, H', ⟨by have := HK1.out; omega⟩, ⟨pr HO_5.out⟩, ⟨pb BK195.out⟩, ⟨bg2 HB.out GE195.out GE204.out⟩⟩
   rw [if_pos c24] at H
   have c24b0 : (((rd_T52 ((rd_T60 l0_0 t201).f0) x9_1).f1.f0) == 1) = true := beq_iff_eq.mpr c24
   have c24b1 : (((rd_T52 ((rd_T60 l0_0 t201).f0) x9_1).f1.f0) != 1) = false := bne_eq_false_iff_eq.mpr c24
   clear c24
   by_cases c25 : x5_1.length < 2199023255552
   rotate_left
   · rw [if_neg c25] at H
     exact absurd H (by simp)
   rw [if_pos c25] at H
   have LMc25 := am c25
   clear c25
   obtain ⟨y206, hy206⟩ : ∃ y_ : List (S91), y_ = (x5_1 ++ [(⟨1, (rd_T52 ((rd_T60 l0_0 t201).f0) x9_1).f1.f2, (rd_T52 ((rd_T60 l0_0 t201).f0) x9_1).f1.f3, 0, (⟨0, 0, 0, 0⟩ : S30)⟩ : S91)]) := ⟨_, rfl⟩
   replace H : (spec_l12Room.l0 k1 y206 t201 (wrap64 (x9_1 + 1)) l0_0 l0_1) = some (r1, r2, r3) := yy hy206 H
   have Ny206 := am hy206
   clear hy206
   have H' := am H
   clear H
   obtain ⟨hcz26_0, hcz26_1⟩ := b2 BK195.out
   obtain ⟨hfz26_0, hfz26_1⟩ := f2 BK195.out
   have p202 : 0 ≤ (t201 : Int) := ofb
   have q202 : t201 < (l0_0.length : Int) := ofb
   obtain ⟨ad202, A202_0, c202_0, e202, hx202_0, hx202_1, hl202_0, hi202_0⟩ := at_T60 HR0_0.out t201 p202 q202
   cases e202
   replace hx202_0 := up HB.out hx202_0
   replace hx202_1 := up HB.out hx202_1
   have HR202_0 := am hi202_0
   have HC202_0 := am hl202_0
   clear hi202_0 hl202_0
   replace p202 := eq_true p202
   replace q202 := eq_true q202
   have p203 : 0 ≤ (x9_1 : Int) := ofb
   have q203 : x9_1 < (((rd_T60 l0_0 t201).f0).length : Int) := ofb
   obtain ⟨ad203, e203, hx203_0, hx203_1, hx203_2, hx203_3, hx203_4⟩ := at_T52 HR202_0.out x9_1 p203 q203
   cases e203
   replace hx203_0 := up HB.out hx203_0
   replace hx203_1 := up HB.out hx203_1
   replace hx203_2 := up HB.out hx203_2
   replace hx203_3 := up HB.out hx203_3
   replace hx203_4 := up HB.out hx203_4
   replace p203 := eq_true p203
   replace q203 := eq_true q203
   go_wp2_with (first | (refine bx 10 #[.int .i64 0, .int .i64 0, .int .i64 0, .int .i64 0, .int .i64 0] 52 rfl ?_; intro gb204 hg w27 hbox hb; replace HO_5 := am (Kd.R_below (pr HO_5.out) hb); have BK204 := am (hbox); have GW204 := am (ge hg (bg1 HB.out GE195.out)); have GE204 := GW204; replace HB := am (below_step (bg1 HB.out GE195.out) hb); have NB195_204 := am (nb hg (pb BK195.out)); have NB204_195 := am (Ne.symm NB195_204.out); replace BK195 := am (blk_below (pb BK195.out) hb); clear hb hbox hg; have hnb28 := NB204_195.out; have hnc28 := NB195_204.out; obtain ⟨hcz29_0, hcz29_1, hcz29_2, hcz29_3, hcz29_4⟩ := b5 BK204.out; obtain ⟨hfz29_0, hfz29_1, hfz29_2, hfz29_3, hfz29_4⟩ := f5 BK204.out; obtain ⟨hcz30_0, hcz30_1⟩ := b2 BK195.out; obtain ⟨hfz30_0, hfz30_1⟩ := f2 BK195.out) | (refine gl 40 Try.func60 #[.slice (some ad202) l0_0.length c0_0, .agg #[.int .i64 ((rd_T52 ((rd_T60 l0_0 t201).f0) x9_1).f0), .int .i64 ((rd_T52 ((rd_T60 l0_0 t201).f0) x9_1).f1.f0), .int .i64 ((rd_T52 ((rd_T60 l0_0 t201).f0) x9_1).f1.f1), .int .i64 ((rd_T52 ((rd_T60 l0_0 t201).f0) x9_1).f1.f2), .int .i64 ((rd_T52 ((rd_T60 l0_0 t201).f0) x9_1).f1.f3)]] rfl ?_; (with_reducible refine (spec_l3Live.calls k1 _ _ l0_0 ((rd_T52 ((rd_T60 l0_0 t201).f0) x9_1).f0) ((rd_T52 ((rd_T60 l0_0 t201).f0) x9_1).f1.f0) ((rd_T52 ((rd_T60 l0_0 t201).f0) x9_1).f1.f1) ((rd_T52 ((rd_T60 l0_0 t201).f0) x9_1).f1.f2) ((rd_T52 ((rd_T60 l0_0 t201).f0) x9_1).f1.f3) true _ ?side1 ?side2 A22.out).mono ?_); (case side1 => exact Kd.C_below HR0_0.out (bg2 HB.out GE195.out GE204.out)); (case side2 => exact HC0_0.out); rintro e w31 ⟨rfl, hb⟩; refine ⟨_, rfl, ?_⟩; replace HO_5 := am (Kd.R_below (pr ((Kd.R_mono (Kd.R_far (p := ⟨gb204, 4, none⟩) (Kd.R_far (p := ⟨gb204, 3, none⟩) (Kd.R_far (p := ⟨gb204, 2, none⟩) (Kd.R_far (p := ⟨gb204, 1, none⟩) (Kd.R_far (p := ⟨gb204, 0, none⟩) (Kd.R_types HO_5.out BK204.out (by decide)) (fun _ hk => hk.2) (.int .i64 ((rd_T52 ((rd_T60 l0_0 t201).f0) x9_1).f0))) (fun _ hk => hk.2) (.int .i64 ((rd_T52 ((rd_T60 l0_0 t201).f0) x9_1).f1.f0))) (fun _ hk => hk.2) (.int .i64 ((rd_T52 ((rd_T60 l0_0 t201).f0) x9_1).f1.f1))) (fun _ hk => hk.2) (.int .i64 ((rd_T52 ((rd_T60 l0_0 t201).f0) x9_1).f1.f2))) (fun _ hk => hk.2) (.int .i64 ((rd_T52 ((rd_T60 l0_0 t201).f0) x9_1).f1.f3))) (fun _ h_ => h_.1)))) hb); replace BK195 := am (blk_below (bf5 (pb BK195.out) NB195_204.out) hb); replace BK204 := am (blk_below (bp5 (pb BK204.out)) hb); replace HB := am (below_step (bg2 HB.out GE195.out GE204.out) hb); clear hb; have hcz32_0 : w31.cell? ⟨gb204, 0, none⟩ = some (.int .i64 ((rd_T52 ((rd_T60 l0_0 t201).f0) x9_1).f0)) := (blk_cell BK204.out 0).trans rfl; have hcz32_1 : w31.cell? ⟨gb204, 1, none⟩ = some (.int .i64 ((rd_T52 ((rd_T60 l0_0 t201).f0) x9_1).f1.f0)) := (blk_cell BK204.out 1).trans rfl; have hcz32_2 : w31.cell? ⟨gb204, 2, none⟩ = some (.int .i64 ((rd_T52 ((rd_T60 l0_0 t201).f0) x9_1).f1.f1)) := (blk_cell BK204.out 2).trans rfl; have hcz32_3 : w31.cell? ⟨gb204, 3, none⟩ = some (.int .i64 ((rd_T52 ((rd_T60 l0_0 t201).f0) x9_1).f1.f2)) := (blk_cell BK204.out 3).trans rfl; have hcz32_4 : w31.cell? ⟨gb204, 4, none⟩ = some (.int .i64 ((rd_T52 ((rd_T60 l0_0 t201).f0) x9_1).f1.f3)) := (blk_cell BK204.out 4).trans rfl; obtain ⟨hfz32_0, hfz32_1, hfz32_2, hfz32_3, hfz32_4⟩ := f5 BK204.out) | ((with_reducible refine gate_builtin (b := .append) (xs := #[.tmp 47, .tmp 55]) rfl ?_); at_builtin; refine Kd.R_append k91 (w0 := w) w.heap.size rfl (.tmp 47) (.tmp 55) 83 91 (.agg #[(.int .i64 0), (.int .i64 0), (.int .i64 0), (.int .i64 0), (.int .i64 0), (.int .i64 0), (.int .i64 0), (.int .i64 0)]) 64 rfl Try.underlying83 info91 rfl (by decide) (by omega) u5 x5_1 (⟨1, (rd_T52 ((rd_T60 l0_0 t201).f0) x9_1).f1.f2, (rd_T52 ((rd_T60 l0_0 t201).f0) x9_1).f1.f3, 0, (⟨0, 0, 0, 0⟩ : S30)⟩ : S91) [.int .i64 1, .int .i64 ((rd_T52 ((rd_T60 l0_0 t201).f0) x9_1).f1.f2), .int .i64 ((rd_T52 ((rd_T60 l0_0 t201).f0) x9_1).f1.f3), .int .i64 0, .int .i64 0, .int .i64 0, .int .i64 0, .int .i64 0] (fun _ => True) (fun _ => False) rfl rfl ?aP (fun _ hk => hk.elim) ?aF ?aO ?aB ?aS ?aL ?_; (case aP => exact k91_mkM _ _ _ (⟨1, (rd_T52 ((rd_T60 l0_0 t201).f0) x9_1).f1.f2, (rd_T52 ((rd_T60 l0_0 t201).f0) x9_1).f1.f3, 0, (⟨0, 0, 0, 0⟩ : S30)⟩ : S91)); (case aB => exact (bg2 HB.out GE195.out GE204.out)); (case aF => exact (fun _ _ => trivial)); (case aO => exact (pr HO_5.out)); (case aS => exact (below_size (bg2 HB.out GE195.out GE204.out))); (case aL => have := LMc25.out; omega); intro v207 w33 ho hb hg hat; rw [← Ny206.out] at ho; replace BK195 := am (blk_grown (g := gb195) (o := .cells #[.slice (some ad202) l0_0.length c0_0, .slice A0_1 l0_1.length c0_1] 26 (0, 0)) (pb BK195.out) hg (Kd.R_ne HO_5.out BK195.out (by decide))); replace BK204 := am (blk_grown (g := gb204) (o := .cells #[.int .i64 ((rd_T52 ((rd_T60 l0_0 t201).f0) x9_1).f0), .int .i64 ((rd_T52 ((rd_T60 l0_0 t201).f0) x9_1).f1.f0), .int .i64 ((rd_T52 ((rd_T60 l0_0 t201).f0) x9_1).f1.f1), .int .i64 ((rd_T52 ((rd_T60 l0_0 t201).f0) x9_1).f1.f2), .int .i64 ((rd_T52 ((rd_T60 l0_0 t201).f0) x9_1).f1.f3)] 52 (0, 0)) (pb BK204.out) hg (Kd.R_ne HO_5.out BK204.out (by decide))); replace HB := am (hb); have HO208 := am (ho); clear HO_5; clear ho hb hg hat))
   go_roundg k1
   case measure => have := HK1.out; omega
   case rel => exact ⟨(y206), (wrap64 (x9_1 + 1)), rf, H', ⟨by have := HK1.out; omega⟩, ⟨pr HO208.out⟩, ⟨pb BK195.out⟩, ⟨bg2 HB.out GE195.out GE204.out⟩⟩
end Go.Proofs.Ytcfpddgfhkaboaa.Rz
