-- printed by wip/pp/pp.py
import Derived.Test.YtfijfkbdedcnfaaR40
import Derived.Test.YtfijfkbdedcnfaaR43
namespace Go.Proofs.Ytfijfkbdedcnfaa.R4
open Go.RowKit Go.Proofs.YtfijfkbdedcnfaaW.PrintWords Go.Proofs.YtfijfkbdedcnfaaW.PrintLast Go.Proofs.YtfijfkbdedcnfaaW.PrintMore
attribute [local go_sem] max2_int min2_int max_two min_two max_three min_three max_four min_four
set_option linter.unusedVariables false
set_option linter.unusedSimpArgs false
mutual
def spec_l3Last.l0 : Nat → List (S33) → Int → Int → Int → Int → Int → Int → Option (Int × Int × Int × Int × Bool)
 | 0, _, _, _, _, _, _, _ => none
 | k + 1, x0, x1, x7, x187000, x187001, x187002, x187003 => if x7 < (x0.length : Int) then (spec_l3Last.l1 k x0 x1 x7 0 x187000 x187001 x187002 x187003) else (some (x187000, x187001, x187002, x187003, decide (x187001 > 0)))
def spec_l3Last.l1 : Nat → List (S33) → Int → Int → Int → Int → Int → Int → Int → Option (Int × Int × Int × Int × Bool)
 | 0, _, _, _, _, _, _, _, _ => none
 | k + 1, x0, x1, x7, x8, x187000, x187001, x187002, x187003 => if 0 ≤ x7 then (if x7 < (x0.length : Int) then (if x8 < (((rd_T33 x0 x7).f0).length : Int) then (if 0 ≤ x8 then (if ((rd_T30 ((rd_T33 x0 x7).f0) x8).f0) = 1 then (if ((rd_T30 ((rd_T33 x0 x7).f0) x8).f1.f2) = x1 then (if ((rd_T30 ((rd_T33 x0 x7).f0) x8).f1.f1) > x187001 then (spec_l3Last.l1 k x0 x1 x7 (wrap64 (x8 + 1)) ((rd_T30 ((rd_T33 x0 x7).f0) x8).f1.f0) ((rd_T30 ((rd_T33 x0 x7).f0) x8).f1.f1) ((rd_T30 ((rd_T33 x0 x7).f0) x8).f1.f2) ((rd_T30 ((rd_T33 x0 x7).f0) x8).f1.f3)) else (spec_l3Last.l1 k x0 x1 x7 (wrap64 (x8 + 1)) x187000 x187001 x187002 x187003)) else (spec_l3Last.l1 k x0 x1 x7 (wrap64 (x8 + 1)) x187000 x187001 x187002 x187003)) else (spec_l3Last.l1 k x0 x1 x7 (wrap64 (x8 + 1)) x187000 x187001 x187002 x187003)) else (none)) else (spec_l3Last.l0 k x0 x1 (wrap64 (x7 + 1)) x187000 x187001 x187002 x187003)) else (none)) else (none)
end
def spec_l3Last.f (k : Nat) (l0 : List (S33)) (a1 : Int) : Option (Int × Int × Int × Int × Bool) := spec_l3Last.l0 k l0 a1 0 0 0 0 0
theorem spec_l3Last.mono_l : ∀ k, (∀ y0 y1 y2 y3 y4 y5 y6, LeO (spec_l3Last.l0 k y0 y1 y2 y3 y4 y5 y6) (spec_l3Last.l0 (k + 1) y0 y1 y2 y3 y4 y5 y6)) ∧ (∀ y0 y1 y2 y3 y4 y5 y6 y7, LeO (spec_l3Last.l1 k y0 y1 y2 y3 y4 y5 y6 y7) (spec_l3Last.l1 (k + 1) y0 y1 y2 y3 y4 y5 y6 y7))
 | 0 => ⟨fun _ _ _ _ _ _ _ r h => by simp [spec_l3Last.l0] at h, fun _ _ _ _ _ _ _ _ r h => by simp [spec_l3Last.l1] at h⟩
 | k + 1 => by
  obtain ⟨ih0, ih1⟩ := spec_l3Last.mono_l k
  refine ⟨?_, ?_⟩
  · intro y0 y1 y2 y3 y4 y5 y6
    unfold spec_l3Last.l0
    with_reducible repeat' first | exact ih0 _ _ _ _ _ _ _ | exact ih1 _ _ _ _ _ _ _ _ | exact LeO.refl _ | exact LeO.none _ | refine LeO.ite ?_ ?_ | refine LeO.bind ?_ (fun _ => ?_)
  · intro y0 y1 y2 y3 y4 y5 y6 y7
    unfold spec_l3Last.l1
    with_reducible repeat' first | exact ih0 _ _ _ _ _ _ _ | exact ih1 _ _ _ _ _ _ _ _ | exact LeO.refl _ | exact LeO.none _ | refine LeO.ite ?_ ?_ | refine LeO.bind ?_ (fun _ => ?_)
theorem spec_l3Last.mono : ∀ a0 a1 k, LeO (spec_l3Last.f k a0 a1) (spec_l3Last.f (k + 1) a0 a1) := by
 intro a0 a1 k
 obtain ⟨ih0, ih1⟩ := spec_l3Last.mono_l k
 unfold spec_l3Last.f
 with_reducible repeat' first | exact ih0 _ _ _ _ _ _ _ | exact ih1 _ _ _ _ _ _ _ _ | exact LeO.refl _ | exact LeO.none _ | refine LeO.ite ?_ ?_ | refine LeO.bind ?_ (fun _ => ?_)
set_option maxHeartbeats 8000000 in
set_option maxRecDepth 100000 in
theorem spec_l3Last.calls (k : Nat) (A0 : Option Addr) (c0 : Nat) (l0 : List (S33)) (a1 : Int) (r1 : Int) (r2 : Int) (r3 : Int) (r4 : Int) (r5 : Bool) (w : World) (hr0 : Kd.C k33 w A0 l0.length l0) (hc0 : l0.length ≤ c0) (h : spec_l3Last.f k l0 a1 = some (r1, r2, r3, r4, r5)) :
 Calls Try.prog 41 #[.slice A0 l0.length c0, .int .i64 a1] w fun e w' => e = .returned (.tuple #[.agg #[.int .i64 r1, .int .i64 r2, .int .i64 r3, .int .i64 r4], .bool r5]) ∧ Below w.heap.size w w' := by
 have hu28 := Try.underlying28
 have hu30 := Try.underlying30
 have HR0 := am hr0
 have HC0 := am hc0
 clear hr0 hc0
 have HB := am (Below.refl w.heap.size w)
 have H : (spec_l3Last.l0 k l0 a1 0 0 0 0 0) = some (r1, r2, r3, r4, r5) := h
 clear h
 have H' := am H
 clear H
 go_enter Try.func41, Try.ntmps41
 go_wp2_with (first | (refine bx 4 #[.int .i64 0, .int .i64 0, .int .i64 0, .int .i64 0] 28 rfl ?_; intro gb185 hg w3 hbox hb; have BK185 := am (hbox); have GW185 := am (ge hg (ph HB.out)); have GE185 := GW185; replace HB := am (below_step (ph HB.out) hb); clear hb hbox hg) | (refine bx 6 #[.int .i64 0, .int .i64 0, .int .i64 0, .int .i64 0] 28 rfl ?_; intro gb186 hg w4 hbox hb; have BK186 := am (hbox); have GW186 := am (ge hg (bg1 HB.out GE185.out)); have GE186 := GW186; replace HB := am (below_step (bg1 HB.out GE185.out) hb); have NB185_186 := am (nb hg (pb BK185.out)); have NB186_185 := am (Ne.symm NB185_186.out); replace BK185 := am (blk_below (pb BK185.out) hb); clear hb hbox hg; have hnb5 := NB186_185.out; have hnc5 := NB185_186.out; obtain ⟨hcz6_0, hcz6_1, hcz6_2, hcz6_3⟩ := b4 BK186.out; obtain ⟨hfz6_0, hfz6_1, hfz6_2, hfz6_3⟩ := f4 BK186.out))
 go_loopg [7] k (fun kq v7 w' => ∃ (x7_1 : Int) (x187000_1 : Int) (x187001_1 : Int) (x187002_1 : Int) (x187003_1 : Int), v7 = .int .i64 x7_1 ∧ Aside0 (spec_l3Last.l0 kq l0 a1 x7_1 x187000_1 x187001_1 x187002_1 x187003_1 = some (r1, r2, r3, r4, r5)) ∧ Aside0 (kq ≤ k) ∧ Aside0 (w'.heap[gb185]? = some (.cells #[.int .i64 0, .int .i64 0, .int .i64 0, .int .i64 0] 28 (0, 0))) ∧ Aside0 (w'.heap[gb186]? = some (.cells #[.int .i64 x187000_1, .int .i64 x187001_1, .int .i64 x187002_1, .int .i64 x187003_1] 28 (0, 0))) ∧ Aside0 (Below w.heap.size w w'))
 case atStart => exact ⟨(0), (0), (0), (0), (0), rf, H', ⟨Nat.le_refl _⟩, ⟨bf4 (pb BK185.out) NB185_186.out⟩, ⟨bp4 (pb BK186.out)⟩, ⟨bg2 HB.out GE185.out GE186.out⟩⟩
 case round =>
  clear H'
  obtain ⟨x7_1, x187000_1, x187001_1, x187002_1, x187003_1, rfl, HA, HK1, BK185, BK186, HB⟩ := hrel
  cases gk with
  | zero => exact absurd HA.out (by simp [spec_l3Last.l0])
  | succ k1 =>
   have H := HA.out
   clear HA
   simp only [spec_l3Last.l0] at H
   by_cases c7 : x7_1 < (l0.length : Int)
   rotate_left
   · rw [if_neg c7] at H
     have c7b0 := decide_eq_false c7
     clear c7
     simp only [Option.some.injEq, Prod.mk.injEq] at H
     obtain ⟨rfl, rfl, rfl, rfl, rfl⟩ := H
     try go_wp2
     replace BK185 := am (blk_drew BK185.out)
     replace BK186 := am (blk_drew BK186.out)
     replace HB := am (below_drew1 HB.out)
     refine start_ (n := 6) (S := fun w' => w'.cell? ⟨gb186, 0, none⟩ = some (.int .i64 x187000_1) ∧ w'.cell? ⟨gb186, 1, none⟩ = some (.int .i64 x187001_1) ∧ w'.cell? ⟨gb186, 2, none⟩ = some (.int .i64 x187002_1) ∧ w'.cell? ⟨gb186, 3, none⟩ = some (.int .i64 x187003_1)) (ds := []) (bt 6 0) (by kernel_rfl) rfl rfl ⟨(blk_cell BK186.out 0).trans rfl, (blk_cell BK186.out 1).trans rfl, (blk_cell BK186.out 2).trans rfl, (blk_cell BK186.out 3).trans rfl⟩ (fun hHeld => ?_)
     generalize wr.drew = w35 at BK185 BK186 HB hHeld ⊢
     refine pi_ 1 56 (bt 6 2) rfl rfl (fun _ _ _ h => h) ?_
     refine pm_ 0 55 (bt 6 3) rfl rfl (by kernel_rfl) (fun _ _ _ h => h) hHeld ?_
     refine pm_ 2 57 (bt 6 7) rfl rfl (by kernel_rfl) (fun _ _ _ h => h) hHeld ?_
     refine pi_ 3 58 (bt 6 15) rfl rfl (fun _ _ _ h => h) ?_
     refine one_ (i := 4) (N := none) (bt 6 31) rfl rfl (by kernel_rfl) (by decide) (fun K hK => ?_)
     have hs36 : w35.cell? ⟨gb185, 0, none⟩ = some (.int .i64 0) := (blk_cell BK185.out 0).trans rfl
     have hfs36 := blk_frozen BK185.out 0
     have hns36_1 := NB186_185.out
     have hms36_1 := NB185_186.out
     have hs37 : w35.cell? ⟨gb185, 1, none⟩ = some (.int .i64 0) := (blk_cell BK185.out 1).trans rfl
     have hfs37 := blk_frozen BK185.out 1
     have hns37_1 := NB186_185.out
     have hms37_1 := NB185_186.out
     have hs38 : w35.cell? ⟨gb185, 2, none⟩ = some (.int .i64 0) := (blk_cell BK185.out 2).trans rfl
     have hfs38 := blk_frozen BK185.out 2
     have hns38_1 := NB186_185.out
     have hms38_1 := NB185_186.out
     have hs39 : w35.cell? ⟨gb185, 3, none⟩ = some (.int .i64 0) := (blk_cell BK185.out 3).trans rfl
     have hfs39 := blk_frozen BK185.out 3
     have hns39_1 := NB186_185.out
     have hms39_1 := NB185_186.out
     refine qs rfl ?_
     refine hK.out _ _ ⟨((cell_far (p := ⟨gb185, _, none⟩) NB186_185.out _).trans (((cell_far (p := ⟨gb185, _, none⟩) NB186_185.out _).trans (((cell_far (p := ⟨gb185, _, none⟩) NB186_185.out _).trans (((cell_far (p := ⟨gb185, _, none⟩) NB186_185.out _).trans (hHeld.1)))))))), ((cell_far (p := ⟨gb185, _, none⟩) NB186_185.out _).trans (((cell_far (p := ⟨gb185, _, none⟩) NB186_185.out _).trans (((cell_far (p := ⟨gb185, _, none⟩) NB186_185.out _).trans (((cell_far (p := ⟨gb185, _, none⟩) NB186_185.out _).trans (hHeld.2.1)))))))), ((cell_far (p := ⟨gb185, _, none⟩) NB186_185.out _).trans (((cell_far (p := ⟨gb185, _, none⟩) NB186_185.out _).trans (((cell_far (p := ⟨gb185, _, none⟩) NB186_185.out _).trans (((cell_far (p := ⟨gb185, _, none⟩) NB186_185.out _).trans (hHeld.2.2.1)))))))), ((cell_far (p := ⟨gb185, _, none⟩) NB186_185.out _).trans (((cell_far (p := ⟨gb185, _, none⟩) NB186_185.out _).trans (((cell_far (p := ⟨gb185, _, none⟩) NB186_185.out _).trans (((cell_far (p := ⟨gb185, _, none⟩) NB186_185.out _).trans (hHeld.2.2.2))))))))⟩ (fun hHeld => ?_)
     clear hK K
     refine pi_ 5 5 (bt 6 63) rfl rfl (fun _ _ _ h => h) ?_
     refine done_ (by kernel_rfl) ?_
     try go_wp2
     refine bodyPost_ret (results_ct rfl _ _ gb185 28 #[.int .i64 x187000_1, .int .i64 x187001_1, .int .i64 x187002_1, .int .i64 x187003_1] (0, 0) _ rfl (bp4 (pb BK185.out)) Try.underlying28 rfl (by kernel_rfl)) rfl ?_
     exact (rq (bg2 HB.out GE185.out GE186.out))
   rw [if_pos c7] at H
   have c7b0 := decide_eq_true c7
   clear c7
   have H' := am H
   clear H
   go_wp2
   go_loopg [8] k1 (fun kq v8 w' => ∃ (x8_2 : Int) (x187000_2 : Int) (x187001_2 : Int) (x187002_2 : Int) (x187003_2 : Int), v8 = .int .i64 x8_2 ∧ Aside0 (spec_l3Last.l1 kq l0 a1 x7_1 x8_2 x187000_2 x187001_2 x187002_2 x187003_2 = some (r1, r2, r3, r4, r5)) ∧ Aside0 (kq ≤ k1) ∧ Aside0 (w'.heap[gb185]? = some (.cells #[.int .i64 0, .int .i64 0, .int .i64 0, .int .i64 0] 28 (0, 0))) ∧ Aside0 (w'.heap[gb186]? = some (.cells #[.int .i64 x187000_2, .int .i64 x187001_2, .int .i64 x187002_2, .int .i64 x187003_2] 28 (0, 0))) ∧ Aside0 (Below w.heap.size w w'))
   case atStart => exact ⟨(0), (x187000_1), (x187001_1), (x187002_1), (x187003_1), rf, H', ⟨Nat.le_refl _⟩, ⟨pb BK185.out⟩, ⟨pb BK186.out⟩, ⟨bg2 HB.out GE185.out GE186.out⟩⟩
   case round =>
    clear H'
    obtain ⟨x8_2, x187000_2, x187001_2, x187002_2, x187003_2, rfl, HA, HK2, BK185, BK186, HB⟩ := hrel
    cases gk with
    | zero => exact absurd HA.out (by simp [spec_l3Last.l1])
    | succ k2 =>
     have H := HA.out
     clear HA
     simp only [spec_l3Last.l1] at H
     obtain ⟨c8b0, H⟩ := ifd H
     obtain ⟨c9b0, H⟩ := ifd H
     by_cases c10 : x8_2 < (((rd_T33 l0 x7_1).f0).length : Int)
     rotate_left
     · rw [if_neg c10] at H
       have c10b0 := decide_eq_false c10
       clear c10
       have H' := am H
       clear H
       have p187 : 0 ≤ (x7_1 : Int) := ofb
       have q187 : x7_1 < (l0.length : Int) := ofb
       obtain ⟨ad187, A187_0, c187_0, e187, hx187_0, hx187_1, hl187_0, hi187_0⟩ := at_T33 HR0.out x7_1 p187 q187
       cases e187
       replace hx187_0 := up HB.out hx187_0
       replace hx187_1 := up HB.out hx187_1
       have HR187_0 := am hi187_0
       have HC187_0 := am hl187_0
       clear hi187_0 hl187_0
       replace p187 := eq_true p187
       replace q187 := eq_true q187
       go_wp2
       go_roundg k2
       case measure => have := HK1.out; have := HK2.out; omega
       case rel => exact ⟨(wrap64 (x7_1 + 1)), (x187000_2), (x187001_2), (x187002_2), (x187003_2), rf, H', ⟨by have := HK1.out; have := HK2.out; omega⟩, ⟨pb BK185.out⟩, ⟨pb BK186.out⟩, ⟨bg2 HB.out GE185.out GE186.out⟩⟩
     rw [if_pos c10] at H
     have c10b0 := decide_eq_true c10
     clear c10
     obtain ⟨c11b0, H⟩ := ifd H
     by_cases c12 : ((rd_T30 ((rd_T33 l0 x7_1).f0) x8_2).f0) = 1
     rotate_left
     · rw [if_neg c12] at H
       have c12b0 : (((rd_T30 ((rd_T33 l0 x7_1).f0) x8_2).f0) == 1) = false := beq_eq_false_iff_ne.mpr c12
       have c12b1 : (((rd_T30 ((rd_T33 l0 x7_1).f0) x8_2).f0) != 1) = true := bne_iff_ne.mpr c12
       have H' := am H
       clear H
       have p187 : 0 ≤ (x7_1 : Int) := ofb
       have q187 : x7_1 < (l0.length : Int) := ofb
       obtain ⟨ad187, A187_0, c187_0, e187, hx187_0, hx187_1, hl187_0, hi187_0⟩ := at_T33 HR0.out x7_1 p187 q187
       cases e187
       replace hx187_0 := up HB.out hx187_0
       replace hx187_1 := up HB.out hx187_1
       have HR187_0 := am hi187_0
       have HC187_0 := am hl187_0
       clear hi187_0 hl187_0
       replace p187 := eq_true p187
       replace q187 := eq_true q187
       have p188 : 0 ≤ (x7_1 : Int) := ofb
       have q188 : x7_1 < (l0.length : Int) := ofb
       obtain ⟨ad188, A188_0, c188_0, e188, hx188_0, hx188_1, hl188_0, hi188_0⟩ := at_T33 HR0.out x7_1 p188 q188
       obtain rfl : ad187 = ad188 := (by injection e188)
       replace hx188_0 := up HB.out hx188_0
       replace hx188_1 := up HB.out hx188_1
       have HR188_0 := am hi188_0
       have HC188_0 := am hl188_0
       clear hi188_0 hl188_0
       replace p188 := eq_true p188
       replace q188 := eq_true q188
       have ea_ := Option.some.inj (hx187_0.symm.trans hx188_0)
       injection ea_ with ea_ en_ ec_
       subst ea_
       subst ec_
       clear en_
       have p189 : 0 ≤ (x8_2 : Int) := ofb
       have q189 : x8_2 < (((rd_T33 l0 x7_1).f0).length : Int) := ofb
       obtain ⟨ad189, e189, hx189_0, hx189_1, hx189_2, hx189_3, hx189_4⟩ := at_T30 HR188_0.out x8_2 p189 q189
       cases e189
       replace hx189_0 := up HB.out hx189_0
       replace hx189_1 := up HB.out hx189_1
       replace hx189_2 := up HB.out hx189_2
       replace hx189_3 := up HB.out hx189_3
       replace hx189_4 := up HB.out hx189_4
       replace p189 := eq_true p189
       replace q189 := eq_true q189
       go_wp2_with (first | (refine bx 9 #[.int .i64 0, .int .i64 0, .int .i64 0, .int .i64 0, .int .i64 0] 30 rfl ?_; intro gb190 hg w31 hbox hb; have BK190 := am (hbox); have GW190 := am (ge hg (bg2 HB.out GE185.out GE186.out)); have GE190 := GW190; replace HB := am (below_step (bg2 HB.out GE185.out GE186.out) hb); have NB185_190 := am (nb hg (pb BK185.out)); have NB190_185 := am (Ne.symm NB185_190.out); replace BK185 := am (blk_below (pb BK185.out) hb); have NB186_190 := am (nb hg (pb BK186.out)); have NB190_186 := am (Ne.symm NB186_190.out); replace BK186 := am (blk_below (pb BK186.out) hb); clear hb hbox hg; have hnb32 := NB190_185.out; have hnc32 := NB185_190.out; have hnb33 := NB190_186.out; have hnc33 := NB186_190.out; obtain ⟨hcz34_0, hcz34_1, hcz34_2, hcz34_3, hcz34_4⟩ := b5 BK190.out; obtain ⟨hfz34_0, hfz34_1, hfz34_2, hfz34_3, hfz34_4⟩ := f5 BK190.out))
       go_roundg k2
       case measure => have := HK1.out; have := HK2.out; omega
       case rel => exact ⟨(wrap64 (x8_2 + 1)), (x187000_2), (x187001_2), (x187002_2), (x187003_2), rf, H', ⟨by have := HK1.out; have := HK2.out; omega⟩, ⟨bf5 (pb BK185.out) NB185_190.out⟩, ⟨bf5 (pb BK186.out) NB186_190.out⟩, ⟨bg3 HB.out GE185.out GE186.out GE190.out⟩⟩
     rw [if_pos c12] at H
     have c12b0 : (((rd_T30 ((rd_T33 l0 x7_1).f0) x8_2).f0) == 1) = true := beq_iff_eq.mpr c12
     have c12b1 : (((rd_T30 ((rd_T33 l0 x7_1).f0) x8_2).f0) != 1) = false := bne_eq_false_iff_eq.mpr c12
     clear c12
     by_cases c13 : ((rd_T30 ((rd_T33 l0 x7_1).f0) x8_2).f1.f2) = a1
     rotate_left
     · rw [if_neg c13] at H
       have c13b0 : (((rd_T30 ((rd_T33 l0 x7_1).f0) x8_2).f1.f2) == a1) = false := beq_eq_false_iff_ne.mpr c13
       have c13b1 : (((rd_T30 ((rd_T33 l0 x7_1).f0) x8_2).f1.f2) != a1) = true := bne_iff_ne.mpr c13
       have H' := am H
       clear H
       have p187 : 0 ≤ (x7_1 : Int) := ofb
       have q187 : x7_1 < (l0.length : Int) := ofb
       obtain ⟨ad187, A187_0, c187_0, e187, hx187_0, hx187_1, hl187_0, hi187_0⟩ := at_T33 HR0.out x7_1 p187 q187
       cases e187
       replace hx187_0 := up HB.out hx187_0
       replace hx187_1 := up HB.out hx187_1
       have HR187_0 := am hi187_0
       have HC187_0 := am hl187_0
       clear hi187_0 hl187_0
       replace p187 := eq_true p187
       replace q187 := eq_true q187
       have p188 : 0 ≤ (x7_1 : Int) := ofb
       have q188 : x7_1 < (l0.length : Int) := ofb
       obtain ⟨ad188, A188_0, c188_0, e188, hx188_0, hx188_1, hl188_0, hi188_0⟩ := at_T33 HR0.out x7_1 p188 q188
       obtain rfl : ad187 = ad188 := (by injection e188)
       replace hx188_0 := up HB.out hx188_0
       replace hx188_1 := up HB.out hx188_1
       have HR188_0 := am hi188_0
       have HC188_0 := am hl188_0
       clear hi188_0 hl188_0
       replace p188 := eq_true p188
       replace q188 := eq_true q188
       have ea_ := Option.some.inj (hx187_0.symm.trans hx188_0)
       injection ea_ with ea_ en_ ec_
       subst ea_
       subst ec_
       clear en_
       have p189 : 0 ≤ (x8_2 : Int) := ofb
       have q189 : x8_2 < (((rd_T33 l0 x7_1).f0).length : Int) := ofb
       obtain ⟨ad189, e189, hx189_0, hx189_1, hx189_2, hx189_3, hx189_4⟩ := at_T30 HR188_0.out x8_2 p189 q189
       cases e189
       replace hx189_0 := up HB.out hx189_0
       replace hx189_1 := up HB.out hx189_1
       replace hx189_2 := up HB.out hx189_2
       replace hx189_3 := up HB.out hx189_3
       replace hx189_4 := up HB.out hx189_4
       replace p189 := eq_true p189
       replace q189 := eq_true q189
       go_wp2_with (first | (refine bx 9 #[.int .i64 0, .int .i64 0, .int .i64 0, .int .i64 0, .int .i64 0] 30 rfl ?_; intro gb190 hg w27 hbox hb; have BK190 := am (hbox); have GW190 := am (ge hg (bg2 HB.out GE185.out GE186.out)); have GE190 := GW190; replace HB := am (below_step (bg2 HB.out GE185.out GE186.out) hb); have NB185_190 := am (nb hg (pb BK185.out)); have NB190_185 := am (Ne.symm NB185_190.out); replace BK185 := am (blk_below (pb BK185.out) hb); have NB186_190 := am (nb hg (pb BK186.out)); have NB190_186 := am (Ne.symm NB186_190.out); replace BK186 := am (blk_below (pb BK186.out) hb); clear hb hbox hg; have hnb28 := NB190_185.out; have hnc28 := NB185_190.out; have hnb29 := NB190_186.out; have hnc29 := NB186_190.out; obtain ⟨hcz30_0, hcz30_1, hcz30_2, hcz30_3, hcz30_4⟩ := b5 BK190.out; obtain ⟨hfz30_0, hfz30_1, hfz30_2, hfz30_3, hfz30_4⟩ := f5 BK190.out))
       go_roundg k2
       case measure => have := HK1.out; have := HK2.out; omega
       case rel => exact ⟨(wrap64 (x8_2 + 1)), (x187000_2), (x187001_2), (x187002_2), (x187003_2), rf, H', ⟨by have := HK1.out; have := HK2.out; omega⟩, ⟨bf5 (pb BK185.out) NB185_190.out⟩, ⟨bf5 (pb BK186.out) NB186_190.out⟩, ⟨bg3 HB.out GE185.out GE186.out GE190.out⟩⟩
     rw [if_pos c13] at H
     have c13b0 : (((rd_T30 ((rd_T33 l0 x7_1).f0) x8_2).f1.f2) == a1) = true := beq_iff_eq.mpr c13
     have c13b1 : (((rd_T30 ((rd_T33 l0 x7_1).f0) x8_2).f1.f2) != a1) = false := bne_eq_false_iff_eq.mpr c13
     clear c13
     by_cases c14 : ((rd_T30 ((rd_T33 l0 x7_1).f0) x8_2).f1.f1) > x187001_2
     rotate_left
     · rw [if_neg c14] at H
       have c14b0 := decide_eq_false c14
       clear c14
       have H' := am H
       clear H
       have p187 : 0 ≤ (x7_1 : Int) := ofb
       have q187 : x7_1 < (l0.length : Int) := ofb
       obtain ⟨ad187, A187_0, c187_0, e187, hx187_0, hx187_1, hl187_0, hi187_0⟩ := at_T33 HR0.out x7_1 p187 q187
       cases e187
       replace hx187_0 := up HB.out hx187_0
       replace hx187_1 := up HB.out hx187_1
       have HR187_0 := am hi187_0
       have HC187_0 := am hl187_0
       clear hi187_0 hl187_0
       replace p187 := eq_true p187
       replace q187 := eq_true q187
       have p188 : 0 ≤ (x7_1 : Int) := ofb
       have q188 : x7_1 < (l0.length : Int) := ofb
       obtain ⟨ad188, A188_0, c188_0, e188, hx188_0, hx188_1, hl188_0, hi188_0⟩ := at_T33 HR0.out x7_1 p188 q188
       obtain rfl : ad187 = ad188 := (by injection e188)
       replace hx188_0 := up HB.out hx188_0
       replace hx188_1 := up HB.out hx188_1
       have HR188_0 := am hi188_0
       have HC188_0 := am hl188_0
       clear hi188_0 hl188_0
       replace p188 := eq_true p188
       replace q188 := eq_true q188
       have ea_ := Option.some.inj (hx187_0.symm.trans hx188_0)
       injection ea_ with ea_ en_ ec_
       subst ea_
       subst ec_
       clear en_
       have p189 : 0 ≤ (x8_2 : Int) := ofb
       have q189 : x8_2 < (((rd_T33 l0 x7_1).f0).length : Int) := ofb
       obtain ⟨ad189, e189, hx189_0, hx189_1, hx189_2, hx189_3, hx189_4⟩ := at_T30 HR188_0.out x8_2 p189 q189
       cases e189
       replace hx189_0 := up HB.out hx189_0
       replace hx189_1 := up HB.out hx189_1
       replace hx189_2 := up HB.out hx189_2
       replace hx189_3 := up HB.out hx189_3
       replace hx189_4 := up HB.out hx189_4
       replace p189 := eq_true p189
       replace q189 := eq_true q189
       go_wp2_with (first | (refine bx 9 #[.int .i64 0, .int .i64 0, .int .i64 0, .int .i64 0, .int .i64 0] 30 rfl ?_; intro gb190 hg w21 hbox hb; have BK190 := am (hbox); have GW190 := am (ge hg (bg2 HB.out GE185.out GE186.out)); have GE190 := GW190; replace HB := am (below_step (bg2 HB.out GE185.out GE186.out) hb); have NB185_190 := am (nb hg (pb BK185.out)); have NB190_185 := am (Ne.symm NB185_190.out); replace BK185 := am (blk_below (pb BK185.out) hb); have NB186_190 := am (nb hg (pb BK186.out)); have NB190_186 := am (Ne.symm NB186_190.out); replace BK186 := am (blk_below (pb BK186.out) hb); clear hb hbox hg; have hnb22 := NB190_185.out; have hnc22 := NB185_190.out; have hnb23 := NB190_186.out; have hnc23 := NB186_190.out; obtain ⟨hcz24_0, hcz24_1, hcz24_2, hcz24_3, hcz24_4⟩ := b5 BK190.out; obtain ⟨hfz24_0, hfz24_1, hfz24_2, hfz24_3, hfz24_4⟩ := f5 BK190.out; have hnb25 := NB186_185.out; have hnc25 := NB185_186.out; obtain ⟨hcz26_0, hcz26_1, hcz26_2, hcz26_3⟩ := b4 BK186.out; obtain ⟨hfz26_0, hfz26_1, hfz26_2, hfz26_3⟩ := f4 BK186.out))
       go_roundg k2
       case measure => have := HK1.out; have := HK2.out; omega
       case rel => exact ⟨(wrap64 (x8_2 + 1)), (x187000_2), (x187001_2), (x187002_2), (x187003_2), rf, H', ⟨by have := HK1.out; have := HK2.out; omega⟩, ⟨bf5 (pb BK185.out) NB185_190.out⟩, ⟨bf5 (pb BK186.out) NB186_190.out⟩, ⟨bg3 HB.out GE185.out GE186.out GE190.out⟩⟩
     rw [if_pos c14] at H
     have c14b0 := decide_eq_true c14
     clear c14
     have H' := am H
     clear H
     have p187 : 0 ≤ (x7_1 : Int) := ofb
     have q187 : x7_1 < (l0.length : Int) := ofb
     obtain ⟨ad187, A187_0, c187_0, e187, hx187_0, hx187_1, hl187_0, hi187_0⟩ := at_T33 HR0.out x7_1 p187 q187
     cases e187
     replace hx187_0 := up HB.out hx187_0
     replace hx187_1 := up HB.out hx187_1
     have HR187_0 := am hi187_0
     have HC187_0 := am hl187_0
     clear hi187_0 hl187_0
     replace p187 := eq_true p187
     replace q187 := eq_true q187
     have p188 : 0 ≤ (x7_1 : Int) := ofb
     have q188 : x7_1 < (l0.length : Int) := ofb
     obtain ⟨ad188, A188_0, c188_0, e188, hx188_0, hx188_1, hl188_0, hi188_0⟩ := at_T33 HR0.out x7_1 p188 q188
     obtain rfl : ad187 = ad188 := (by injection e188)
     replace hx188_0 := up HB.out hx188_0
     replace hx188_1 := up HB.out hx188_1
     have HR188_0 := am hi188_0
     have HC188_0 := am hl188_0
     clear hi188_0 hl188_0
     replace p188 := eq_true p188
     replace q188 := eq_true q188
     have ea_ := Option.some.inj (hx187_0.symm.trans hx188_0)
     injection ea_ with ea_ en_ ec_
     subst ea_
     subst ec_
     clear en_
     have p189 : 0 ≤ (x8_2 : Int) := ofb
     have q189 : x8_2 < (((rd_T33 l0 x7_1).f0).length : Int) := ofb
     obtain ⟨ad189, e189, hx189_0, hx189_1, hx189_2, hx189_3, hx189_4⟩ := at_T30 HR188_0.out x8_2 p189 q189
     cases e189
     replace hx189_0 := up HB.out hx189_0
     replace hx189_1 := up HB.out hx189_1
     replace hx189_2 := up HB.out hx189_2
     replace hx189_3 := up HB.out hx189_3
     replace hx189_4 := up HB.out hx189_4
     replace p189 := eq_true p189
     replace q189 := eq_true q189
     go_wp2_with (first | (refine bx 9 #[.int .i64 0, .int .i64 0, .int .i64 0, .int .i64 0, .int .i64 0] 30 rfl ?_; intro gb190 hg w15 hbox hb; have BK190 := am (hbox); have GW190 := am (ge hg (bg2 HB.out GE185.out GE186.out)); have GE190 := GW190; replace HB := am (below_step (bg2 HB.out GE185.out GE186.out) hb); have NB185_190 := am (nb hg (pb BK185.out)); have NB190_185 := am (Ne.symm NB185_190.out); replace BK185 := am (blk_below (pb BK185.out) hb); have NB186_190 := am (nb hg (pb BK186.out)); have NB190_186 := am (Ne.symm NB186_190.out); replace BK186 := am (blk_below (pb BK186.out) hb); clear hb hbox hg; have hnb16 := NB190_185.out; have hnc16 := NB185_190.out; have hnb17 := NB190_186.out; have hnc17 := NB186_190.out; obtain ⟨hcz18_0, hcz18_1, hcz18_2, hcz18_3, hcz18_4⟩ := b5 BK190.out; obtain ⟨hfz18_0, hfz18_1, hfz18_2, hfz18_3, hfz18_4⟩ := f5 BK190.out; have hnb19 := NB186_185.out; have hnc19 := NB185_186.out; obtain ⟨hcz20_0, hcz20_1, hcz20_2, hcz20_3⟩ := b4 BK186.out; obtain ⟨hfz20_0, hfz20_1, hfz20_2, hfz20_3⟩ := f4 BK186.out))
     go_roundg k2
     case measure => have := HK1.out; have := HK2.out; omega
     case rel => exact ⟨(wrap64 (x8_2 + 1)), ((rd_T30 ((rd_T33 l0 x7_1).f0) x8_2).f1.f0), ((rd_T30 ((rd_T33 l0 x7_1).f0) x8_2).f1.f1), ((rd_T30 ((rd_T33 l0 x7_1).f0) x8_2).f1.f2), ((rd_T30 ((rd_T33 l0 x7_1).f0) x8_2).f1.f3), rf, H', ⟨by have := HK1.out; have := HK2.out; omega⟩, ⟨bf4 (bf5 (pb BK185.out) NB185_190.out) NB185_186.out⟩, ⟨bp4 (bf5 (pb BK186.out) NB186_190.out)⟩, ⟨bg3 HB.out GE185.out GE186.out GE190.out⟩⟩
end Go.Proofs.Ytfijfkbdedcnfaa.R4
namespace Go.Proofs.Ytfijfkbdedcnfaa.R4
open Go.RowKit Go.Proofs.YtfijfkbdedcnfaaW.PrintWords Go.Proofs.YtfijfkbdedcnfaaW.PrintLast Go.Proofs.YtfijfkbdedcnfaaW.PrintMore
attribute [local go_sem] max2_int min2_int max_two min_two max_three min_three max_four min_four
set_option linter.unusedVariables false
set_option linter.unusedSimpArgs false
attribute [local go_sem high] eqA28
def spec_l3Live.f (k : Nat) (l0 : List (S33)) (a1_0 : Int) (a1_1 : Int) (a1_2 : Int) (a1_3 : Int) (a1_4 : Int) : Option (Bool) := if a1_0 = 1 then ((spec_l3Last.f k l0 a1_3).bind fun bt192 => (some (bt192.1 == a1_1 && (bt192.2.1 == a1_2 && (bt192.2.2.1 == a1_3 && (bt192.2.2.2.1 == a1_4)))))) else (some false)
theorem spec_l3Live.mono : ∀ a0 a1 a2 a3 a4 a5 k, LeO (spec_l3Live.f k a0 a1 a2 a3 a4 a5) (spec_l3Live.f (k + 1) a0 a1 a2 a3 a4 a5) := by
 intro a0 a1 a2 a3 a4 a5 k
 unfold spec_l3Live.f
 with_reducible repeat' first | exact spec_l3Last.mono _ _ _ | exact LeO.refl _ | exact LeO.none _ | refine LeO.ite ?_ ?_ | refine LeO.bind ?_ (fun _ => ?_)
set_option maxHeartbeats 8000000 in
set_option maxRecDepth 100000 in
theorem spec_l3Live.calls (k : Nat) (A0 : Option Addr) (c0 : Nat) (l0 : List (S33)) (a1_0 : Int) (a1_1 : Int) (a1_2 : Int) (a1_3 : Int) (a1_4 : Int) (r : Bool) (w : World) (hr0 : Kd.C k33 w A0 l0.length l0) (hc0 : l0.length ≤ c0) (h : spec_l3Live.f k l0 a1_0 a1_1 a1_2 a1_3 a1_4 = some r) :
 Calls Try.prog 47 #[.slice A0 l0.length c0, .agg #[.int .i64 a1_0, .int .i64 a1_1, .int .i64 a1_2, .int .i64 a1_3, .int .i64 a1_4]] w fun e w' => e = .returned (.bool r) ∧ Below w.heap.size w w' := by
 have hu30 := Try.underlying30
 have hu28 := Try.underlying28
 have HR0 := am hr0
 have HC0 := am hc0
 clear hr0 hc0
 have HB := am (Below.refl w.heap.size w)
 have H : (if a1_0 = 1 then ((spec_l3Last.f k l0 a1_3).bind fun bt192 => (some (bt192.1 == a1_1 && (bt192.2.1 == a1_2 && (bt192.2.2.1 == a1_3 && (bt192.2.2.2.1 == a1_4)))))) else (some false)) = some r := h
 clear h
 by_cases c3 : a1_0 = 1
 rotate_left
 · rw [if_neg c3] at H
   have c3b0 : (a1_0 == 1) = false := beq_eq_false_iff_ne.mpr c3
   have c3b1 : (a1_0 != 1) = true := bne_iff_ne.mpr c3
   obtain rfl := Option.some.inj H
   go_enter Try.func47, Try.ntmps47
   go_wp2_with (first | (refine bx 3 #[.int .i64 a1_0, .int .i64 a1_1, .int .i64 a1_2, .int .i64 a1_3, .int .i64 a1_4] 30 rfl ?_; intro gb191 hg w12 hbox hb; have BK191 := am (hbox); have GW191 := am (ge hg (ph HB.out)); have GE191 := GW191; replace HB := am (below_step (ph HB.out) hb); clear hb hbox hg; obtain ⟨hcz13_0, hcz13_1, hcz13_2, hcz13_3, hcz13_4⟩ := b5 BK191.out; obtain ⟨hfz13_0, hfz13_1, hfz13_2, hfz13_3, hfz13_4⟩ := f5 BK191.out))
   go_ret
   exact (rq (bg1 HB.out GE191.out))
 rw [if_pos c3] at H
 have c3b0 : (a1_0 == 1) = true := beq_iff_eq.mpr c3
 have c3b1 : (a1_0 != 1) = false := bne_eq_false_iff_eq.mpr c3
 clear c3
 replace H := Option.bind_eq_some_iff.mp H
 obtain ⟨⟨t192, t193, t194, t195, t196⟩, A40, H⟩ := H
 have A4 := am A40
 clear A40
 obtain rfl := Option.some.inj H
 go_enter Try.func47, Try.ntmps47
 go_wp2_with (first | (refine bx 3 #[.int .i64 a1_0, .int .i64 a1_1, .int .i64 a1_2, .int .i64 a1_3, .int .i64 a1_4] 30 rfl ?_; intro gb191 hg w5 hbox hb; have BK191 := am (hbox); have GW191 := am (ge hg (ph HB.out)); have GE191 := GW191; replace HB := am (below_step (ph HB.out) hb); clear hb hbox hg; obtain ⟨hcz6_0, hcz6_1, hcz6_2, hcz6_3, hcz6_4⟩ := b5 BK191.out; obtain ⟨hfz6_0, hfz6_1, hfz6_2, hfz6_3, hfz6_4⟩ := f5 BK191.out) | (refine gl 15 Try.func41 #[.slice A0 l0.length c0, .int .i64 a1_3] rfl ?_; (with_reducible refine (spec_l3Last.calls k _ _ l0 a1_3 t192 t193 t194 t195 t196 _ ?side1 ?side2 A4.out).mono ?_); (case side1 => exact pc (Kd.C_below HR0.out HB.out)); (case side2 => exact HC0.out); rintro e w7 ⟨rfl, hb⟩; refine ⟨_, rfl, ?_⟩; replace BK191 := am (blk_below (pb BK191.out) hb); replace HB := am (below_step (bg1 HB.out GE191.out) hb); clear hb) | (refine bx 5 #[.int .i64 0, .int .i64 0, .int .i64 0, .int .i64 0] 28 rfl ?_; intro gb197 hg w8 hbox hb; have BK197 := am (hbox); have GW197 := am (ge hg (bg1 HB.out GE191.out)); have GE197 := GW197; replace HB := am (below_step (bg1 HB.out GE191.out) hb); have NB191_197 := am (nb hg (pb BK191.out)); have NB197_191 := am (Ne.symm NB191_197.out); replace BK191 := am (blk_below (pb BK191.out) hb); clear hb hbox hg; have hnb9 := NB197_191.out; have hnc9 := NB191_197.out; obtain ⟨hcz10_0, hcz10_1, hcz10_2, hcz10_3⟩ := b4 BK197.out; obtain ⟨hfz10_0, hfz10_1, hfz10_2, hfz10_3⟩ := f4 BK197.out; obtain ⟨hcz11_0, hcz11_1, hcz11_2, hcz11_3, hcz11_4⟩ := b5 BK191.out; obtain ⟨hfz11_0, hfz11_1, hfz11_2, hfz11_3, hfz11_4⟩ := f5 BK191.out))
 go_ret
 exact (rq (bg2 HB.out GE191.out GE197.out))
end Go.Proofs.Ytfijfkbdedcnfaa.R4
namespace Go.Proofs.Ytfijfkbdedcnfaa.R4
open Go.RowKit Go.Proofs.YtfijfkbdedcnfaaW.PrintWords Go.Proofs.YtfijfkbdedcnfaaW.PrintLast Go.Proofs.YtfijfkbdedcnfaaW.PrintMore
attribute [local go_sem] max2_int min2_int max_two min_two max_three min_three max_four min_four
set_option linter.unusedVariables false
set_option linter.unusedSimpArgs false
def spec_l12Room.l0 : Nat → List (S75) → Int → Int → List (S33) → List Int → Option ((List (S75)) × Int × Bool)
 | 0, _, _, _, _, _ => none
 | k + 1, x5, x8, x9, x199000, x199001 => if x9 < 4 then (if 0 ≤ x8 then (if x8 < (x199000.length : Int) then (if 0 ≤ x9 then (if x9 < (((rd_T33 x199000 x8).f0).length : Int) then ((spec_l3Live.f k x199000 ((rd_T30 ((rd_T33 x199000 x8).f0) x9).f0) ((rd_T30 ((rd_T33 x199000 x8).f0) x9).f1.f0) ((rd_T30 ((rd_T33 x199000 x8).f0) x9).f1.f1) ((rd_T30 ((rd_T33 x199000 x8).f0) x9).f1.f2) ((rd_T30 ((rd_T33 x199000 x8).f0) x9).f1.f3)).bind fun t208 => (if t208 = true then (if ((rd_T30 ((rd_T33 x199000 x8).f0) x9).f1.f0) = 1 then (if x5.length < 2199023255552 then (spec_l12Room.l0 k (x5 ++ [(⟨1, (rd_T30 ((rd_T33 x199000 x8).f0) x9).f1.f2, (rd_T30 ((rd_T33 x199000 x8).f0) x9).f1.f3, 0, (⟨0, 0, 0, 0⟩ : S28)⟩ : S75)]) x8 (wrap64 (x9 + 1)) x199000 x199001) else (none)) else (spec_l12Room.l0 k x5 x8 (wrap64 (x9 + 1)) x199000 x199001)) else (spec_l12Room.l0 k x5 x8 (wrap64 (x9 + 1)) x199000 x199001))) else (none)) else (none)) else (none)) else (none)) else (if x5.length < 2199023255552 then (if 0 ≤ x8 then (if x8 < (x199000.length : Int) then (some ((x5 ++ [(⟨2, 0, 0, x8, (⟨0, 0, 0, 0⟩ : S28)⟩ : S75)]), x8, decide (((rd_T33 x199000 x8).f1) < 200))) else (none)) else (none)) else (none))
def spec_l12Room.f (k : Nat) (l0_0 : List (S33)) (l0_1 : List Int) : Option ((List (S75)) × Int × Bool) := (some (([] : List (S75)) : List (S75))).bind fun y199 => ((spec_l3Open.f k l0_0).bind fun bt202 => (if bt202.2 = true then (some (y199, bt202.1, true)) else ((spec_l3Old.f k l0_0).bind fun t204 => (spec_l12Room.l0 k y199 t204 0 l0_0 l0_1))))
theorem spec_l12Room.mono_l : ∀ k, (∀ y0 y1 y2 y3 y4, LeO (spec_l12Room.l0 k y0 y1 y2 y3 y4) (spec_l12Room.l0 (k + 1) y0 y1 y2 y3 y4))
 | 0 => fun _ _ _ _ _ r h => by simp [spec_l12Room.l0] at h
 | k + 1 => by
  have ih0 := spec_l12Room.mono_l k
  · intro y0 y1 y2 y3 y4
    unfold spec_l12Room.l0
    with_reducible repeat' first | exact ih0 _ _ _ _ _ | exact spec_l3Live.mono _ _ _ _ _ _ _ | exact spec_l3Old.mono _ _ | exact spec_l3Open.mono _ _ | exact LeO.refl _ | exact LeO.none _ | refine LeO.ite ?_ ?_ | refine LeO.bind ?_ (fun _ => ?_)
theorem spec_l12Room.mono : ∀ a0 a1 k, LeO (spec_l12Room.f k a0 a1) (spec_l12Room.f (k + 1) a0 a1) := by
 intro a0 a1 k
 have ih0 := spec_l12Room.mono_l k
 unfold spec_l12Room.f
 with_reducible repeat' first | exact ih0 _ _ _ _ _ | exact spec_l3Live.mono _ _ _ _ _ _ _ | exact spec_l3Old.mono _ _ | exact spec_l3Open.mono _ _ | exact LeO.refl _ | exact LeO.none _ | refine LeO.ite ?_ ?_ | refine LeO.bind ?_ (fun _ => ?_)
def spec_l12Room.T12 : Bool × List (List Nat × List Nat) := (true, [([], []), ([], []), ([1], [1]), ([2], [2]), ([0, 3], [0, 3]), ([], []), ([], []), ([6], [6]), ([], []), ([7, 8], [7, 8]), ([9], [9]), ([10], [10]), ([11], [11]), ([4, 4, 0, 1, 2, 3, 4], [4]), ([5, 13, 0, 1, 2, 3, 4, 5, 13], [5]), ([12, 14, 0, 1, 2, 3, 4, 5, 6, 7, 8, 9, 10, 11, 12, 13, 14], [12])])
def spec_l12Room.B12 : List Nat := [0, 0, 2, 6, 15, 0, 0, 64, 0, 448, 960, 1984, 4032, 31, 8255, 32767]
theorem spec_l12Room.tab12 : rtab .any (opsOf Try.f40 12) = spec_l12Room.T12 := by kernel_rfl
theorem spec_l12Room.bits12 : waitsOk spec_l12Room.T12.2 spec_l12Room.B12 = true := by kernel_rfl
set_option maxHeartbeats 8000000 in
set_option maxRecDepth 100000 in
theorem spec_l12Room.calls (k : Nat) (A0_0 : Option Addr) (c0_0 : Nat) (l0_0 : List (S33)) (A0_1 : Option Addr) (c0_1 : Nat) (l0_1 : List Int) (r1 : List (S75)) (r2 : Int) (r3 : Bool) (w : World) (hr0_0 : Kd.C k33 w A0_0 l0_0.length l0_0) (hc0_0 : l0_0.length ≤ c0_0) (hr0_1 : Kd.C (Kd.int .i64) w A0_1 l0_1.length l0_1) (hc0_1 : l0_1.length ≤ c0_1) (h : spec_l12Room.f k l0_0 l0_1 = some (r1, r2, r3)) :
 Calls Try.prog 40 #[.agg #[.slice A0_0 l0_0.length c0_0, .slice A0_1 l0_1.length c0_1]] w fun e w' => ∃ v0_ : Value, e = .returned (.tuple #[v0_, .int .i64 r2, .bool r3]) ∧ Kd.R k75 75 w' w.heap.size (fun _ => True) v0_ r1 ∧ Below w.heap.size w w' := by
 have hu51 := Try.underlying51
 have hu30 := Try.underlying30
 have hu75 := Try.underlying75
 have HR0_0 := am hr0_0
 have HC0_0 := am hc0_0
 clear hr0_0 hc0_0
 have HR0_1 := am hr0_1
 have HC0_1 := am hc0_1
 clear hr0_1 hc0_1
 have HB := am (Below.refl w.heap.size w)
 have H : ((some (([] : List (S75)) : List (S75))).bind fun y199 => ((spec_l3Open.f k l0_0).bind fun bt202 => (if bt202.2 = true then (some (y199, bt202.1, true)) else ((spec_l3Old.f k l0_0).bind fun t204 => (spec_l12Room.l0 k y199 t204 0 l0_0 l0_1))))) = some (r1, r2, r3) := h
 clear h
 obtain ⟨y199, hy199⟩ : ∃ y_ : List (S75), y_ = (([] : List (S75))) := ⟨_, rfl⟩
 replace H : ((spec_l3Open.f k l0_0).bind fun bt202 => (if bt202.2 = true then (some (y199, bt202.1, true)) else ((spec_l3Old.f k l0_0).bind fun t204 => (spec_l12Room.l0 k y199 t204 0 l0_0 l0_1)))) = some (r1, r2, r3) := yy hy199 H
 have Ny199 := am hy199
 clear hy199
 replace H := Option.bind_eq_some_iff.mp H
 obtain ⟨⟨t202, t203⟩, A20, H⟩ := H
 have A2 := am A20
 clear A20
 by_cases c3 : t203 = true
 · subst c3
   rw [if_pos rfl] at H
   simp only [Option.some.injEq, Prod.mk.injEq] at H
   obtain ⟨rfl, rfl, rfl⟩ := H
   go_enter Try.func40, Try.ntmps40
   go_wp2_with (first | (refine bx 1 #[.slice A0_0 l0_0.length c0_0, .slice A0_1 l0_1.length c0_1] 51 rfl ?_; intro gb198 hg w4 hbox hb; have BK198 := am (hbox); have GW198 := am (ge hg (ph HB.out)); have GE198 := GW198; replace HB := am (below_step (ph HB.out) hb); clear hb hbox hg) | ((with_reducible refine gate_dst (N := 11) rfl ?_); refine Kd.R_lit k75 _ 75 ?hg (N := 11) ?hd (xs := ([] : List (S75))) (inner := []) (ok := fun _ => True) (okp := fun _ => True) ?hr ?hp (fun _ hk => hk) trivial (Below.refl _ _) (Nat.le_refl _) (by simp) ?_; (case hd => rfl); (case hg => rfl); (case hr => first | (go_simp; done) | (go_simp; rfl)); (case hp => exact (Reps.none _ _)); intro v200 w5 ho6 hb hg_ hnew_; clear hg_ hnew_; (first | rw [← Ny199.out] at ho6 | (simp only [Int.reduceToNat] at ho6; rw [← Ny199.out] at ho6)); have HO201 := am (Kd.R_lower ho6 (below_size (bg1 HB.out GE198.out))); replace BK198 := am (blk_below (pb BK198.out) hb); replace HB := am (below_step (bg1 HB.out GE198.out) hb); clear hb ho6; obtain ⟨hcz7_0, hcz7_1⟩ := b2 BK198.out; obtain ⟨hfz7_0, hfz7_1⟩ := f2 BK198.out) | (refine gl 15 Try.func45 #[.slice A0_0 l0_0.length c0_0] rfl ?_; (with_reducible refine (spec_l3Open.calls k _ _ l0_0 t202 true _ ?side1 ?side2 A2.out).mono ?_); (case side1 => exact pc (Kd.C_below HR0_0.out HB.out)); (case side2 => exact HC0_0.out); rintro e w8 ⟨rfl, hb⟩; refine ⟨_, rfl, ?_⟩; replace HO201 := am (Kd.R_below (pr HO201.out) hb); replace BK198 := am (blk_below (pb BK198.out) hb); replace HB := am (below_step (bg1 HB.out GE198.out) hb); clear hb))
   go_ret3
   exact ⟨_, rq ⟨pr HO201.out, bg1 HB.out GE198.out⟩⟩
 replace c3 := Bool.eq_false_iff.mpr c3
 subst c3
 rw [if_neg (show ¬ (false = true) by decide)] at H
 replace H := Option.bind_eq_some_iff.mp H
 obtain ⟨t204, A90, H⟩ := H
 have A9 := am A90
 clear A90
 have H' := am H
 clear H
 go_enter Try.func40, Try.ntmps40
 go_wp2_with (first | (refine bx 1 #[.slice A0_0 l0_0.length c0_0, .slice A0_1 l0_1.length c0_1] 51 rfl ?_; intro gb198 hg w10 hbox hb; have BK198 := am (hbox); have GW198 := am (ge hg (ph HB.out)); have GE198 := GW198; replace HB := am (below_step (ph HB.out) hb); clear hb hbox hg) | ((with_reducible refine gate_dst (N := 11) rfl ?_); refine Kd.R_lit k75 _ 75 ?hg (N := 11) ?hd (xs := ([] : List (S75))) (inner := []) (ok := fun _ => True) (okp := fun _ => True) ?hr ?hp (fun _ hk => hk) trivial (Below.refl _ _) (Nat.le_refl _) (by simp) ?_; (case hd => rfl); (case hg => rfl); (case hr => first | (go_simp; done) | (go_simp; rfl)); (case hp => exact (Reps.none _ _)); intro v200 w11 ho12 hb hg_ hnew_; clear hg_ hnew_; (first | rw [← Ny199.out] at ho12 | (simp only [Int.reduceToNat] at ho12; rw [← Ny199.out] at ho12)); have HO201 := am (Kd.R_lower ho12 (below_size (bg1 HB.out GE198.out))); replace BK198 := am (blk_below (pb BK198.out) hb); replace HB := am (below_step (bg1 HB.out GE198.out) hb); clear hb ho12; obtain ⟨hcz13_0, hcz13_1⟩ := b2 BK198.out; obtain ⟨hfz13_0, hfz13_1⟩ := f2 BK198.out) | (refine gl 15 Try.func45 #[.slice A0_0 l0_0.length c0_0] rfl ?_; (with_reducible refine (spec_l3Open.calls k _ _ l0_0 t202 false _ ?side1 ?side2 A2.out).mono ?_); (case side1 => exact pc (Kd.C_below HR0_0.out HB.out)); (case side2 => exact HC0_0.out); rintro e w14 ⟨rfl, hb⟩; refine ⟨_, rfl, ?_⟩; replace HO201 := am (Kd.R_below (pr HO201.out) hb); replace BK198 := am (blk_below (pb BK198.out) hb); replace HB := am (below_step (bg1 HB.out GE198.out) hb); clear hb; obtain ⟨hcz15_0, hcz15_1⟩ := b2 BK198.out; obtain ⟨hfz15_0, hfz15_1⟩ := f2 BK198.out) | (refine gl 23 Try.func46 #[.slice A0_0 l0_0.length c0_0] rfl ?_; (with_reducible refine (spec_l3Old.calls k _ _ l0_0 t204 _ ?side1 ?side2 A9.out).mono ?_); (case side1 => exact pc (Kd.C_below HR0_0.out HB.out)); (case side2 => exact HC0_0.out); rintro e w16 ⟨rfl, hb⟩; refine ⟨_, rfl, ?_⟩; replace HO201 := am (Kd.R_below (pr HO201.out) hb); replace BK198 := am (blk_below (pb BK198.out) hb); replace HB := am (below_step (bg1 HB.out GE198.out) hb); clear hb))
 go_loopg [5, 9] k (fun kq v5 v9 w' => ∃ (x5_1 : List (S75)) (x9_1 : Int), v9 = .int .i64 x9_1 ∧ Aside0 (spec_l12Room.l0 kq x5_1 t204 x9_1 l0_0 l0_1 = some (r1, r2, r3)) ∧ Aside0 (kq ≤ k) ∧ Aside0 (Kd.R k75 75 w' w.heap.size (fun _ => True) v5 x5_1) ∧ Aside0 (w'.heap[gb198]? = some (.cells #[(.slice A0_0 l0_0.length c0_0), (.slice A0_1 l0_1.length c0_1)] 51 (0, 0))) ∧ Aside0 (Below w.heap.size w w'))
 case atStart => exact ⟨(y199), (0), rf, H', ⟨Nat.le_refl _⟩, ⟨pr HO201.out⟩, ⟨pb BK198.out⟩, ⟨bg1 HB.out GE198.out⟩⟩
 case round =>
  clear H'
  obtain ⟨x5_1, x9_1, rfl, HA, HK1, HO_5, BK198, HB⟩ := hrel
  cases gk with
  | zero => exact absurd HA.out (by simp [spec_l12Room.l0])
  | succ k1 =>
   have H := HA.out
   clear HA
   simp only [spec_l12Room.l0] at H
   by_cases c17 : x9_1 < 4
   rotate_left
   · rw [if_neg c17] at H
     have c17b0 := decide_eq_false c17
     clear c17
     by_cases c47 : x5_1.length < 2199023255552
     rotate_left
     · rw [if_neg c47] at H
       exact absurd H (by simp)
     rw [if_pos c47] at H
     have LMc47 := am c47
     clear c47
     obtain ⟨y212, hy212⟩ : ∃ y_ : List (S75), y_ = (x5_1 ++ [(⟨2, 0, 0, t204, (⟨0, 0, 0, 0⟩ : S28)⟩ : S75)]) := ⟨_, rfl⟩
     replace H : (if 0 ≤ t204 then (if t204 < (l0_0.length : Int) then (some (y212, t204, decide (((rd_T33 l0_0 t204).f1) < 200))) else (none)) else (none)) = some (r1, r2, r3) := yy hy212 H
     have Ny212 := am hy212
     clear hy212
     obtain ⟨c48b0, H⟩ := ifd H
     obtain ⟨c49b0, H⟩ := ifd H
     simp only [Option.some.injEq, Prod.mk.injEq] at H
     obtain ⟨rfl, rfl, rfl⟩ := H
     try go_wp2
     replace HO_5 := am (Kd.R_drew HO_5.out)
     replace BK198 := am (blk_drew BK198.out)
     replace HB := am (below_drew1 HB.out)
     have p215 : 0 ≤ (t204 : Int) := ofb
     have q215 : t204 < (l0_0.length : Int) := ofb
     obtain ⟨ad215, A215_0, c215_0, e215, hx215_0, hx215_1, hl215_0, hi215_0⟩ := at_T33 HR0_0.out t204 p215 q215
     have hw215_1 := hx215_1
     have hw215_0 := hx215_0
     cases e215
     replace hx215_0 := up HB.out hx215_0
     replace hx215_1 := up HB.out hx215_1
     have HR215_0 := am hi215_0
     have HC215_0 := am hl215_0
     clear hi215_0 hl215_0
     replace p215 := eq_true p215
     replace q215 := eq_true q215
     refine start_ (n := 16) (S := fun w' => w'.cell? ⟨gb198, 0, none⟩ = some (.slice (some ad215) l0_0.length c0_0) ∧ w'.cell? ⟨gb198, 1, none⟩ = some (.slice A0_1 l0_1.length c0_1) ∧ w'.cell? (ad215.add ((t204).toNat * 2)) = some (.slice A215_0 ((rd_T33 l0_0 t204).f0).length c215_0) ∧ w'.cell? ⟨(ad215.add ((t204).toNat * 2)).block, (ad215.add ((t204).toNat * 2)).off + 1, none⟩ = some (.int .i64 ((rd_T33 l0_0 t204).f1))) (ds := []) (bt 16 0) (by kernel_rfl) rfl rfl ⟨(blk_cell BK198.out 0).trans rfl, (blk_cell BK198.out 1).trans rfl, ((HB.out.cell (World.block_lt_of_cell? w _ hw215_0)).trans hw215_0), ((HB.out.cell (World.block_lt_of_cell? w _ hw215_1)).trans hw215_1)⟩ (fun hHeld => ?_); refine with_tabW spec_l12Room.tab12 spec_l12Room.bits12 (fun HT_ HW_ => ?_)
     generalize wr.drew = w50 at HO_5 BK198 HB HR215_0 hx215_0 hx215_1 hHeld ⊢
     refine qj 0 57 (bt 16 1) rfl rfl HT_.out ?_
     refine qj 1 58 (bt 16 3) rfl rfl HT_.out ?_
     refine qj 2 59 (bt 16 7) rfl rfl HT_.out ?_
     refine qj 5 62 (bt 16 39) rfl rfl HT_.out ?_
     refine qj 6 63 (bt 16 103) rfl rfl HT_.out ?_
     refine qj 8 65 (bt 16 359) rfl rfl HT_.out ?_
     refine qm 7 64 (bt 16 487) rfl rfl HT_.out HW_.out hHeld ?_
     refine qj 9 66 (bt 16 999) rfl rfl HT_.out ?_
     refine qj 10 67 (bt 16 2023) rfl rfl HT_.out ?_
     refine qm 11 68 (bt 16 4071) rfl rfl HT_.out HW_.out hHeld ?_
     refine qj 12 69 (bt 16 8167) rfl rfl HT_.out ?_
     refine qo 3 (some 60) (bt 16 8175) rfl rfl HT_.out fun K hK => ?_
     refine value_ (w1 := ?_) (v := ?_) (by rfl) rfl ?_ ?_
     rotate_left 2
     · go_simp
       constructor
       · rfl
       · rfl
     refine hK.out _ _ ⟨(blk_cell (blk_alloc BK198.out _) 0).trans rfl, (blk_cell (blk_alloc BK198.out _) 1).trans rfl, (World.cell?_alloc_lt _ _ _ (World.block_lt_of_cell? _ _ (((HB.out.cell (World.block_lt_of_cell? w _ hw215_0)).trans hw215_0)))).trans (((HB.out.cell (World.block_lt_of_cell? w _ hw215_0)).trans hw215_0)), (World.cell?_alloc_lt _ _ _ (World.block_lt_of_cell? _ _ (((HB.out.cell (World.block_lt_of_cell? w _ hw215_1)).trans hw215_1)))).trans (((HB.out.cell (World.block_lt_of_cell? w _ hw215_1)).trans hw215_1))⟩ (fun hHeld => ?_)
     clear hK K
     refine qn (some 60) ?_
     refine qo 4 (some 61) (bt 16 8191) rfl rfl HT_.out fun K hK => ?_
     refine Kd.R_append_step k75 (w0 := w) w.heap.size (by rfl) (.tmp 57) (.tmp 60) 67 75 (.agg #[(.int .i64 0), (.int .i64 0), (.int .i64 0), (.int .i64 0), (.int .i64 0), (.int .i64 0), (.int .i64 0), (.int .i64 0)]) 64 rfl Try.underlying67 info75 rfl (by decide) (by omega) u5 x5_1 (⟨2, 0, 0, t204, (⟨0, 0, 0, 0⟩ : S28)⟩ : S75) [.int .i64 2, .int .i64 0, .int .i64 0, .int .i64 t204, .int .i64 0, .int .i64 0, .int .i64 0, .int .i64 0] (fun _ => True) (fun _ => False) rfl rfl ?aP (fun _ hk => hk.elim) ?aF ?aO ?aB ?aS ?aL ?_
     (case aP => exact k75_mkM _ _ _ (⟨2, 0, 0, t204, (⟨0, 0, 0, 0⟩ : S28)⟩ : S75))
     (case aB => exact (bg1 HB.out GE198.out))
     (case aF => exact (fun _ _ => trivial))
     (case aO => exact (pr HO_5.out))
     (case aS => exact (below_size (bg1 HB.out GE198.out)))
     (case aL => have := LMc47.out; omega)
     intro v213 w51 ho hb hg hat
     rw [← Ny212.out] at ho
     replace BK198 := am (blk_grown (g := gb198) (o := .cells #[.slice (some ad215) l0_0.length c0_0, .slice A0_1 l0_1.length c0_1] 51 (0, 0)) (pb BK198.out) hg (Kd.R_ne HO_5.out BK198.out (by decide)))
     replace HB := am (hb)
     have HO214 := am (ho)
     clear HO_5 ho hb hg hat
     refine hK.out _ _ ⟨(blk_cell BK198.out 0).trans rfl, (blk_cell BK198.out 1).trans rfl, ((HB.out.cell (World.block_lt_of_cell? w _ hw215_0)).trans hw215_0), ((HB.out.cell (World.block_lt_of_cell? w _ hw215_1)).trans hw215_1)⟩ (fun hHeld => ?_)
     clear hK K
     refine qn (some 61) ?_
     refine qj 13 2 (bt 16 16383) rfl rfl HT_.out ?_
     refine qj 14 3 (bt 16 32767) rfl rfl HT_.out ?_
     refine qj 15 4 (bt 16 65535) rfl rfl HT_.out ?_
     refine done_ (done_of HT_.out (by kernel_rfl)) ?_
     try go_wp2
     go_ret3
     exact ⟨_, rq ⟨pr HO214.out, bg1 HB.out GE198.out⟩⟩
   rw [if_pos c17] at H
   have c17b0 := decide_eq_true c17
   clear c17
   obtain ⟨c18b0, H⟩ := ifd H
   obtain ⟨c19b0, H⟩ := ifd H
   obtain ⟨c20b0, H⟩ := ifd H
   obtain ⟨c21b0, H⟩ := ifd H
   replace H := Option.bind_eq_some_iff.mp H
   obtain ⟨t208, A220, H⟩ := H
   have A22 := am A220
   clear A220
   by_cases c23 : t208 = true
   rotate_left
   · replace c23 := Bool.eq_false_iff.mpr c23
     subst c23
     rw [if_neg (show ¬ (false = true) by decide)] at H
     have H' := am H
     clear H
     obtain ⟨hcz41_0, hcz41_1⟩ := b2 BK198.out
     obtain ⟨hfz41_0, hfz41_1⟩ := f2 BK198.out
     have p205 : 0 ≤ (t204 : Int) := ofb
     have q205 : t204 < (l0_0.length : Int) := ofb
     obtain ⟨ad205, A205_0, c205_0, e205, hx205_0, hx205_1, hl205_0, hi205_0⟩ := at_T33 HR0_0.out t204 p205 q205
     cases e205
     replace hx205_0 := up HB.out hx205_0
     replace hx205_1 := up HB.out hx205_1
     have HR205_0 := am hi205_0
     have HC205_0 := am hl205_0
     clear hi205_0 hl205_0
     replace p205 := eq_true p205
     replace q205 := eq_true q205
     have p206 : 0 ≤ (x9_1 : Int) := ofb
     have q206 : x9_1 < (((rd_T33 l0_0 t204).f0).length : Int) := ofb
     obtain ⟨ad206, e206, hx206_0, hx206_1, hx206_2, hx206_3, hx206_4⟩ := at_T30 HR205_0.out x9_1 p206 q206
     cases e206
     replace hx206_0 := up HB.out hx206_0
     replace hx206_1 := up HB.out hx206_1
     replace hx206_2 := up HB.out hx206_2
     replace hx206_3 := up HB.out hx206_3
     replace hx206_4 := up HB.out hx206_4
     replace p206 := eq_true p206
     replace q206 := eq_true q206
     go_wp2_with (first | (refine bx 10 #[.int .i64 0, .int .i64 0, .int .i64 0, .int .i64 0, .int .i64 0] 30 rfl ?_; intro gb207 hg w42 hbox hb; replace HO_5 := am (Kd.R_below (pr HO_5.out) hb); have BK207 := am (hbox); have GW207 := am (ge hg (bg1 HB.out GE198.out)); have GE207 := GW207; replace HB := am (below_step (bg1 HB.out GE198.out) hb); have NB198_207 := am (nb hg (pb BK198.out)); have NB207_198 := am (Ne.symm NB198_207.out); replace BK198 := am (blk_below (pb BK198.out) hb); clear hb hbox hg; have hnb43 := NB207_198.out; have hnc43 := NB198_207.out; obtain ⟨hcz44_0, hcz44_1, hcz44_2, hcz44_3, hcz44_4⟩ := b5 BK207.out; obtain ⟨hfz44_0, hfz44_1, hfz44_2, hfz44_3, hfz44_4⟩ := f5 BK207.out; obtain ⟨hcz45_0, hcz45_1⟩ := b2 BK198.out; obtain ⟨hfz45_0, hfz45_1⟩ := f2 BK198.out) | (refine gl 40 Try.func47 #[.slice (some ad205) l0_0.length c0_0, .agg #[.int .i64 ((rd_T30 ((rd_T33 l0_0 t204).f0) x9_1).f0), .int .i64 ((rd_T30 ((rd_T33 l0_0 t204).f0) x9_1).f1.f0), .int .i64 ((rd_T30 ((rd_T33 l0_0 t204).f0) x9_1).f1.f1), .int .i64 ((rd_T30 ((rd_T33 l0_0 t204).f0) x9_1).f1.f2), .int .i64 ((rd_T30 ((rd_T33 l0_0 t204).f0) x9_1).f1.f3)]] rfl ?_; (with_reducible refine (spec_l3Live.calls k1 _ _ l0_0 ((rd_T30 ((rd_T33 l0_0 t204).f0) x9_1).f0) ((rd_T30 ((rd_T33 l0_0 t204).f0) x9_1).f1.f0) ((rd_T30 ((rd_T33 l0_0 t204).f0) x9_1).f1.f1) ((rd_T30 ((rd_T33 l0_0 t204).f0) x9_1).f1.f2) ((rd_T30 ((rd_T33 l0_0 t204).f0) x9_1).f1.f3) false _ ?side1 ?side2 A22.out).mono ?_); (case side1 => exact Kd.C_below HR0_0.out (bg2 HB.out GE198.out GE207.out)); (case side2 => exact HC0_0.out); rintro e w46 ⟨rfl, hb⟩; refine ⟨_, rfl, ?_⟩; replace HO_5 := am (Kd.R_below (pr ((Kd.R_mono (Kd.R_far (p := ⟨gb207, 4, none⟩) (Kd.R_far (p := ⟨gb207, 3, none⟩) (Kd.R_far (p := ⟨gb207, 2, none⟩) (Kd.R_far (p := ⟨gb207, 1, none⟩) (Kd.R_far (p := ⟨gb207, 0, none⟩) (Kd.R_types HO_5.out BK207.out (by decide)) (fun _ hk => hk.2) (.int .i64 ((rd_T30 ((rd_T33 l0_0 t204).f0) x9_1).f0))) (fun _ hk => hk.2) (.int .i64 ((rd_T30 ((rd_T33 l0_0 t204).f0) x9_1).f1.f0))) (fun _ hk => hk.2) (.int .i64 ((rd_T30 ((rd_T33 l0_0 t204).f0) x9_1).f1.f1))) (fun _ hk => hk.2) (.int .i64 ((rd_T30 ((rd_T33 l0_0 t204).f0) x9_1).f1.f2))) (fun _ hk => hk.2) (.int .i64 ((rd_T30 ((rd_T33 l0_0 t204).f0) x9_1).f1.f3))) (fun _ h_ => h_.1)))) hb); replace BK198 := am (blk_below (bf5 (pb BK198.out) NB198_207.out) hb); replace BK207 := am (blk_below (bp5 (pb BK207.out)) hb); replace HB := am (below_step (bg2 HB.out GE198.out GE207.out) hb); clear hb))
     go_roundg k1
     case measure => have := HK1.out; omega
     case rel => exact ⟨(x5_1), (wrap64 (x9_1 + 1)), rf, H', ⟨by have := HK1.out; omega⟩, ⟨pr HO_5.out⟩, ⟨pb BK198.out⟩, ⟨bg2 HB.out GE198.out GE207.out⟩⟩
   subst c23
   rw [if_pos rfl] at H
   by_cases c24 : ((rd_T30 ((rd_T33 l0_0 t204).f0) x9_1).f1.f0) = 1
   rotate_left
   · rw [if_neg c24] at H
     have c24b0 : (((rd_T30 ((rd_T33 l0_0 t204).f0) x9_1).f1.f0) == 1) = false := beq_eq_false_iff_ne.mpr c24
     have c24b1 : (((rd_T30 ((rd_T33 l0_0 t204).f0) x9_1).f1.f0) != 1) = true := bne_iff_ne.mpr c24
     have H' := am H
     clear H
     obtain ⟨hcz34_0, hcz34_1⟩ := b2 BK198.out
     obtain ⟨hfz34_0, hfz34_1⟩ := f2 BK198.out
     have p205 : 0 ≤ (t204 : Int) := ofb
     have q205 : t204 < (l0_0.length : Int) := ofb
     obtain ⟨ad205, A205_0, c205_0, e205, hx205_0, hx205_1, hl205_0, hi205_0⟩ := at_T33 HR0_0.out t204 p205 q205
     cases e205
     replace hx205_0 := up HB.out hx205_0
     replace hx205_1 := up HB.out hx205_1
     have HR205_0 := am hi205_0
     have HC205_0 := am hl205_0
     clear hi205_0 hl205_0
     replace p205 := eq_true p205
     replace q205 := eq_true q205
     have p206 : 0 ≤ (x9_1 : Int) := ofb
     have q206 : x9_1 < (((rd_T33 l0_0 t204).f0).length : Int) := ofb
     obtain ⟨ad206, e206, hx206_0, hx206_1, hx206_2, hx206_3, hx206_4⟩ := at_T30 HR205_0.out x9_1 p206 q206
     cases e206
     replace hx206_0 := up HB.out hx206_0
     replace hx206_1 := up HB.out hx206_1
     replace hx206_2 := up HB.out hx206_2
     replace hx206_3 := up HB.out hx206_3
     replace hx206_4 := up HB.out hx206_4
     replace p206 := eq_true p206
     replace q206 := eq_true q206
     go_wp2_with (first | (refine bx 10 #[.int .i64 0, .int .i64 0, .int .i64 0, .int .i64 0, .int .i64 0] 30 rfl ?_; intro gb207 hg w35 hbox hb; replace HO_5 := am (Kd.R_below (pr HO_5.out) hb); have BK207 := am (hbox); have GW207 := am (ge hg (bg1 HB.out GE198.out)); have GE207 := GW207; replace HB := am (below_step (bg1 HB.out GE198.out) hb); have NB198_207 := am (nb hg (pb BK198.out)); have NB207_198 := am (Ne.symm NB198_207.out); replace BK198 := am (blk_below (pb BK198.out) hb); clear hb hbox hg; have hnb36 := NB207_198.out; have hnc36 := NB198_207.out; obtain ⟨hcz37_0, hcz37_1, hcz37_2, hcz37_3, hcz37_4⟩ := b5 BK207.out; obtain ⟨hfz37_0, hfz37_1, hfz37_2, hfz37_3, hfz37_4⟩ := f5 BK207.out; obtain ⟨hcz38_0, hcz38_1⟩ := b2 BK198.out; obtain ⟨hfz38_0, hfz38_1⟩ := f2 BK198.out) | (refine gl 40 Try.func47 #[.slice (some ad205) l0_0.length c0_0, .agg #[.int .i64 ((rd_T30 ((rd_T33 l0_0 t204).f0) x9_1).f0), .int .i64 ((rd_T30 ((rd_T33 l0_0 t204).f0) x9_1).f1.f0), .int .i64 ((rd_T30 ((rd_T33 l0_0 t204).f0) x9_1).f1.f1), .int .i64 ((rd_T30 ((rd_T33 l0_0 t204).f0) x9_1).f1.f2), .int .i64 ((rd_T30 ((rd_T33 l0_0 t204).f0) x9_1).f1.f3)]] rfl ?_; (with_reducible refine (spec_l3Live.calls k1 _ _ l0_0 ((rd_T30 ((rd_T33 l0_0 t204).f0) x9_1).f0) ((rd_T30 ((rd_T33 l0_0 t204).f0) x9_1).f1.f0) ((rd_T30 ((rd_T33 l0_0 t204).f0) x9_1).f1.f1) ((rd_T30 ((rd_T33 l0_0 t204).f0) x9_1).f1.f2) ((rd_T30 ((rd_T33 l0_0 t204).f0) x9_1).f1.f3) true _ ?side1 ?side2 A22.out).mono ?_); (case side1 => exact Kd.C_below HR0_0.out (bg2 HB.out GE198.out GE207.out)); (case side2 => exact HC0_0.out); rintro e w39 ⟨rfl, hb⟩; refine ⟨_, rfl, ?_⟩; replace HO_5 := am (Kd.R_below (pr ((Kd.R_mono (Kd.R_far (p := ⟨gb207, 4, none⟩) (Kd.R_far (p := ⟨gb207, 3, none⟩) (Kd.R_far (p := ⟨gb207, 2, none⟩) (Kd.R_far (p := ⟨gb207, 1, none⟩) (Kd.R_far (p := ⟨gb207, 0, none⟩) (Kd.R_types HO_5.out BK207.out (by decide)) (fun _ hk => hk.2) (.int .i64 ((rd_T30 ((rd_T33 l0_0 t204).f0) x9_1).f0))) (fun _ hk => hk.2) (.int .i64 ((rd_T30 ((rd_T33 l0_0 t204).f0) x9_1).f1.f0))) (fun _ hk => hk.2) (.int .i64 ((rd_T30 ((rd_T33 l0_0 t204).f0) x9_1).f1.f1))) (fun _ hk => hk.2) (.int .i64 ((rd_T30 ((rd_T33 l0_0 t204).f0) x9_1).f1.f2))) (fun _ hk => hk.2) (.int .i64 ((rd_T30 ((rd_T33 l0_0 t204).f0) x9_1).f1.f3))) (fun _ h_ => h_.1)))) hb); replace BK198 := am (blk_below (bf5 (pb BK198.out) NB198_207.out) hb); replace BK207 := am (blk_below (bp5 (pb BK207.out)) hb); replace HB := am (below_step (bg2 HB.out GE198.out GE207.out) hb); clear hb; have hcz40_0 : w39.cell? ⟨gb207, 0, none⟩ = some (.int .i64 ((rd_T30 ((rd_T33 l0_0 t204).f0) x9_1).f0)) := (blk_cell BK207.out 0).trans rfl; have hcz40_1 : w39.cell? ⟨gb207, 1, none⟩ = some (.int .i64 ((rd_T30 ((rd_T33 l0_0 t204).f0) x9_1).f1.f0)) := (blk_cell BK207.out 1).trans rfl; have hcz40_2 : w39.cell? ⟨gb207, 2, none⟩ = some (.int .i64 ((rd_T30 ((rd_T33 l0_0 t204).f0) x9_1).f1.f1)) := (blk_cell BK207.out 2).trans rfl; have hcz40_3 : w39.cell? ⟨gb207, 3, none⟩ = some (.int .i64 ((rd_T30 ((rd_T33 l0_0 t204).f0) x9_1).f1.f2)) := (blk_cell BK207.out 3).trans rfl; have hcz40_4 : w39.cell? ⟨gb207, 4, none⟩ = some (.int .i64 ((rd_T30 ((rd_T33 l0_0 t204).f0) x9_1).f1.f3)) := (blk_cell BK207.out 4).trans rfl; obtain ⟨hfz40_0, hfz40_1, hfz40_2, hfz40_3, hfz40_4⟩ := f5 BK207.out))
     go_roundg k1
     case measure => have := HK1.out; omega
     case rel => exact ⟨(x5_1), (wrap64 (x9_1 + 1)), rf, H', ⟨by have := HK1.out; omega⟩, ⟨pr HO_5.out⟩, ⟨pb BK198.out⟩, ⟨bg2 HB.out GE198.out GE207.out⟩⟩
   rw [if_pos c24] at H
   have c24b0 : (((rd_T30 ((rd_T33 l0_0 t204).f0) x9_1).f1.f0) == 1) = true := beq_iff_eq.mpr c24
   have c24b1 : (((rd_T30 ((rd_T33 l0_0 t204).f0) x9_1).f1.f0) != 1) = false := bne_eq_false_iff_eq.mpr c24
   clear c24
   by_cases c25 : x5_1.length < 2199023255552
   rotate_left
   · rw [if_neg c25] at H
     exact absurd H (by simp)
   rw [if_pos c25] at H
   have LMc25 := am c25
   clear c25
   obtain ⟨y209, hy209⟩ : ∃ y_ : List (S75), y_ = (x5_1 ++ [(⟨1, (rd_T30 ((rd_T33 l0_0 t204).f0) x9_1).f1.f2, (rd_T30 ((rd_T33 l0_0 t204).f0) x9_1).f1.f3, 0, (⟨0, 0, 0, 0⟩ : S28)⟩ : S75)]) := ⟨_, rfl⟩
   replace H : (spec_l12Room.l0 k1 y209 t204 (wrap64 (x9_1 + 1)) l0_0 l0_1) = some (r1, r2, r3) := yy hy209 H
   have Ny209 := am hy209
   clear hy209
   have H' := am H
   clear H
   obtain ⟨hcz26_0, hcz26_1⟩ := b2 BK198.out
   obtain ⟨hfz26_0, hfz26_1⟩ := f2 BK198.out
   have p205 : 0 ≤ (t204 : Int) := ofb
   have q205 : t204 < (l0_0.length : Int) := ofb
   obtain ⟨ad205, A205_0, c205_0, e205, hx205_0, hx205_1, hl205_0, hi205_0⟩ := at_T33 HR0_0.out t204 p205 q205
   cases e205
   replace hx205_0 := up HB.out hx205_0
   replace hx205_1 := up HB.out hx205_1
   have HR205_0 := am hi205_0
   have HC205_0 := am hl205_0
   clear hi205_0 hl205_0
   replace p205 := eq_true p205
   replace q205 := eq_true q205
   have p206 : 0 ≤ (x9_1 : Int) := ofb
   have q206 : x9_1 < (((rd_T33 l0_0 t204).f0).length : Int) := ofb
   obtain ⟨ad206, e206, hx206_0, hx206_1, hx206_2, hx206_3, hx206_4⟩ := at_T30 HR205_0.out x9_1 p206 q206
   cases e206
   replace hx206_0 := up HB.out hx206_0
   replace hx206_1 := up HB.out hx206_1
   replace hx206_2 := up HB.out hx206_2
   replace hx206_3 := up HB.out hx206_3
   replace hx206_4 := up HB.out hx206_4
   replace p206 := eq_true p206
   replace q206 := eq_true q206
   go_wp2_with (first | (refine bx 10 #[.int .i64 0, .int .i64 0, .int .i64 0, .int .i64 0, .int .i64 0] 30 rfl ?_; intro gb207 hg w27 hbox hb; replace HO_5 := am (Kd.R_below (pr HO_5.out) hb); have BK207 := am (hbox); have GW207 := am (ge hg (bg1 HB.out GE198.out)); have GE207 := GW207; replace HB := am (below_step (bg1 HB.out GE198.out) hb); have NB198_207 := am (nb hg (pb BK198.out)); have NB207_198 := am (Ne.symm NB198_207.out); replace BK198 := am (blk_below (pb BK198.out) hb); clear hb hbox hg; have hnb28 := NB207_198.out; have hnc28 := NB198_207.out; obtain ⟨hcz29_0, hcz29_1, hcz29_2, hcz29_3, hcz29_4⟩ := b5 BK207.out; obtain ⟨hfz29_0, hfz29_1, hfz29_2, hfz29_3, hfz29_4⟩ := f5 BK207.out; obtain ⟨hcz30_0, hcz30_1⟩ := b2 BK198.out; obtain ⟨hfz30_0, hfz30_1⟩ := f2 BK198.out) | (refine gl 40 Try.func47 #[.slice (some ad205) l0_0.length c0_0, .agg #[.int .i64 ((rd_T30 ((rd_T33 l0_0 t204).f0) x9_1).f0), .int .i64 ((rd_T30 ((rd_T33 l0_0 t204).f0) x9_1).f1.f0), .int .i64 ((rd_T30 ((rd_T33 l0_0 t204).f0) x9_1).f1.f1), .int .i64 ((rd_T30 ((rd_T33 l0_0 t204).f0) x9_1).f1.f2), .int .i64 ((rd_T30 ((rd_T33 l0_0 t204).f0) x9_1).f1.f3)]] rfl ?_; (with_reducible refine (spec_l3Live.calls k1 _ _ l0_0 ((rd_T30 ((rd_T33 l0_0 t204).f0) x9_1).f0) ((rd_T30 ((rd_T33 l0_0 t204).f0) x9_1).f1.f0) ((rd_T30 ((rd_T33 l0_0 t204).f0) x9_1).f1.f1) ((rd_T30 ((rd_T33 l0_0 t204).f0) x9_1).f1.f2) ((rd_T30 ((rd_T33 l0_0 t204).f0) x9_1).f1.f3) true _ ?side1 ?side2 A22.out).mono ?_); (case side1 => exact Kd.C_below HR0_0.out (bg2 HB.out GE198.out GE207.out)); (case side2 => exact HC0_0.out); rintro e w31 ⟨rfl, hb⟩; refine ⟨_, rfl, ?_⟩; replace HO_5 := am (Kd.R_below (pr ((Kd.R_mono (Kd.R_far (p := ⟨gb207, 4, none⟩) (Kd.R_far (p := ⟨gb207, 3, none⟩) (Kd.R_far (p := ⟨gb207, 2, none⟩) (Kd.R_far (p := ⟨gb207, 1, none⟩) (Kd.R_far (p := ⟨gb207, 0, none⟩) (Kd.R_types HO_5.out BK207.out (by decide)) (fun _ hk => hk.2) (.int .i64 ((rd_T30 ((rd_T33 l0_0 t204).f0) x9_1).f0))) (fun _ hk => hk.2) (.int .i64 ((rd_T30 ((rd_T33 l0_0 t204).f0) x9_1).f1.f0))) (fun _ hk => hk.2) (.int .i64 ((rd_T30 ((rd_T33 l0_0 t204).f0) x9_1).f1.f1))) (fun _ hk => hk.2) (.int .i64 ((rd_T30 ((rd_T33 l0_0 t204).f0) x9_1).f1.f2))) (fun _ hk => hk.2) (.int .i64 ((rd_T30 ((rd_T33 l0_0 t204).f0) x9_1).f1.f3))) (fun _ h_ => h_.1)))) hb); replace BK198 := am (blk_below (bf5 (pb BK198.out) NB198_207.out) hb); replace BK207 := am (blk_below (bp5 (pb BK207.out)) hb); replace HB := am (below_step (bg2 HB.out GE198.out GE207.out) hb); clear hb; have hcz32_0 : w31.cell? ⟨gb207, 0, none⟩ = some (.int .i64 ((rd_T30 ((rd_T33 l0_0 t204).f0) x9_1).f0)) := (blk_cell BK207.out 0).trans rfl; have hcz32_1 : w31.cell? ⟨gb207, 1, none⟩ = some (.int .i64 ((rd_T30 ((rd_T33 l0_0 t204).f0) x9_1).f1.f0)) := (blk_cell BK207.out 1).trans rfl; have hcz32_2 : w31.cell? ⟨gb207, 2, none⟩ = some (.int .i64 ((rd_T30 ((rd_T33 l0_0 t204).f0) x9_1).f1.f1)) := (blk_cell BK207.out 2).trans rfl; have hcz32_3 : w31.cell? ⟨gb207, 3, none⟩ = some (.int .i64 ((rd_T30 ((rd_T33 l0_0 t204).f0) x9_1).f1.f2)) := (blk_cell BK207.out 3).trans rfl; have hcz32_4 : w31.cell? ⟨gb207, 4, none⟩ = some (.int .i64 ((rd_T30 ((rd_T33 l0_0 t204).f0) x9_1).f1.f3)) := (blk_cell BK207.out 4).trans rfl; obtain ⟨hfz32_0, hfz32_1, hfz32_2, hfz32_3, hfz32_4⟩ := f5 BK207.out) | ((with_reducible refine gate_builtin (b := .append) (xs := #[.tmp 47, .tmp 55]) rfl ?_); at_builtin; refine Kd.R_append k75 (w0 := w) w.heap.size rfl (.tmp 47) (.tmp 55) 67 75 (.agg #[(.int .i64 0), (.int .i64 0), (.int .i64 0), (.int .i64 0), (.int .i64 0), (.int .i64 0), (.int .i64 0), (.int .i64 0)]) 64 rfl Try.underlying67 info75 rfl (by decide) (by omega) u5 x5_1 (⟨1, (rd_T30 ((rd_T33 l0_0 t204).f0) x9_1).f1.f2, (rd_T30 ((rd_T33 l0_0 t204).f0) x9_1).f1.f3, 0, (⟨0, 0, 0, 0⟩ : S28)⟩ : S75) [.int .i64 1, .int .i64 ((rd_T30 ((rd_T33 l0_0 t204).f0) x9_1).f1.f2), .int .i64 ((rd_T30 ((rd_T33 l0_0 t204).f0) x9_1).f1.f3), .int .i64 0, .int .i64 0, .int .i64 0, .int .i64 0, .int .i64 0] (fun _ => True) (fun _ => False) rfl rfl ?aP (fun _ hk => hk.elim) ?aF ?aO ?aB ?aS ?aL ?_; (case aP => exact k75_mkM _ _ _ (⟨1, (rd_T30 ((rd_T33 l0_0 t204).f0) x9_1).f1.f2, (rd_T30 ((rd_T33 l0_0 t204).f0) x9_1).f1.f3, 0, (⟨0, 0, 0, 0⟩ : S28)⟩ : S75)); (case aB => exact (bg2 HB.out GE198.out GE207.out)); (case aF => exact (fun _ _ => trivial)); (case aO => exact (pr HO_5.out)); (case aS => exact (below_size (bg2 HB.out GE198.out GE207.out))); (case aL => have := LMc25.out; omega); intro v210 w33 ho hb hg hat; rw [← Ny209.out] at ho; replace BK198 := am (blk_grown (g := gb198) (o := .cells #[.slice (some ad205) l0_0.length c0_0, .slice A0_1 l0_1.length c0_1] 51 (0, 0)) (pb BK198.out) hg (Kd.R_ne HO_5.out BK198.out (by decide))); replace BK207 := am (blk_grown (g := gb207) (o := .cells #[.int .i64 ((rd_T30 ((rd_T33 l0_0 t204).f0) x9_1).f0), .int .i64 ((rd_T30 ((rd_T33 l0_0 t204).f0) x9_1).f1.f0), .int .i64 ((rd_T30 ((rd_T33 l0_0 t204).f0) x9_1).f1.f1), .int .i64 ((rd_T30 ((rd_T33 l0_0 t204).f0) x9_1).f1.f2), .int .i64 ((rd_T30 ((rd_T33 l0_0 t204).f0) x9_1).f1.f3)] 30 (0, 0)) (pb BK207.out) hg (Kd.R_ne HO_5.out BK207.out (by decide))); replace HB := am (hb); have HO211 := am (ho); clear HO_5; clear ho hb hg hat))
   go_roundg k1
   case measure => have := HK1.out; omega
   case rel => exact ⟨(y209), (wrap64 (x9_1 + 1)), rf, H', ⟨by have := HK1.out; omega⟩, ⟨pr HO211.out⟩, ⟨pb BK198.out⟩, ⟨bg2 HB.out GE198.out GE207.out⟩⟩
end Go.Proofs.Ytfijfkbdedcnfaa.R4
