-- printed by wip/pp/pp.py
import Derived.Test.YtpdelojhomfakaaRo0
namespace Go.Proofs.Ytpdelojhomfakaa.Ro
open Go.RowKit Go.Proofs.YtpdelojhomfakaaW.PrintWords Go.Proofs.YtpdelojhomfakaaW.PrintLast Go.Proofs.YtpdelojhomfakaaW.PrintMore
attribute [local go_sem] max2_int min2_int max_two min_two max_three min_three max_four min_four
set_option linter.unusedVariables false
set_option linter.unusedSimpArgs false
mutual
def spec_l71Event.j1 : Nat → List Int → Int → Int → Int → Int → Int → Bool → Option (Int × Int × Int × Int × Bool × Int)
 | 0, _, _, _, _, _, _, _ => none
 | k + 1, x1000, x1001, x126000, x126001, x126002, x126003, x126004 => (spec_l6Rd_pick.f k x1000 x1001 4).bind fun bt130 => (if bt130.1 = 0 then ((spec_l6Rd_pick.f k x1000 bt130.2 5).bind fun bt132 => ((spec_l6Rd_pick.f k x1000 bt132.2 3).bind fun bt134 => (some (x126000, x126001, x126002, bt132.1, decide (bt134.1 > 0), bt134.2)))) else (some (x126000, x126001, x126002, x126003, x126004, bt130.2)))
def spec_l71Event.j0 : Nat → Int → Bool → List Int → Int → Int → Int → Int → Int → Bool → Option (Int × Int × Int × Int × Bool × Int)
 | 0, _, _, _, _, _, _, _, _, _ => none
 | k + 1, x11, x12, x1000, x1001, x126000, x126001, x126002, x126003, x126004 => if x12 = true then (spec_l71Event.j1 k x1000 x1001 2 x126001 x126002 x126003 x126004) else (if x11 = 3 then (spec_l71Event.j1 k x1000 x1001 3 x126001 x126002 x126003 x126004) else (if x11 = 4 then ((spec_l6Rd_pick.f k x1000 x1001 3).bind fun bt128 => (if bt128.1 = 0 then (spec_l71Event.j1 k x1000 bt128.2 4 x126001 x126002 x126003 x126004) else (spec_l71Event.j1 k x1000 bt128.2 x126000 x126001 x126002 x126003 x126004))) else (spec_l71Event.j1 k x1000 x1001 x126000 x126001 x126002 x126003 x126004)))
end
def spec_l71Event.f (k : Nat) (s0_0 : List Int) (s0_1 : Int) : Option (Int × Int × Int × Int × Bool × Int) := (spec_l6Rd_pick.f k s0_0 s0_1 6).bind fun bt121 => ((spec_l6Rd_pick.f k s0_0 bt121.2 10).bind fun bt123 => ((spec_l6Rd_pick.f k s0_0 bt123.2 12).bind fun bt126 => (if bt126.1 = 0 then (spec_l71Event.j0 k bt126.1 (bt126.1 == 0) s0_0 bt126.2 1 (wrap64 (1 + bt121.1)) bt123.1 9 false) else (if bt126.1 = 1 then (spec_l71Event.j0 k bt126.1 (bt126.1 == 1) s0_0 bt126.2 1 (wrap64 (1 + bt121.1)) bt123.1 9 false) else (spec_l71Event.j0 k bt126.1 (bt126.1 == 2) s0_0 bt126.2 1 (wrap64 (1 + bt121.1)) bt123.1 9 false)))))
theorem spec_l71Event.mono_l : ∀ k, (∀ y0 y1 y2 y3 y4 y5 y6, LeO (spec_l71Event.j1 k y0 y1 y2 y3 y4 y5 y6) (spec_l71Event.j1 (k + 1) y0 y1 y2 y3 y4 y5 y6)) ∧ (∀ y0 y1 y2 y3 y4 y5 y6 y7 y8, LeO (spec_l71Event.j0 k y0 y1 y2 y3 y4 y5 y6 y7 y8) (spec_l71Event.j0 (k + 1) y0 y1 y2 y3 y4 y5 y6 y7 y8))
 | 0 => ⟨fun _ _ _ _ _ _ _ r h => by simp [spec_l71Event.j1] at h, fun _ _ _ _ _ _ _ _ _ r h => by simp [spec_l71Event.j0] at h⟩
 | k + 1 => by
  obtain ⟨ih0, ih1⟩ := spec_l71Event.mono_l k
  refine ⟨?_, ?_⟩
  · intro y0 y1 y2 y3 y4 y5 y6
    unfold spec_l71Event.j1
    repeat' first
    | (with_reducible exact ih0 _ _ _ _ _ _ _)
    | (with_reducible exact ih1 _ _ _ _ _ _ _ _ _)
    | (with_reducible exact spec_l6Rd_pick.mono _ _ _ _)
    | (with_reducible exact LeO.refl _)
    | (with_reducible exact LeO.none _)
    | (with_reducible refine LeO.ite ?_ ?_)
    | (with_reducible refine LeO.bind ?_ (fun _ => ?_))
    | exact ih0 _ _ _ _ _ _ _
    | exact ih1 _ _ _ _ _ _ _ _ _
    | exact spec_l6Rd_pick.mono _ _ _ _
    | exact LeO.none _
    | refine LeO.ite ?_ ?_
    | refine LeO.bind ?_ (fun _ => ?_)
  · intro y0 y1 y2 y3 y4 y5 y6 y7 y8
    unfold spec_l71Event.j0
    repeat' first
    | (with_reducible exact ih0 _ _ _ _ _ _ _)
    | (with_reducible exact ih1 _ _ _ _ _ _ _ _ _)
    | (with_reducible exact spec_l6Rd_pick.mono _ _ _ _)
    | (with_reducible exact LeO.refl _)
    | (with_reducible exact LeO.none _)
    | (with_reducible refine LeO.ite ?_ ?_)
    | (with_reducible refine LeO.bind ?_ (fun _ => ?_))
    | exact ih0 _ _ _ _ _ _ _
    | exact ih1 _ _ _ _ _ _ _ _ _
    | exact spec_l6Rd_pick.mono _ _ _ _
    | exact LeO.none _
    | refine LeO.ite ?_ ?_
    | refine LeO.bind ?_ (fun _ => ?_)
theorem spec_l71Event.mono : ∀ a0 a1 k, LeO (spec_l71Event.f k a0 a1) (spec_l71Event.f (k + 1) a0 a1) := by
 intro a0 a1 k
 obtain ⟨ih0, ih1⟩ := spec_l71Event.mono_l k
 unfold spec_l71Event.f
 repeat' first
  | (with_reducible exact ih0 _ _ _ _ _ _ _)
  | (with_reducible exact ih1 _ _ _ _ _ _ _ _ _)
  | (with_reducible exact spec_l6Rd_pick.mono _ _ _ _)
  | (with_reducible exact LeO.refl _)
  | (with_reducible exact LeO.none _)
  | (with_reducible refine LeO.ite ?_ ?_)
  | (with_reducible refine LeO.bind ?_ (fun _ => ?_))
  | exact ih0 _ _ _ _ _ _ _
  | exact ih1 _ _ _ _ _ _ _ _ _
  | exact spec_l6Rd_pick.mono _ _ _ _
  | exact LeO.none _
  | refine LeO.ite ?_ ?_
  | refine LeO.bind ?_ (fun _ => ?_)
set_option maxHeartbeats 8000000 in
set_option maxRecDepth 100000 in
theorem spec_l71Event.calls (k : Nat) (g : Nat) (s0_0 : List Int) (s0_1 : Int) (r1 : Int) (r2 : Int) (r3 : Int) (r4 : Int) (r5 : Bool) (r6 : Int) (w0 w : World) (hI : IsS55 w0 w g s0_0 s0_1) (hB : Below w0.heap.size w0 w) (h : spec_l71Event.f k s0_0 s0_1 = some (r1, r2, r3, r4, r5, r6)) :
 Calls Try.prog 26 #[.pointer (some ⟨g, 0, none⟩)] w fun e w' => e = .returned (.agg #[.int .i64 r1, .int .i64 r2, .int .i64 r3, .int .i64 r4, .bool r5]) ∧ IsS55 w0 w' g s0_0 r6 ∧ Below w0.heap.size w0 w' ∧ KeepBut w w' g none := by
 have hu60 := Try.underlying60
 have HI0 := am hI
 have HK := am (KeepBut.refl w g none)
 have HL := am hB.size
 clear hI
 have HW0 := am hB.size
 have HB := am hB
 clear hB
 have H : ((spec_l6Rd_pick.f k s0_0 s0_1 6).bind fun bt121 => ((spec_l6Rd_pick.f k s0_0 bt121.2 10).bind fun bt123 => ((spec_l6Rd_pick.f k s0_0 bt123.2 12).bind fun bt126 => (if bt126.1 = 0 then (spec_l71Event.j0 k bt126.1 (bt126.1 == 0) s0_0 bt126.2 1 (wrap64 (1 + bt121.1)) bt123.1 9 false) else (if bt126.1 = 1 then (spec_l71Event.j0 k bt126.1 (bt126.1 == 1) s0_0 bt126.2 1 (wrap64 (1 + bt121.1)) bt123.1 9 false) else (spec_l71Event.j0 k bt126.1 (bt126.1 == 2) s0_0 bt126.2 1 (wrap64 (1 + bt121.1)) bt123.1 9 false)))))) = some (r1, r2, r3, r4, r5, r6) := h
 clear h
 replace H := Option.bind_eq_some_iff.mp H
 obtain ⟨⟨t121, t122⟩, A20, H⟩ := H
 replace H : ((spec_l6Rd_pick.f k s0_0 t122 10).bind fun bt123 => ((spec_l6Rd_pick.f k s0_0 bt123.2 12).bind fun bt126 => (if bt126.1 = 0 then (spec_l71Event.j0 k bt126.1 (bt126.1 == 0) s0_0 bt126.2 1 (wrap64 (1 + t121)) bt123.1 9 false) else (if bt126.1 = 1 then (spec_l71Event.j0 k bt126.1 (bt126.1 == 1) s0_0 bt126.2 1 (wrap64 (1 + t121)) bt123.1 9 false) else (spec_l71Event.j0 k bt126.1 (bt126.1 == 2) s0_0 bt126.2 1 (wrap64 (1 + t121)) bt123.1 9 false))))) = some (r1, r2, r3, r4, r5, r6) := H
 have A2 := am A20
 clear A20
 replace H := Option.bind_eq_some_iff.mp H
 obtain ⟨⟨t123, t124⟩, A30, H⟩ := H
 replace H : ((spec_l6Rd_pick.f k s0_0 t124 12).bind fun bt126 => (if bt126.1 = 0 then (spec_l71Event.j0 k bt126.1 (bt126.1 == 0) s0_0 bt126.2 1 (wrap64 (1 + t121)) t123 9 false) else (if bt126.1 = 1 then (spec_l71Event.j0 k bt126.1 (bt126.1 == 1) s0_0 bt126.2 1 (wrap64 (1 + t121)) t123 9 false) else (spec_l71Event.j0 k bt126.1 (bt126.1 == 2) s0_0 bt126.2 1 (wrap64 (1 + t121)) t123 9 false)))) = some (r1, r2, r3, r4, r5, r6) := H
 have A3 := am A30
 clear A30
 replace H := Option.bind_eq_some_iff.mp H
 obtain ⟨⟨t126, t127⟩, A40, H⟩ := H
 replace H : (if t126 = 0 then (spec_l71Event.j0 k t126 (t126 == 0) s0_0 t127 1 (wrap64 (1 + t121)) t123 9 false) else (if t126 = 1 then (spec_l71Event.j0 k t126 (t126 == 1) s0_0 t127 1 (wrap64 (1 + t121)) t123 9 false) else (spec_l71Event.j0 k t126 (t126 == 2) s0_0 t127 1 (wrap64 (1 + t121)) t123 9 false))) = some (r1, r2, r3, r4, r5, r6) := H
 have A4 := am A40
 clear A40
 have HC5 := am H
 clear H
 go_enter Try.func26, Try.ntmps26
 go_upto_block 0 with (first | (refine bx 2 #[.int .i64 0, .int .i64 0, .int .i64 0, .int .i64 0, .bool false] 60 rfl ?_; intro gb120 hg w6 hbox hb; replace HB := am (below_step (by repeat (first | (with_reducible first | exact HB.out | apply below_alloc | apply pw_below_drewN | apply below_drew1 | refine below_set ?_ (IsS55.ge HI0.out)) | exact HB.out)) hb); have BK120 := am (hbox); have GW120 := am ((by rw [hg]; exact (keep_size (w := w) (g := g) (row := none) (by repeat (first | (with_reducible first | exact HK.out | apply KeepBut.set_ | apply keep_drewN | apply keep_drew | apply keep_alloc) | exact HK.out))) : w.heap.size ≤ gb120)); have GE120 := am ((Nat.le_trans HW0.out (by rw [hg]; exact (keep_size (w := w) (g := g) (row := none) (by repeat (first | (with_reducible first | exact HK.out | apply KeepBut.set_ | apply keep_drewN | apply keep_drew | apply keep_alloc) | exact HK.out))) : w.heap.size ≤ gb120) : w0.heap.size ≤ gb120)); replace HK := am (KeepBut.trans (by repeat (first | (with_reducible first | exact HK.out | apply KeepBut.set_ | apply keep_drewN | apply keep_drew | apply keep_alloc) | exact HK.out)) (KeepBut.of_below hb g none) (.inl rfl)); have NB0_120 := am ((by rw [hg]; exact Nat.ne_of_lt (IsS55.lt (show IsS55 w0 _ g s0_0 s0_1 from by repeat (first | (with_reducible first | exact HI0.out | apply IsS55.alloc | apply IsS55.drewN | apply IsS55.drew | apply IsS55.set_1) | exact HI0.out))) : g ≠ gb120)); have NB120_0 := am (Ne.symm NB0_120.out); replace HI0 := am (IsS55.below (by repeat (first | (with_reducible first | exact HI0.out | apply IsS55.alloc | apply IsS55.drewN | apply IsS55.drew | apply IsS55.set_1) | exact HI0.out)) hb); clear hb hbox hg) | (refine gl 5 Try.func19 #[.pointer (some ⟨g, 0, none⟩), .int .i64 6] rfl ?_; (with_reducible refine (spec_l6Rd_pick.calls k g s0_0 s0_1 6 t121 t122 w0 _ ?side1 ?side2 A2.out).mono ?_); (case side1 => repeat (first | (with_reducible first | exact HI0.out | apply IsS55.alloc | apply IsS55.drewN | apply IsS55.drew | apply IsS55.set_1 | refine IsS55.far ?_ NB0_120.out _) | exact HI0.out)); (case side2 => repeat (first | (with_reducible first | exact HB.out | apply below_alloc | apply pw_below_drewN | apply below_drew1 | refine below_set ?_ (IsS55.ge HI0.out) | refine below_set ?_ GE120.out) | exact HB.out)); rintro e w7 ⟨rfl, hi, hb, hk⟩; refine ⟨_, rfl, ?_⟩; replace BK120 := am (KeepBut.blk hk (g' := gb120) (o := .cells #[.int .i64 0, .int .i64 0, .int .i64 0, .int .i64 0, .bool false] 60 (0, 0)) (pb BK120.out) NB120_0.out (by simp)); replace HK := am (KeepBut.trans (by repeat (first | (with_reducible first | exact HK.out | apply KeepBut.set_ | apply keep_drewN | apply keep_drew | apply keep_alloc | refine keep_far ?_ GW120.out _) | exact HK.out)) hk (.inl rfl)); replace HB := am (hb); replace HI0 := am (hi); (try clear hb); (try clear hb2); (try clear hk); (try clear hi)) | (refine gl 8 Try.func19 #[.pointer (some ⟨g, 0, none⟩), .int .i64 10] rfl ?_; (with_reducible refine (spec_l6Rd_pick.calls k g s0_0 t122 10 t123 t124 w0 _ ?side1 ?side2 A3.out).mono ?_); (case side1 => repeat (first | (with_reducible first | exact HI0.out | apply IsS55.alloc | apply IsS55.drewN | apply IsS55.drew | apply IsS55.set_1 | refine IsS55.far ?_ NB0_120.out _) | exact HI0.out)); (case side2 => repeat (first | (with_reducible first | exact HB.out | apply below_alloc | apply pw_below_drewN | apply below_drew1 | refine below_set ?_ (IsS55.ge HI0.out) | refine below_set ?_ GE120.out) | exact HB.out)); rintro e w8 ⟨rfl, hi, hb, hk⟩; refine ⟨_, rfl, ?_⟩; replace BK120 := am (KeepBut.blk hk (g' := gb120) (o := .cells #[.int .i64 0, .int .i64 0, .int .i64 0, .int .i64 0, .bool false] 60 (0, 0)) (pb BK120.out) NB120_0.out (by simp)); replace HK := am (KeepBut.trans (by repeat (first | (with_reducible first | exact HK.out | apply KeepBut.set_ | apply keep_drewN | apply keep_drew | apply keep_alloc | refine keep_far ?_ GW120.out _) | exact HK.out)) hk (.inl rfl)); replace HB := am (hb); replace HI0 := am (hi); (try clear hb); (try clear hb2); (try clear hk); (try clear hi)) | (refine bx 3 #[.int .i64 0, .int .i64 0, .int .i64 0, .int .i64 0, .bool false] 60 rfl ?_; intro gb125 hg w9 hbox hb; replace HB := am (below_step (by repeat (first | (with_reducible first | exact HB.out | apply below_alloc | apply pw_below_drewN | apply below_drew1 | refine below_set ?_ (IsS55.ge HI0.out) | refine below_set ?_ GE120.out) | exact HB.out)) hb); have BK125 := am (hbox); have GW125 := am ((by rw [hg]; exact (keep_size (w := w) (g := g) (row := none) (by repeat (first | (with_reducible first | exact HK.out | apply KeepBut.set_ | apply keep_drewN | apply keep_drew | apply keep_alloc | refine keep_far ?_ GW120.out _) | exact HK.out))) : w.heap.size ≤ gb125)); have GE125 := am ((Nat.le_trans HW0.out (by rw [hg]; exact (keep_size (w := w) (g := g) (row := none) (by repeat (first | (with_reducible first | exact HK.out | apply KeepBut.set_ | apply keep_drewN | apply keep_drew | apply keep_alloc | refine keep_far ?_ GW120.out _) | exact HK.out))) : w.heap.size ≤ gb125) : w0.heap.size ≤ gb125)); replace HK := am (KeepBut.trans (by repeat (first | (with_reducible first | exact HK.out | apply KeepBut.set_ | apply keep_drewN | apply keep_drew | apply keep_alloc | refine keep_far ?_ GW120.out _) | exact HK.out)) (KeepBut.of_below hb g none) (.inl rfl)); have NB120_125 := am ((by rw [hg]; exact Nat.ne_of_lt (blk_lt (pb BK120.out)) : gb120 ≠ gb125)); have NB125_120 := am (Ne.symm NB120_125.out); replace BK120 := am (blk_below (pb BK120.out) hb); have NB0_125 := am ((by rw [hg]; exact Nat.ne_of_lt (IsS55.lt (show IsS55 w0 _ g s0_0 t124 from by repeat (first | (with_reducible first | exact HI0.out | apply IsS55.alloc | apply IsS55.drewN | apply IsS55.drew | apply IsS55.set_1 | refine IsS55.far ?_ NB0_120.out _) | exact HI0.out))) : g ≠ gb125)); have NB125_0 := am (Ne.symm NB0_125.out); replace HI0 := am (IsS55.below (by repeat (first | (with_reducible first | exact HI0.out | apply IsS55.alloc | apply IsS55.drewN | apply IsS55.drew | apply IsS55.set_1 | refine IsS55.far ?_ NB0_120.out _) | exact HI0.out)) hb); clear hb hbox hg; have hnb10 := NB125_120.out; have hnc10 := NB120_125.out; have hnb11 := NB125_0.out; have hnc11 := NB0_125.out; obtain ⟨hcz12_0, hcz12_1, hcz12_2, hcz12_3, hcz12_4⟩ := b5 BK125.out; obtain ⟨hfz12_0, hfz12_1, hfz12_2, hfz12_3, hfz12_4⟩ := f5 BK125.out) | (refine gl 11 Try.func19 #[.pointer (some ⟨g, 0, none⟩), .int .i64 12] rfl ?_; (with_reducible refine (spec_l6Rd_pick.calls k g s0_0 t124 12 t126 t127 w0 _ ?side1 ?side2 A4.out).mono ?_); (case side1 => repeat (first | (with_reducible first | exact HI0.out | apply IsS55.alloc | apply IsS55.drewN | apply IsS55.drew | apply IsS55.set_1 | refine IsS55.far ?_ NB0_120.out _ | refine IsS55.far ?_ NB0_125.out _) | exact HI0.out)); (case side2 => repeat (first | (with_reducible first | exact HB.out | apply below_alloc | apply pw_below_drewN | apply below_drew1 | refine below_set ?_ (IsS55.ge HI0.out) | refine below_set ?_ GE120.out | refine below_set ?_ GE125.out) | exact HB.out)); rintro e w13 ⟨rfl, hi, hb, hk⟩; refine ⟨_, rfl, ?_⟩; replace BK120 := am (KeepBut.blk hk (g' := gb120) (o := .cells #[.int .i64 0, .int .i64 0, .int .i64 0, .int .i64 0, .bool false] 60 (0, 0)) (by (with_reducible repeat (first | refine blk_drewN ?_ _ | refine blk_drew ?_ | refine blk_alloc ?_ _)); refine blk_far ?_ NB120_125.out _; (with_reducible repeat (first | refine blk_drewN ?_ _ | refine blk_drew ?_ | refine blk_alloc ?_ _)); refine blk_far ?_ NB120_125.out _; (with_reducible repeat (first | refine blk_drewN ?_ _ | refine blk_drew ?_ | refine blk_alloc ?_ _)); refine blk_far ?_ NB120_125.out _; (with_reducible repeat (first | refine blk_drewN ?_ _ | refine blk_drew ?_ | refine blk_alloc ?_ _)); refine blk_far ?_ NB120_125.out _; (with_reducible repeat (first | refine blk_drewN ?_ _ | refine blk_drew ?_ | refine blk_alloc ?_ _)); refine blk_far ?_ NB120_125.out _; (with_reducible repeat (first | refine blk_drewN ?_ _ | refine blk_drew ?_ | refine blk_alloc ?_ _)); exact BK120.out) NB120_0.out (by simp)); replace BK125 := am (KeepBut.blk hk (g' := gb125) (o := .cells #[.int .i64 1, .int .i64 (wrap64 (1 + t121)), .int .i64 t123, .int .i64 9, .bool false] 60 (0, 0)) (by (with_reducible repeat (first | refine blk_drewN ?_ _ | refine blk_drew ?_ | refine blk_alloc ?_ _)); refine blk_put (cs := #[.int .i64 1, .int .i64 (wrap64 (1 + t121)), .int .i64 t123, .int .i64 9, .bool false]) ?_ 4 _ rfl; (with_reducible repeat (first | refine blk_drewN ?_ _ | refine blk_drew ?_ | refine blk_alloc ?_ _)); refine blk_put (cs := #[.int .i64 1, .int .i64 (wrap64 (1 + t121)), .int .i64 t123, .int .i64 0, .bool false]) ?_ 3 _ rfl; (with_reducible repeat (first | refine blk_drewN ?_ _ | refine blk_drew ?_ | refine blk_alloc ?_ _)); refine blk_put (cs := #[.int .i64 1, .int .i64 (wrap64 (1 + t121)), .int .i64 0, .int .i64 0, .bool false]) ?_ 2 _ rfl; (with_reducible repeat (first | refine blk_drewN ?_ _ | refine blk_drew ?_ | refine blk_alloc ?_ _)); refine blk_put (cs := #[.int .i64 1, .int .i64 0, .int .i64 0, .int .i64 0, .bool false]) ?_ 1 _ rfl; (with_reducible repeat (first | refine blk_drewN ?_ _ | refine blk_drew ?_ | refine blk_alloc ?_ _)); refine blk_put (cs := #[.int .i64 0, .int .i64 0, .int .i64 0, .int .i64 0, .bool false]) ?_ 0 _ rfl; (with_reducible repeat (first | refine blk_drewN ?_ _ | refine blk_drew ?_ | refine blk_alloc ?_ _)); exact BK125.out) NB125_0.out (by simp)); replace HK := am (KeepBut.trans (by repeat (first | (with_reducible first | exact HK.out | apply KeepBut.set_ | apply keep_drewN | apply keep_drew | apply keep_alloc | refine keep_far ?_ GW120.out _ | refine keep_far ?_ GW125.out _) | exact HK.out)) hk (.inl rfl)); replace HB := am (hb); replace HI0 := am (hi); (try clear hb); (try clear hb2); (try clear hk); (try clear hi)))
 (try simp only [Act.put, List.setIfInBounds_toArray, List.set_cons_zero, List.set_cons_succ])
 go_cut [] (fun wc => ∃ (kq : Nat) (x1001_4 : Int) (x126000_4 : Int), Aside0 (spec_l71Event.j1 kq s0_0 x1001_4 x126000_4 (wrap64 (1 + t121)) t123 9 false = some (r1, r2, r3, r4, r5, r6)) ∧ Aside0 (kq ≤ k) ∧ Aside0 (wc.heap[gb120]? = some (.cells #[.int .i64 0, .int .i64 0, .int .i64 0, .int .i64 0, .bool false] 60 (0, 0))) ∧ Aside0 (wc.heap[gb125]? = some (.cells #[.int .i64 x126000_4, .int .i64 (wrap64 (1 + t121)), .int .i64 t123, .int .i64 9, .bool false] 60 (0, 0))) ∧ Aside0 (IsS55 w0 wc g s0_0 x1001_4) ∧ Aside0 (KeepBut w wc g none) ∧ Aside0 (Below w0.heap.size w0 wc))
 case first =>
  have H := HC5.out
  clear HC5
  have HC14 := am H
  clear H
  go_upto_if 12 with (fail)
  go_cut [12] (fun v12 wc => ∃ (kq : Nat) (x12_13 : Bool), v12 = .bool x12_13 ∧ Aside0 (spec_l71Event.j0 kq t126 x12_13 s0_0 t127 1 (wrap64 (1 + t121)) t123 9 false = some (r1, r2, r3, r4, r5, r6)) ∧ Aside0 (kq ≤ k) ∧ Aside0 (wc.heap[gb120]? = some (.cells #[.int .i64 0, .int .i64 0, .int .i64 0, .int .i64 0, .bool false] 60 (0, 0))) ∧ Aside0 (wc.heap[gb125]? = some (.cells #[.int .i64 1, .int .i64 (wrap64 (1 + t121)), .int .i64 t123, .int .i64 9, .bool false] 60 (0, 0))) ∧ Aside0 (IsS55 w0 wc g s0_0 t127) ∧ Aside0 (KeepBut w wc g none) ∧ Aside0 (Below w0.heap.size w0 wc))
  case first =>
   have H := HC14.out
   clear HC14
   by_cases c15 : t126 = 0
   · rw [if_pos c15] at H
     have c15b0 : (t126 == 0) = true := beq_iff_eq.mpr c15
     have c15b1 : (t126 != 0) = false := bne_eq_false_iff_eq.mpr c15
     clear c15
     (first | rw [c15b0] | (simp only [i64_w, i32_w]; rw [c15b0]) | skip)
     have H' := am H
     clear H
     go_wp2
     go_meet
     case rel => exact ⟨_, ((t126 == 0)), rf, H', ⟨by first | omega | exact Nat.le_refl _⟩, ⟨pb BK120.out⟩, ⟨pb BK125.out⟩, ⟨by repeat (first | (with_reducible first | exact HI0.out | apply IsS55.alloc | apply IsS55.drewN | apply IsS55.drew | apply IsS55.set_1 | refine IsS55.far ?_ NB0_120.out _ | refine IsS55.far ?_ NB0_125.out _) | exact HI0.out)⟩, ⟨by repeat (first | (with_reducible first | exact HK.out | apply KeepBut.set_ | apply keep_drewN | apply keep_drew | apply keep_alloc | refine keep_far ?_ GW120.out _ | refine keep_far ?_ GW125.out _) | exact HK.out)⟩, ⟨by repeat (first | (with_reducible first | exact HB.out | apply below_alloc | apply pw_below_drewN | apply below_drew1 | refine below_set ?_ (IsS55.ge HI0.out) | refine below_set ?_ GE120.out | refine below_set ?_ GE125.out) | exact HB.out)⟩⟩
   rw [if_neg c15] at H
   have c15b0 : (t126 == 0) = false := beq_eq_false_iff_ne.mpr c15
   have c15b1 : (t126 != 0) = true := bne_iff_ne.mpr c15
   (first | rw [c15b0] | (simp only [i64_w, i32_w]; rw [c15b0]) | skip)
   by_cases c16 : t126 = 1
   rotate_left
   · rw [if_neg c16] at H
     have c16b0 : (t126 == 1) = false := beq_eq_false_iff_ne.mpr c16
     have c16b1 : (t126 != 1) = true := bne_iff_ne.mpr c16
     have H' := am H
     clear H
     go_wp2
     go_meet
     case rel => exact ⟨_, ((t126 == 2)), rf, H', ⟨by first | omega | exact Nat.le_refl _⟩, ⟨pb BK120.out⟩, ⟨pb BK125.out⟩, ⟨by repeat (first | (with_reducible first | exact HI0.out | apply IsS55.alloc | apply IsS55.drewN | apply IsS55.drew | apply IsS55.set_1 | refine IsS55.far ?_ NB0_120.out _ | refine IsS55.far ?_ NB0_125.out _) | exact HI0.out)⟩, ⟨by repeat (first | (with_reducible first | exact HK.out | apply KeepBut.set_ | apply keep_drewN | apply keep_drew | apply keep_alloc | refine keep_far ?_ GW120.out _ | refine keep_far ?_ GW125.out _) | exact HK.out)⟩, ⟨by repeat (first | (with_reducible first | exact HB.out | apply below_alloc | apply pw_below_drewN | apply below_drew1 | refine below_set ?_ (IsS55.ge HI0.out) | refine below_set ?_ GE120.out | refine below_set ?_ GE125.out) | exact HB.out)⟩⟩
   rw [if_pos c16] at H
   have c16b0 : (t126 == 1) = true := beq_iff_eq.mpr c16
   have c16b1 : (t126 != 1) = false := bne_eq_false_iff_eq.mpr c16
   clear c16
   have H' := am H
   clear H
   go_wp2
   go_meet
   case rel => exact ⟨_, ((t126 == 1)), rf, H', ⟨by first | omega | exact Nat.le_refl _⟩, ⟨pb BK120.out⟩, ⟨pb BK125.out⟩, ⟨by repeat (first | (with_reducible first | exact HI0.out | apply IsS55.alloc | apply IsS55.drewN | apply IsS55.drew | apply IsS55.set_1 | refine IsS55.far ?_ NB0_120.out _ | refine IsS55.far ?_ NB0_125.out _) | exact HI0.out)⟩, ⟨by repeat (first | (with_reducible first | exact HK.out | apply KeepBut.set_ | apply keep_drewN | apply keep_drew | apply keep_alloc | refine keep_far ?_ GW120.out _ | refine keep_far ?_ GW125.out _) | exact HK.out)⟩, ⟨by repeat (first | (with_reducible first | exact HB.out | apply below_alloc | apply pw_below_drewN | apply below_drew1 | refine below_set ?_ (IsS55.ge HI0.out) | refine below_set ?_ GE120.out | refine below_set ?_ GE125.out) | exact HB.out)⟩⟩
  case rest =>
   clear HC14
   obtain ⟨kq, x12_13, rfl, HA, HJ13, BK120, BK125, HI0, HK, HB⟩ := hcut
   cases kq with
   | zero => exact absurd HA.out (by simp [spec_l71Event.j0])
   | succ kj13 =>
    have H := HA.out
    clear HA
    simp only [spec_l71Event.j0] at H
    by_cases c17 : x12_13 = true
    · subst c17
      have H1 : (spec_l71Event.j1 kj13 s0_0 t127 2 (wrap64 (1 + t121)) t123 9 false) = some (r1, r2, r3, r4, r5, r6) := by rw [if_pos rfl] at H; exact H
      clear H
      have H := H1
      clear H1
      have H' := am H
      clear H
      have hnb18 := NB125_120.out
      have hnc18 := NB120_125.out
      have hnb19 := NB125_0.out
      have hnc19 := NB0_125.out
      obtain ⟨hcz20_0, hcz20_1, hcz20_2, hcz20_3, hcz20_4⟩ := b5 BK125.out
      obtain ⟨hfz20_0, hfz20_1, hfz20_2, hfz20_3, hfz20_4⟩ := f5 BK125.out
      go_wp2
      go_meet
      case rel => exact ⟨_, (t127), (2), H', ⟨by have := HJ13.out; first | omega | exact Nat.le_refl _⟩, ⟨by (with_reducible repeat (first | refine blk_drewN ?_ _ | refine blk_drew ?_ | refine blk_alloc ?_ _)); refine blk_far ?_ NB120_125.out _; (with_reducible repeat (first | refine blk_drewN ?_ _ | refine blk_drew ?_ | refine blk_alloc ?_ _)); exact BK120.out⟩, ⟨by (with_reducible repeat (first | refine blk_drewN ?_ _ | refine blk_drew ?_ | refine blk_alloc ?_ _)); refine blk_put (cs := #[.int .i64 1, .int .i64 (wrap64 (1 + t121)), .int .i64 t123, .int .i64 9, .bool false]) ?_ 0 _ rfl; (with_reducible repeat (first | refine blk_drewN ?_ _ | refine blk_drew ?_ | refine blk_alloc ?_ _)); exact BK125.out⟩, ⟨by repeat (first | (with_reducible first | exact HI0.out | apply IsS55.alloc | apply IsS55.drewN | apply IsS55.drew | apply IsS55.set_1 | refine IsS55.far ?_ NB0_120.out _ | refine IsS55.far ?_ NB0_125.out _) | exact HI0.out)⟩, ⟨by repeat (first | (with_reducible first | exact HK.out | apply KeepBut.set_ | apply keep_drewN | apply keep_drew | apply keep_alloc | refine keep_far ?_ GW120.out _ | refine keep_far ?_ GW125.out _) | exact HK.out)⟩, ⟨by repeat (first | (with_reducible first | exact HB.out | apply below_alloc | apply pw_below_drewN | apply below_drew1 | refine below_set ?_ (IsS55.ge HI0.out) | refine below_set ?_ GE120.out | refine below_set ?_ GE125.out) | exact HB.out)⟩⟩
    replace c17 := Bool.eq_false_iff.mpr c17
    subst c17
    have H1 : (if t126 = 3 then (spec_l71Event.j1 kj13 s0_0 t127 3 (wrap64 (1 + t121)) t123 9 false) else (if t126 = 4 then ((spec_l6Rd_pick.f kj13 s0_0 t127 3).bind fun bt128 => (if bt128.1 = 0 then (spec_l71Event.j1 kj13 s0_0 bt128.2 4 (wrap64 (1 + t121)) t123 9 false) else (spec_l71Event.j1 kj13 s0_0 bt128.2 1 (wrap64 (1 + t121)) t123 9 false))) else (spec_l71Event.j1 kj13 s0_0 t127 1 (wrap64 (1 + t121)) t123 9 false))) = some (r1, r2, r3, r4, r5, r6) := by rw [if_neg (show ¬ (false = true) by decide)] at H; exact H
    clear H
    have H := H1
    clear H1
    by_cases c21 : t126 = 3
    · rw [if_pos c21] at H
      have c21b0 : (t126 == 3) = true := beq_iff_eq.mpr c21
      have c21b1 : (t126 != 3) = false := bne_eq_false_iff_eq.mpr c21
      clear c21
      have H' := am H
      clear H
      have hnb22 := NB125_120.out
      have hnc22 := NB120_125.out
      have hnb23 := NB125_0.out
      have hnc23 := NB0_125.out
      obtain ⟨hcz24_0, hcz24_1, hcz24_2, hcz24_3, hcz24_4⟩ := b5 BK125.out
      obtain ⟨hfz24_0, hfz24_1, hfz24_2, hfz24_3, hfz24_4⟩ := f5 BK125.out
      go_wp2
      go_meet
      case rel => exact ⟨_, (t127), (3), H', ⟨by have := HJ13.out; first | omega | exact Nat.le_refl _⟩, ⟨by (with_reducible repeat (first | refine blk_drewN ?_ _ | refine blk_drew ?_ | refine blk_alloc ?_ _)); refine blk_far ?_ NB120_125.out _; (with_reducible repeat (first | refine blk_drewN ?_ _ | refine blk_drew ?_ | refine blk_alloc ?_ _)); exact BK120.out⟩, ⟨by (with_reducible repeat (first | refine blk_drewN ?_ _ | refine blk_drew ?_ | refine blk_alloc ?_ _)); refine blk_put (cs := #[.int .i64 1, .int .i64 (wrap64 (1 + t121)), .int .i64 t123, .int .i64 9, .bool false]) ?_ 0 _ rfl; (with_reducible repeat (first | refine blk_drewN ?_ _ | refine blk_drew ?_ | refine blk_alloc ?_ _)); exact BK125.out⟩, ⟨by repeat (first | (with_reducible first | exact HI0.out | apply IsS55.alloc | apply IsS55.drewN | apply IsS55.drew | apply IsS55.set_1 | refine IsS55.far ?_ NB0_120.out _ | refine IsS55.far ?_ NB0_125.out _) | exact HI0.out)⟩, ⟨by repeat (first | (with_reducible first | exact HK.out | apply KeepBut.set_ | apply keep_drewN | apply keep_drew | apply keep_alloc | refine keep_far ?_ GW120.out _ | refine keep_far ?_ GW125.out _) | exact HK.out)⟩, ⟨by repeat (first | (with_reducible first | exact HB.out | apply below_alloc | apply pw_below_drewN | apply below_drew1 | refine below_set ?_ (IsS55.ge HI0.out) | refine below_set ?_ GE120.out | refine below_set ?_ GE125.out) | exact HB.out)⟩⟩
    rw [if_neg c21] at H
    have c21b0 : (t126 == 3) = false := beq_eq_false_iff_ne.mpr c21
    have c21b1 : (t126 != 3) = true := bne_iff_ne.mpr c21
    by_cases c25 : t126 = 4
    rotate_left
    · rw [if_neg c25] at H
      have c25b0 : (t126 == 4) = false := beq_eq_false_iff_ne.mpr c25
      have c25b1 : (t126 != 4) = true := bne_iff_ne.mpr c25
      have H' := am H
      clear H
      go_wp2
      go_meet
      case rel => exact ⟨_, (t127), (1), H', ⟨by have := HJ13.out; first | omega | exact Nat.le_refl _⟩, ⟨pb BK120.out⟩, ⟨pb BK125.out⟩, ⟨by repeat (first | (with_reducible first | exact HI0.out | apply IsS55.alloc | apply IsS55.drewN | apply IsS55.drew | apply IsS55.set_1 | refine IsS55.far ?_ NB0_120.out _ | refine IsS55.far ?_ NB0_125.out _) | exact HI0.out)⟩, ⟨by repeat (first | (with_reducible first | exact HK.out | apply KeepBut.set_ | apply keep_drewN | apply keep_drew | apply keep_alloc | refine keep_far ?_ GW120.out _ | refine keep_far ?_ GW125.out _) | exact HK.out)⟩, ⟨by repeat (first | (with_reducible first | exact HB.out | apply below_alloc | apply pw_below_drewN | apply below_drew1 | refine below_set ?_ (IsS55.ge HI0.out) | refine below_set ?_ GE120.out | refine below_set ?_ GE125.out) | exact HB.out)⟩⟩
    rw [if_pos c25] at H
    have c25b0 : (t126 == 4) = true := beq_iff_eq.mpr c25
    have c25b1 : (t126 != 4) = false := bne_eq_false_iff_eq.mpr c25
    clear c25
    replace H := Option.bind_eq_some_iff.mp H
    obtain ⟨⟨t128, t129⟩, A260, H⟩ := H
    replace H : (if t128 = 0 then (spec_l71Event.j1 kj13 s0_0 t129 4 (wrap64 (1 + t121)) t123 9 false) else (spec_l71Event.j1 kj13 s0_0 t129 1 (wrap64 (1 + t121)) t123 9 false)) = some (r1, r2, r3, r4, r5, r6) := H
    have A26 := am A260
    clear A260
    by_cases c27 : t128 = 0
    rotate_left
    · rw [if_neg c27] at H
      have c27b0 : (t128 == 0) = false := beq_eq_false_iff_ne.mpr c27
      have c27b1 : (t128 != 0) = true := bne_iff_ne.mpr c27
      have H' := am H
      clear H
      go_wp2_with (first | (refine gl 23 Try.func19 #[.pointer (some ⟨g, 0, none⟩), .int .i64 3] rfl ?_; (with_reducible refine (spec_l6Rd_pick.calls kj13 g s0_0 t127 3 t128 t129 w0 _ ?side1 ?side2 A26.out).mono ?_); (case side1 => repeat (first | (with_reducible first | exact HI0.out | apply IsS55.alloc | apply IsS55.drewN | apply IsS55.drew | apply IsS55.set_1 | refine IsS55.far ?_ NB0_120.out _ | refine IsS55.far ?_ NB0_125.out _) | exact HI0.out)); (case side2 => repeat (first | (with_reducible first | exact HB.out | apply below_alloc | apply pw_below_drewN | apply below_drew1 | refine below_set ?_ (IsS55.ge HI0.out) | refine below_set ?_ GE120.out | refine below_set ?_ GE125.out) | exact HB.out)); rintro e w32 ⟨rfl, hi, hb, hk⟩; refine ⟨_, rfl, ?_⟩; replace BK120 := am (KeepBut.blk hk (g' := gb120) (o := .cells #[.int .i64 0, .int .i64 0, .int .i64 0, .int .i64 0, .bool false] 60 (0, 0)) (pb BK120.out) NB120_0.out (by simp)); replace BK125 := am (KeepBut.blk hk (g' := gb125) (o := .cells #[.int .i64 1, .int .i64 (wrap64 (1 + t121)), .int .i64 t123, .int .i64 9, .bool false] 60 (0, 0)) (pb BK125.out) NB125_0.out (by simp)); replace HK := am (KeepBut.trans (by repeat (first | (with_reducible first | exact HK.out | apply KeepBut.set_ | apply keep_drewN | apply keep_drew | apply keep_alloc | refine keep_far ?_ GW120.out _ | refine keep_far ?_ GW125.out _) | exact HK.out)) hk (.inl rfl)); replace HB := am (hb); replace HI0 := am (hi); (try clear hb); (try clear hb2); (try clear hk); (try clear hi)))
      go_meet
      case rel => exact ⟨_, (t129), (1), H', ⟨by have := HJ13.out; first | omega | exact Nat.le_refl _⟩, ⟨pb BK120.out⟩, ⟨pb BK125.out⟩, ⟨by repeat (first | (with_reducible first | exact HI0.out | apply IsS55.alloc | apply IsS55.drewN | apply IsS55.drew | apply IsS55.set_1 | refine IsS55.far ?_ NB0_120.out _ | refine IsS55.far ?_ NB0_125.out _) | exact HI0.out)⟩, ⟨by repeat (first | (with_reducible first | exact HK.out | apply KeepBut.set_ | apply keep_drewN | apply keep_drew | apply keep_alloc | refine keep_far ?_ GW120.out _ | refine keep_far ?_ GW125.out _) | exact HK.out)⟩, ⟨by repeat (first | (with_reducible first | exact HB.out | apply below_alloc | apply pw_below_drewN | apply below_drew1 | refine below_set ?_ (IsS55.ge HI0.out) | refine below_set ?_ GE120.out | refine below_set ?_ GE125.out) | exact HB.out)⟩⟩
    rw [if_pos c27] at H
    have c27b0 : (t128 == 0) = true := beq_iff_eq.mpr c27
    have c27b1 : (t128 != 0) = false := bne_eq_false_iff_eq.mpr c27
    clear c27
    have H' := am H
    clear H
    go_wp2_with (first | (refine gl 23 Try.func19 #[.pointer (some ⟨g, 0, none⟩), .int .i64 3] rfl ?_; (with_reducible refine (spec_l6Rd_pick.calls kj13 g s0_0 t127 3 t128 t129 w0 _ ?side1 ?side2 A26.out).mono ?_); (case side1 => repeat (first | (with_reducible first | exact HI0.out | apply IsS55.alloc | apply IsS55.drewN | apply IsS55.drew | apply IsS55.set_1 | refine IsS55.far ?_ NB0_120.out _ | refine IsS55.far ?_ NB0_125.out _) | exact HI0.out)); (case side2 => repeat (first | (with_reducible first | exact HB.out | apply below_alloc | apply pw_below_drewN | apply below_drew1 | refine below_set ?_ (IsS55.ge HI0.out) | refine below_set ?_ GE120.out | refine below_set ?_ GE125.out) | exact HB.out)); rintro e w28 ⟨rfl, hi, hb, hk⟩; refine ⟨_, rfl, ?_⟩; replace BK120 := am (KeepBut.blk hk (g' := gb120) (o := .cells #[.int .i64 0, .int .i64 0, .int .i64 0, .int .i64 0, .bool false] 60 (0, 0)) (pb BK120.out) NB120_0.out (by simp)); replace BK125 := am (KeepBut.blk hk (g' := gb125) (o := .cells #[.int .i64 1, .int .i64 (wrap64 (1 + t121)), .int .i64 t123, .int .i64 9, .bool false] 60 (0, 0)) (pb BK125.out) NB125_0.out (by simp)); replace HK := am (KeepBut.trans (by repeat (first | (with_reducible first | exact HK.out | apply KeepBut.set_ | apply keep_drewN | apply keep_drew | apply keep_alloc | refine keep_far ?_ GW120.out _ | refine keep_far ?_ GW125.out _) | exact HK.out)) hk (.inl rfl)); replace HB := am (hb); replace HI0 := am (hi); (try clear hb); (try clear hb2); (try clear hk); (try clear hi); have hnb29 := NB125_120.out; have hnc29 := NB120_125.out; have hnb30 := NB125_0.out; have hnc30 := NB0_125.out; obtain ⟨hcz31_0, hcz31_1, hcz31_2, hcz31_3, hcz31_4⟩ := b5 BK125.out; obtain ⟨hfz31_0, hfz31_1, hfz31_2, hfz31_3, hfz31_4⟩ := f5 BK125.out))
    go_meet
    case rel => exact ⟨_, (t129), (4), H', ⟨by have := HJ13.out; first | omega | exact Nat.le_refl _⟩, ⟨by (with_reducible repeat (first | refine blk_drewN ?_ _ | refine blk_drew ?_ | refine blk_alloc ?_ _)); refine blk_far ?_ NB120_125.out _; (with_reducible repeat (first | refine blk_drewN ?_ _ | refine blk_drew ?_ | refine blk_alloc ?_ _)); exact BK120.out⟩, ⟨by (with_reducible repeat (first | refine blk_drewN ?_ _ | refine blk_drew ?_ | refine blk_alloc ?_ _)); refine blk_put (cs := #[.int .i64 1, .int .i64 (wrap64 (1 + t121)), .int .i64 t123, .int .i64 9, .bool false]) ?_ 0 _ rfl; (with_reducible repeat (first | refine blk_drewN ?_ _ | refine blk_drew ?_ | refine blk_alloc ?_ _)); exact BK125.out⟩, ⟨by repeat (first | (with_reducible first | exact HI0.out | apply IsS55.alloc | apply IsS55.drewN | apply IsS55.drew | apply IsS55.set_1 | refine IsS55.far ?_ NB0_120.out _ | refine IsS55.far ?_ NB0_125.out _) | exact HI0.out)⟩, ⟨by repeat (first | (with_reducible first | exact HK.out | apply KeepBut.set_ | apply keep_drewN | apply keep_drew | apply keep_alloc | refine keep_far ?_ GW120.out _ | refine keep_far ?_ GW125.out _) | exact HK.out)⟩, ⟨by repeat (first | (with_reducible first | exact HB.out | apply below_alloc | apply pw_below_drewN | apply below_drew1 | refine below_set ?_ (IsS55.ge HI0.out) | refine below_set ?_ GE120.out | refine below_set ?_ GE125.out) | exact HB.out)⟩⟩
 case rest =>
  clear HC5
  obtain ⟨kq, x1001_4, x126000_4, HA, HJ4, BK120, BK125, HI0, HK, HB⟩ := hcut
  cases kq with
  | zero => exact absurd HA.out (by simp [spec_l71Event.j1])
  | succ kj4 =>
   have H := HA.out
   clear HA
   simp only [spec_l71Event.j1] at H
   replace H := Option.bind_eq_some_iff.mp H
   obtain ⟨⟨t130, t131⟩, A330, H⟩ := H
   replace H : (if t130 = 0 then ((spec_l6Rd_pick.f kj4 s0_0 t131 5).bind fun bt132 => ((spec_l6Rd_pick.f kj4 s0_0 bt132.2 3).bind fun bt134 => (some (x126000_4, (wrap64 (1 + t121)), t123, bt132.1, decide (bt134.1 > 0), bt134.2)))) else (some (x126000_4, (wrap64 (1 + t121)), t123, 9, false, t131))) = some (r1, r2, r3, r4, r5, r6) := H
   have A33 := am A330
   clear A330
   by_cases c34 : t130 = 0
   rotate_left
   · rw [if_neg c34] at H
     have c34b0 : (t130 == 0) = false := beq_eq_false_iff_ne.mpr c34
     have c34b1 : (t130 != 0) = true := bne_iff_ne.mpr c34
     simp only [Option.some.injEq, Prod.mk.injEq] at H
     obtain ⟨rfl, rfl, rfl, rfl, rfl, rfl⟩ := H
     go_wp2_with (first | (refine gl 27 Try.func19 #[.pointer (some ⟨g, 0, none⟩), .int .i64 4] rfl ?_; (with_reducible refine (spec_l6Rd_pick.calls kj4 g s0_0 x1001_4 4 t130 t131 w0 _ ?side1 ?side2 A33.out).mono ?_); (case side1 => repeat (first | (with_reducible first | exact HI0.out | apply IsS55.alloc | apply IsS55.drewN | apply IsS55.drew | apply IsS55.set_1 | refine IsS55.far ?_ NB0_120.out _ | refine IsS55.far ?_ NB0_125.out _) | exact HI0.out)); (case side2 => repeat (first | (with_reducible first | exact HB.out | apply below_alloc | apply pw_below_drewN | apply below_drew1 | refine below_set ?_ (IsS55.ge HI0.out) | refine below_set ?_ GE120.out | refine below_set ?_ GE125.out) | exact HB.out)); rintro e w46 ⟨rfl, hi, hb, hk⟩; refine ⟨_, rfl, ?_⟩; replace BK120 := am (KeepBut.blk hk (g' := gb120) (o := .cells #[.int .i64 0, .int .i64 0, .int .i64 0, .int .i64 0, .bool false] 60 (0, 0)) (pb BK120.out) NB120_0.out (by simp)); replace BK125 := am (KeepBut.blk hk (g' := gb125) (o := .cells #[.int .i64 x126000_4, .int .i64 (wrap64 (1 + t121)), .int .i64 t123, .int .i64 9, .bool false] 60 (0, 0)) (pb BK125.out) NB125_0.out (by simp)); replace HK := am (KeepBut.trans (by repeat (first | (with_reducible first | exact HK.out | apply KeepBut.set_ | apply keep_drewN | apply keep_drew | apply keep_alloc | refine keep_far ?_ GW120.out _ | refine keep_far ?_ GW125.out _) | exact HK.out)) hk (.inl rfl)); replace HB := am (hb); replace HI0 := am (hi); (try clear hb); (try clear hb2); (try clear hk); (try clear hi); have hnb47 := NB125_120.out; have hnc47 := NB120_125.out; have hnb48 := NB125_0.out; have hnc48 := NB0_125.out; obtain ⟨hcz49_0, hcz49_1, hcz49_2, hcz49_3, hcz49_4⟩ := b5 BK125.out; obtain ⟨hfz49_0, hfz49_1, hfz49_2, hfz49_3, hfz49_4⟩ := f5 BK125.out; have hnb50 := NB120_0.out; have hnc50 := NB0_120.out; obtain ⟨hcz51_0, hcz51_1, hcz51_2, hcz51_3, hcz51_4⟩ := b5 BK120.out; obtain ⟨hfz51_0, hfz51_1, hfz51_2, hfz51_3, hfz51_4⟩ := f5 BK120.out))
     refine bodyPost_ret (results_cell_row rfl _ _ gb120 60 #[.int .i64 x126000_4, .int .i64 (wrap64 (1 + t121)), .int .i64 t123, .int .i64 9, .bool false] (0, 0) _ rfl (by (with_reducible repeat (first | refine blk_drewN ?_ _ | refine blk_drew ?_ | refine blk_alloc ?_ _)); refine blk_put (cs := #[.int .i64 x126000_4, .int .i64 (wrap64 (1 + t121)), .int .i64 t123, .int .i64 9, .bool false]) ?_ 4 _ rfl; (with_reducible repeat (first | refine blk_drewN ?_ _ | refine blk_drew ?_ | refine blk_alloc ?_ _)); refine blk_put (cs := #[.int .i64 x126000_4, .int .i64 (wrap64 (1 + t121)), .int .i64 t123, .int .i64 0, .bool false]) ?_ 3 _ rfl; (with_reducible repeat (first | refine blk_drewN ?_ _ | refine blk_drew ?_ | refine blk_alloc ?_ _)); refine blk_put (cs := #[.int .i64 x126000_4, .int .i64 (wrap64 (1 + t121)), .int .i64 0, .int .i64 0, .bool false]) ?_ 2 _ rfl; (with_reducible repeat (first | refine blk_drewN ?_ _ | refine blk_drew ?_ | refine blk_alloc ?_ _)); refine blk_put (cs := #[.int .i64 x126000_4, .int .i64 0, .int .i64 0, .int .i64 0, .bool false]) ?_ 1 _ rfl; (with_reducible repeat (first | refine blk_drewN ?_ _ | refine blk_drew ?_ | refine blk_alloc ?_ _)); refine blk_put (cs := #[.int .i64 0, .int .i64 0, .int .i64 0, .int .i64 0, .bool false]) ?_ 0 _ rfl; (with_reducible repeat (first | refine blk_drewN ?_ _ | refine blk_drew ?_ | refine blk_alloc ?_ _)); exact BK120.out) Try.underlying60 rfl (by kernel_rfl)) rfl ?_
     exact (rq ⟨by repeat (first | (with_reducible first | exact HI0.out | apply IsS55.alloc | apply IsS55.drewN | apply IsS55.drew | apply IsS55.set_1 | refine IsS55.far ?_ NB0_120.out _ | refine IsS55.far ?_ NB0_125.out _) | exact HI0.out), by repeat (first | (with_reducible first | exact HB.out | apply below_alloc | apply pw_below_drewN | apply below_drew1 | refine below_set ?_ (IsS55.ge HI0.out) | refine below_set ?_ GE120.out | refine below_set ?_ GE125.out) | exact HB.out), by repeat (first | (with_reducible first | exact HK.out | apply KeepBut.set_ | apply keep_drewN | apply keep_drew | apply keep_alloc | refine keep_far ?_ GW120.out _ | refine keep_far ?_ GW125.out _) | exact HK.out)⟩)
   rw [if_pos c34] at H
   have c34b0 : (t130 == 0) = true := beq_iff_eq.mpr c34
   have c34b1 : (t130 != 0) = false := bne_eq_false_iff_eq.mpr c34
   clear c34
   replace H := Option.bind_eq_some_iff.mp H
   obtain ⟨⟨t132, t133⟩, A350, H⟩ := H
   replace H : ((spec_l6Rd_pick.f kj4 s0_0 t133 3).bind fun bt134 => (some (x126000_4, (wrap64 (1 + t121)), t123, t132, decide (bt134.1 > 0), bt134.2))) = some (r1, r2, r3, r4, r5, r6) := H
   have A35 := am A350
   clear A350
   replace H := Option.bind_eq_some_iff.mp H
   obtain ⟨⟨t134, t135⟩, A360, H⟩ := H
   replace H : (some (x126000_4, (wrap64 (1 + t121)), t123, t132, decide (t134 > 0), t135)) = some (r1, r2, r3, r4, r5, r6) := H
   have A36 := am A360
   clear A360
   simp only [Option.some.injEq, Prod.mk.injEq] at H
   obtain ⟨rfl, rfl, rfl, rfl, rfl, rfl⟩ := H
   go_wp2_with (first | (refine gl 27 Try.func19 #[.pointer (some ⟨g, 0, none⟩), .int .i64 4] rfl ?_; (with_reducible refine (spec_l6Rd_pick.calls kj4 g s0_0 x1001_4 4 t130 t131 w0 _ ?side1 ?side2 A33.out).mono ?_); (case side1 => repeat (first | (with_reducible first | exact HI0.out | apply IsS55.alloc | apply IsS55.drewN | apply IsS55.drew | apply IsS55.set_1 | refine IsS55.far ?_ NB0_120.out _ | refine IsS55.far ?_ NB0_125.out _) | exact HI0.out)); (case side2 => repeat (first | (with_reducible first | exact HB.out | apply below_alloc | apply pw_below_drewN | apply below_drew1 | refine below_set ?_ (IsS55.ge HI0.out) | refine below_set ?_ GE120.out | refine below_set ?_ GE125.out) | exact HB.out)); rintro e w37 ⟨rfl, hi, hb, hk⟩; refine ⟨_, rfl, ?_⟩; replace BK120 := am (KeepBut.blk hk (g' := gb120) (o := .cells #[.int .i64 0, .int .i64 0, .int .i64 0, .int .i64 0, .bool false] 60 (0, 0)) (pb BK120.out) NB120_0.out (by simp)); replace BK125 := am (KeepBut.blk hk (g' := gb125) (o := .cells #[.int .i64 x126000_4, .int .i64 (wrap64 (1 + t121)), .int .i64 t123, .int .i64 9, .bool false] 60 (0, 0)) (pb BK125.out) NB125_0.out (by simp)); replace HK := am (KeepBut.trans (by repeat (first | (with_reducible first | exact HK.out | apply KeepBut.set_ | apply keep_drewN | apply keep_drew | apply keep_alloc | refine keep_far ?_ GW120.out _ | refine keep_far ?_ GW125.out _) | exact HK.out)) hk (.inl rfl)); replace HB := am (hb); replace HI0 := am (hi); (try clear hb); (try clear hb2); (try clear hk); (try clear hi)) | (refine gl 30 Try.func19 #[.pointer (some ⟨g, 0, none⟩), .int .i64 5] rfl ?_; (with_reducible refine (spec_l6Rd_pick.calls kj4 g s0_0 t131 5 t132 t133 w0 _ ?side1 ?side2 A35.out).mono ?_); (case side1 => repeat (first | (with_reducible first | exact HI0.out | apply IsS55.alloc | apply IsS55.drewN | apply IsS55.drew | apply IsS55.set_1 | refine IsS55.far ?_ NB0_120.out _ | refine IsS55.far ?_ NB0_125.out _) | exact HI0.out)); (case side2 => repeat (first | (with_reducible first | exact HB.out | apply below_alloc | apply pw_below_drewN | apply below_drew1 | refine below_set ?_ (IsS55.ge HI0.out) | refine below_set ?_ GE120.out | refine below_set ?_ GE125.out) | exact HB.out)); rintro e w38 ⟨rfl, hi, hb, hk⟩; refine ⟨_, rfl, ?_⟩; replace BK120 := am (KeepBut.blk hk (g' := gb120) (o := .cells #[.int .i64 0, .int .i64 0, .int .i64 0, .int .i64 0, .bool false] 60 (0, 0)) (pb BK120.out) NB120_0.out (by simp)); replace BK125 := am (KeepBut.blk hk (g' := gb125) (o := .cells #[.int .i64 x126000_4, .int .i64 (wrap64 (1 + t121)), .int .i64 t123, .int .i64 9, .bool false] 60 (0, 0)) (pb BK125.out) NB125_0.out (by simp)); replace HK := am (KeepBut.trans (by repeat (first | (with_reducible first | exact HK.out | apply KeepBut.set_ | apply keep_drewN | apply keep_drew | apply keep_alloc | refine keep_far ?_ GW120.out _ | refine keep_far ?_ GW125.out _) | exact HK.out)) hk (.inl rfl)); replace HB := am (hb); replace HI0 := am (hi); (try clear hb); (try clear hb2); (try clear hk); (try clear hi); have hnb39 := NB125_120.out; have hnc39 := NB120_125.out; have hnb40 := NB125_0.out; have hnc40 := NB0_125.out; obtain ⟨hcz41_0, hcz41_1, hcz41_2, hcz41_3, hcz41_4⟩ := b5 BK125.out; obtain ⟨hfz41_0, hfz41_1, hfz41_2, hfz41_3, hfz41_4⟩ := f5 BK125.out) | (refine gl 33 Try.func19 #[.pointer (some ⟨g, 0, none⟩), .int .i64 3] rfl ?_; (with_reducible refine (spec_l6Rd_pick.calls kj4 g s0_0 t133 3 t134 t135 w0 _ ?side1 ?side2 A36.out).mono ?_); (case side1 => repeat (first | (with_reducible first | exact HI0.out | apply IsS55.alloc | apply IsS55.drewN | apply IsS55.drew | apply IsS55.set_1 | refine IsS55.far ?_ NB0_120.out _ | refine IsS55.far ?_ NB0_125.out _) | exact HI0.out)); (case side2 => repeat (first | (with_reducible first | exact HB.out | apply below_alloc | apply pw_below_drewN | apply below_drew1 | refine below_set ?_ (IsS55.ge HI0.out) | refine below_set ?_ GE120.out | refine below_set ?_ GE125.out) | exact HB.out)); rintro e w42 ⟨rfl, hi, hb, hk⟩; refine ⟨_, rfl, ?_⟩; replace BK120 := am (KeepBut.blk hk (g' := gb120) (o := .cells #[.int .i64 0, .int .i64 0, .int .i64 0, .int .i64 0, .bool false] 60 (0, 0)) (by (with_reducible repeat (first | refine blk_drewN ?_ _ | refine blk_drew ?_ | refine blk_alloc ?_ _)); refine blk_far ?_ NB120_125.out _; (with_reducible repeat (first | refine blk_drewN ?_ _ | refine blk_drew ?_ | refine blk_alloc ?_ _)); exact BK120.out) NB120_0.out (by simp)); replace BK125 := am (KeepBut.blk hk (g' := gb125) (o := .cells #[.int .i64 x126000_4, .int .i64 (wrap64 (1 + t121)), .int .i64 t123, .int .i64 t132, .bool false] 60 (0, 0)) (by (with_reducible repeat (first | refine blk_drewN ?_ _ | refine blk_drew ?_ | refine blk_alloc ?_ _)); refine blk_put (cs := #[.int .i64 x126000_4, .int .i64 (wrap64 (1 + t121)), .int .i64 t123, .int .i64 9, .bool false]) ?_ 3 _ rfl; (with_reducible repeat (first | refine blk_drewN ?_ _ | refine blk_drew ?_ | refine blk_alloc ?_ _)); exact BK125.out) NB125_0.out (by simp)); replace HK := am (KeepBut.trans (by repeat (first | (with_reducible first | exact HK.out | apply KeepBut.set_ | apply keep_drewN | apply keep_drew | apply keep_alloc | refine keep_far ?_ GW120.out _ | refine keep_far ?_ GW125.out _) | exact HK.out)) hk (.inl rfl)); replace HB := am (hb); replace HI0 := am (hi); (try clear hb); (try clear hb2); (try clear hk); (try clear hi); obtain ⟨hcz43_0, hcz43_1, hcz43_2, hcz43_3, hcz43_4⟩ := b5 BK125.out; obtain ⟨hfz43_0, hfz43_1, hfz43_2, hfz43_3, hfz43_4⟩ := f5 BK125.out; have hnb44 := NB120_0.out; have hnc44 := NB0_120.out; obtain ⟨hcz45_0, hcz45_1, hcz45_2, hcz45_3, hcz45_4⟩ := b5 BK120.out; obtain ⟨hfz45_0, hfz45_1, hfz45_2, hfz45_3, hfz45_4⟩ := f5 BK120.out))
   refine bodyPost_ret (results_cell_row rfl _ _ gb120 60 #[.int .i64 x126000_4, .int .i64 (wrap64 (1 + t121)), .int .i64 t123, .int .i64 t132, .bool (decide (t134 > 0))] (0, 0) _ rfl (by (with_reducible repeat (first | refine blk_drewN ?_ _ | refine blk_drew ?_ | refine blk_alloc ?_ _)); refine blk_put (cs := #[.int .i64 x126000_4, .int .i64 (wrap64 (1 + t121)), .int .i64 t123, .int .i64 t132, .bool false]) ?_ 4 _ rfl; (with_reducible repeat (first | refine blk_drewN ?_ _ | refine blk_drew ?_ | refine blk_alloc ?_ _)); refine blk_put (cs := #[.int .i64 x126000_4, .int .i64 (wrap64 (1 + t121)), .int .i64 t123, .int .i64 0, .bool false]) ?_ 3 _ rfl; (with_reducible repeat (first | refine blk_drewN ?_ _ | refine blk_drew ?_ | refine blk_alloc ?_ _)); refine blk_put (cs := #[.int .i64 x126000_4, .int .i64 (wrap64 (1 + t121)), .int .i64 0, .int .i64 0, .bool false]) ?_ 2 _ rfl; (with_reducible repeat (first | refine blk_drewN ?_ _ | refine blk_drew ?_ | refine blk_alloc ?_ _)); refine blk_put (cs := #[.int .i64 x126000_4, .int .i64 0, .int .i64 0, .int .i64 0, .bool false]) ?_ 1 _ rfl; (with_reducible repeat (first | refine blk_drewN ?_ _ | refine blk_drew ?_ | refine blk_alloc ?_ _)); refine blk_put (cs := #[.int .i64 0, .int .i64 0, .int .i64 0, .int .i64 0, .bool false]) ?_ 0 _ rfl; (with_reducible repeat (first | refine blk_drewN ?_ _ | refine blk_drew ?_ | refine blk_alloc ?_ _)); refine blk_far ?_ NB120_125.out _; (with_reducible repeat (first | refine blk_drewN ?_ _ | refine blk_drew ?_ | refine blk_alloc ?_ _)); exact BK120.out) Try.underlying60 rfl (by kernel_rfl)) rfl ?_
   exact (rq ⟨by repeat (first | (with_reducible first | exact HI0.out | apply IsS55.alloc | apply IsS55.drewN | apply IsS55.drew | apply IsS55.set_1 | refine IsS55.far ?_ NB0_120.out _ | refine IsS55.far ?_ NB0_125.out _) | exact HI0.out), by repeat (first | (with_reducible first | exact HB.out | apply below_alloc | apply pw_below_drewN | apply below_drew1 | refine below_set ?_ (IsS55.ge HI0.out) | refine below_set ?_ GE120.out | refine below_set ?_ GE125.out) | exact HB.out), by repeat (first | (with_reducible first | exact HK.out | apply KeepBut.set_ | apply keep_drewN | apply keep_drew | apply keep_alloc | refine keep_far ?_ GW120.out _ | refine keep_far ?_ GW125.out _) | exact HK.out)⟩)
def spec_l6In.f (a0 : Int) (a1 : Int) (a2 : Int) : Option (Bool) := if a0 ≥ a1 then (some (decide (a0 ≤ a2))) else (some false)
set_option maxHeartbeats 8000000 in
set_option maxRecDepth 100000 in
theorem spec_l6In.calls (a0 : Int) (a1 : Int) (a2 : Int) (r : Bool) (w : World) (h : spec_l6In.f a0 a1 a2 = some r) :
 Calls Try.prog 15 #[.int .i64 a0, .int .i64 a1, .int .i64 a2] w fun e w' => e = .returned (.bool r) ∧ Drawn0 w w' := by
 have H : (if a0 ≥ a1 then (some (decide (a0 ≤ a2))) else (some false)) = some r := h
 clear h
 by_cases c4 : a0 ≥ a1
 · rw [if_pos c4] at H
   have c4b0 := decide_eq_true c4
   clear c4
   obtain rfl := Option.some.inj H
   go_enter Try.func15, Try.ntmps15
   go_wp2
   go_ret
   exact ⟨by first | rfl | (simp; done) | (simp [*]; done), by repeat (first | exact Drawn0.refl _ | apply Drawn0.step)⟩
 rw [if_neg c4] at H
 have c4b0 := decide_eq_false c4
 clear c4
 obtain rfl := Option.some.inj H
 go_enter Try.func15, Try.ntmps15
 go_wp2
 go_ret
 exact ⟨by first | rfl | (simp; done) | (simp [*]; done), by repeat (first | exact Drawn0.refl _ | apply Drawn0.step)⟩
mutual
def spec_l2Wipe.j0 : Nat → List (S31) → Int → Int → Option ((List (S31)) × Bool)
 | 0, _, _, _ => none
 | k + 1, x0, x1, x8 => spec_l2Wipe.l0 k x0 x1 x8 0
def spec_l2Wipe.l0 : Nat → List (S31) → Int → Int → Int → Option ((List (S31)) × Bool)
 | 0, _, _, _, _ => none
 | k + 1, x0, x1, x8, x9 => if x9 < 4 then (if 0 ≤ x1 then (if x1 < (x0.length : Int) then (if 0 ≤ x9 then (if x9 < (((rd_T31 x0 x1).f0).length : Int) then (spec_l2Wipe.l0 k (x0.set (x1 : Int).toNat (⟨(((rd_T31 x0 x1).f0).set (x9 : Int).toNat (⟨x8, (⟨0, 0, 0, 0⟩ : S41)⟩ : S43)), (rd_T31 x0 x1).f1⟩ : S31)) x1 x8 (wrap64 (x9 + 1))) else (none)) else (none)) else (none)) else (none)) else (some (x0, true))
end
def spec_l2Wipe.f (k : Nat) (l0 : List (S31)) (a1 : Int) (a2 : Bool) : Option ((List (S31)) × Bool) := if 0 ≤ a1 then (if a1 < (l0.length : Int) then (if ((rd_T31 l0 a1).f1) ≥ 200 then (some (l0, false)) else ((some (l0.set (a1 : Int).toNat (⟨(rd_T31 l0 a1).f0, wrap64 (((rd_T31 l0 a1).f1) + 1)⟩ : S31) : List (S31))).bind fun y138 => (if a2 = true then (spec_l2Wipe.j0 k y138 a1 2) else (spec_l2Wipe.j0 k y138 a1 0)))) else (none)) else (none)
theorem spec_l2Wipe.mono_l : ∀ k, (∀ y0 y1 y2, LeO (spec_l2Wipe.j0 k y0 y1 y2) (spec_l2Wipe.j0 (k + 1) y0 y1 y2)) ∧ (∀ y0 y1 y2 y3, LeO (spec_l2Wipe.l0 k y0 y1 y2 y3) (spec_l2Wipe.l0 (k + 1) y0 y1 y2 y3))
 | 0 => ⟨fun _ _ _ r h => by simp [spec_l2Wipe.j0] at h, fun _ _ _ _ r h => by simp [spec_l2Wipe.l0] at h⟩
 | k + 1 => by
  obtain ⟨ih0, ih1⟩ := spec_l2Wipe.mono_l k
  refine ⟨?_, ?_⟩
  · intro y0 y1 y2
    unfold spec_l2Wipe.j0
    repeat' first
    | (with_reducible exact ih0 _ _ _)
    | (with_reducible exact ih1 _ _ _ _)
    | (with_reducible exact LeO.refl _)
    | (with_reducible exact LeO.none _)
    | (with_reducible refine LeO.ite ?_ ?_)
    | (with_reducible refine LeO.bind ?_ (fun _ => ?_))
    | exact ih0 _ _ _
    | exact ih1 _ _ _ _
    | exact LeO.none _
    | refine LeO.ite ?_ ?_
    | refine LeO.bind ?_ (fun _ => ?_)
  · intro y0 y1 y2 y3
    unfold spec_l2Wipe.l0
    repeat' first
    | (with_reducible exact ih0 _ _ _)
    | (with_reducible exact ih1 _ _ _ _)
    | (with_reducible exact LeO.refl _)
    | (with_reducible exact LeO.none _)
    | (with_reducible refine LeO.ite ?_ ?_)
    | (with_reducible refine LeO.bind ?_ (fun _ => ?_))
    | exact ih0 _ _ _
    | exact ih1 _ _ _ _
    | exact LeO.none _
    | refine LeO.ite ?_ ?_
    | refine LeO.bind ?_ (fun _ => ?_)
theorem spec_l2Wipe.mono : ∀ a0 a1 a2 k, LeO (spec_l2Wipe.f k a0 a1 a2) (spec_l2Wipe.f (k + 1) a0 a1 a2) := by
 intro a0 a1 a2 k
 obtain ⟨ih0, ih1⟩ := spec_l2Wipe.mono_l k
 unfold spec_l2Wipe.f
 repeat' first
  | (with_reducible exact ih0 _ _ _)
  | (with_reducible exact ih1 _ _ _ _)
  | (with_reducible exact LeO.refl _)
  | (with_reducible exact LeO.none _)
  | (with_reducible refine LeO.ite ?_ ?_)
  | (with_reducible refine LeO.bind ?_ (fun _ => ?_))
  | exact ih0 _ _ _
  | exact ih1 _ _ _ _
  | exact LeO.none _
  | refine LeO.ite ?_ ?_
  | refine LeO.bind ?_ (fun _ => ?_)
set_option maxHeartbeats 8000000 in
set_option maxRecDepth 100000 in
theorem spec_l2Wipe.calls (k : Nat) (P0_ : Nat → Prop) (u9000_ : Value) (l0 : List (S31)) (a1 : Int) (a2 : Bool) (r1 : List (S31)) (r2 : Bool) (w0 w : World) (hB : Below w0.heap.size w0 w) (ho0 : Kd.S k31 31 w w0.heap.size P0_ u9000_ l0) (h : spec_l2Wipe.f k l0 a1 a2 = some (r1, r2)) :
 Calls Try.prog 42 #[u9000_, .int .i64 a1, .bool a2] w fun e w' => ∃ v0_ : Value, e = .returned (.tuple #[v0_, .bool r2]) ∧ Kd.S k31 31 w' w0.heap.size (fun k_ => (P0_ k_ ∨ w.heap.size ≤ k_)) v0_ r1 ∧ Below w0.heap.size w0 w' ∧ Kept w w' (fun k_ => P0_ k_) := by
 have hu43 := Try.underlying43
 have HO0 := am (show Kd.S k31 31 w w0.heap.size (fun k_ => (P0_ k_ ∨ w.heap.size ≤ k_)) u9000_ l0 from Kd.S_mono ho0 (fun k_ hk => (.inl hk)))
 have HK := am (Kept.refl w (fun k_ => P0_ k_))
 have HW0 := am hB.size
 have HB := am hB
 clear hB
 have H : (if 0 ≤ a1 then (if a1 < (l0.length : Int) then (if ((rd_T31 l0 a1).f1) ≥ 200 then (some (l0, false)) else ((some (l0.set (a1 : Int).toNat (⟨(rd_T31 l0 a1).f0, wrap64 (((rd_T31 l0 a1).f1) + 1)⟩ : S31) : List (S31))).bind fun y138 => (if a2 = true then (spec_l2Wipe.j0 k y138 a1 2) else (spec_l2Wipe.j0 k y138 a1 0)))) else (none)) else (none)) = some (r1, r2) := h
 clear h
 by_cases c4 : 0 ≤ a1
 rotate_left
 · rw [if_neg c4] at H
   exact absurd H (by simp)
 rw [if_pos c4] at H
 have c4b0 := decide_eq_true c4
 clear c4
 by_cases c5 : a1 < (l0.length : Int)
 rotate_left
 · rw [if_neg c5] at H
   exact absurd H (by simp)
 rw [if_pos c5] at H
 have c5b0 := decide_eq_true c5
 clear c5
 by_cases c6 : ((rd_T31 l0 a1).f1) ≥ 200
 · rw [if_pos c6] at H
   have c6b0 := decide_eq_true c6
   clear c6
   simp only [Option.some.injEq, Prod.mk.injEq] at H
   obtain ⟨rfl, rfl⟩ := H
   obtain ⟨Ao7, co7, eo7⟩ := Kd.S_slice HO0.out
   subst eo7
   have p136 : 0 ≤ (a1 : Int) := ofb
   have q136 : a1 < (l0.length : Int) := ofb
   obtain ⟨ad136, A136_0, c136_0, e136, hx136_0, hx136_1, hl136_0, hi136_0⟩ := at_T31 (Kd.S_reads' HO0.out).2.2 a1 p136 q136
   cases e136
   obtain ⟨ce136, hce136, hMe136, hcc136⟩ := Kd.S_get HO0.out z31 a1 p136 (by first | exact q136 | exact ofb | (have e_ := (Kd.S_reads' HO0.out).1; omega))
   obtain ⟨ve136_0, rfl, ge136_0⟩ := k31_openM hMe136
   have hv136_0 := hcc136 0 _ rfl
   rw [Nat.add_zero] at hv136_0
   replace hv136_0 := Option.some.inj (hv136_0.symm.trans hx136_0)
   rw [hv136_0] at ge136_0
   have HL136_0 := am (show Kd.R k43 43 _ _ _ _ ((rd_T31 l0 a1).f0) from ge136_0)
   clear hv136_0 ge136_0
   have HX136_0 := am hx136_0
   clear hcc136 hce136
   have HR136_0 := am hi136_0
   have HC136_0 := am hl136_0
   clear hi136_0 hl136_0
   replace p136 := eq_true p136
   replace q136 := eq_true q136
   go_enter Try.func42, Try.ntmps42
   go_wp2
   go_ret2
   exact ⟨_, rq ⟨ps HO0.out, ph HB.out, pk HK.out⟩⟩
 rw [if_neg c6] at H
 have c6b0 := decide_eq_false c6
 clear c6
 obtain ⟨y138, hy138⟩ : ∃ y_ : List (S31), y_ = (l0.set (a1 : Int).toNat (⟨(rd_T31 l0 a1).f0, wrap64 (((rd_T31 l0 a1).f1) + 1)⟩ : S31)) := ⟨_, rfl⟩
 replace H : (if a2 = true then (spec_l2Wipe.j0 k y138 a1 2) else (spec_l2Wipe.j0 k y138 a1 0)) = some (r1, r2) := by first | (rw [hy138]; with_reducible exact H) | (have H2_ := (Option.bind_some _ _).symm.trans H; rw [hy138]; with_reducible exact H2_) | (have H2_ := (Option.bind_some _ _).symm.trans H; with_reducible exact H2_) | with_reducible exact H | (rw [hy138]; exact H) | exact H
 have Ny138 := am hy138
 clear hy138
 have HC9 := am H
 clear H
 obtain ⟨Ao10, co10, eo10⟩ := Kd.S_slice HO0.out
 subst eo10
 have p136 : 0 ≤ (a1 : Int) := ofb
 have q136 : a1 < (l0.length : Int) := ofb
 obtain ⟨ad136, A136_0, c136_0, e136, hx136_0, hx136_1, hl136_0, hi136_0⟩ := at_T31 (Kd.S_reads' HO0.out).2.2 a1 p136 q136
 cases e136
 obtain ⟨ce136, hce136, hMe136, hcc136⟩ := Kd.S_get HO0.out z31 a1 p136 (by first | exact q136 | exact ofb | (have e_ := (Kd.S_reads' HO0.out).1; omega))
 obtain ⟨ve136_0, rfl, ge136_0⟩ := k31_openM hMe136
 have hv136_0 := hcc136 0 _ rfl
 rw [Nat.add_zero] at hv136_0
 replace hv136_0 := Option.some.inj (hv136_0.symm.trans hx136_0)
 rw [hv136_0] at ge136_0
 have HL136_0 := am (show Kd.R k43 43 _ _ _ _ ((rd_T31 l0 a1).f0) from ge136_0)
 clear hv136_0 ge136_0
 have HX136_0 := am hx136_0
 clear hcc136 hce136
 have HR136_0 := am hi136_0
 have HC136_0 := am hl136_0
 clear hi136_0 hl136_0
 replace p136 := eq_true p136
 replace q136 := eq_true q136
 have p137 : 0 ≤ (a1 : Int) := ofb
 have q137 : a1 < (l0.length : Int) := ofb
 obtain ⟨ad137, A137_0, c137_0, e137, hx137_0, hx137_1, hl137_0, hi137_0⟩ := at_T31 (Kd.S_reads' HO0.out).2.2 a1 p137 q137
 obtain rfl : ad136 = ad137 := (by injection e137)
 obtain ⟨ce137, hce137, hMe137, hcc137⟩ := Kd.S_get HO0.out z31 a1 p137 (by first | exact q137 | exact ofb | (have e_ := (Kd.S_reads' HO0.out).1; omega))
 obtain ⟨ve137_0, rfl, ge137_0⟩ := k31_openM hMe137
 have hv137_0 := hcc137 0 _ rfl
 rw [Nat.add_zero] at hv137_0
 replace hv137_0 := Option.some.inj (hv137_0.symm.trans hx137_0)
 rw [hv137_0] at ge137_0
 have HL137_0 := am (show Kd.R k43 43 _ _ _ _ ((rd_T31 l0 a1).f0) from ge137_0)
 clear hv137_0 ge137_0
 have HX137_0 := am hx137_0
 clear hcc137 hce137
 have HR137_0 := am hi137_0
 have HC137_0 := am hl137_0
 clear hi137_0 hl137_0
 replace p137 := eq_true p137
 replace q137 := eq_true q137
 have ea_ := Option.some.inj (hx136_0.symm.trans hx137_0)
 injection ea_ with ea_ en_ ec_
 subst ea_
 subst ec_
 clear en_
 have p8 : 0 ≤ (a1 : Int) := ofb
 have q8 : (a1 : Int) < ((l0.length : Int) : Int) := ofb
 obtain ⟨go8, co8, eo8, gb8, gl8, cl8, HG8⟩ := Kd.S_form HO0.out (by omega)
 (first | cases eo8 | (injection eo8 with ea_ en_ ec_; (first | subst ea_ | (injection ea_ with ea_; subst ea_)); subst ec_; clear en_))
 have GB8 := am gb8
 have GG8 := am HG8
 clear gb8 gl8 HG8
 have HMgo8 := am (show (P0_ go8 ∨ w.heap.size ≤ go8) from ((Kd.S_R HO0.out).1 _ rfl))
 (first | simp only [add_plain] at hx136_0 | skip)
 (first | simp only [add_plain] at hx136_1 | skip)
 (first | simp only [add_plain] at hx137_0 | skip)
 (first | simp only [add_plain] at hx137_1 | skip)
 obtain ⟨_, ce8, hcl8, hM8, hcc8, hfr8, _, _⟩ := Kd.S_elem HO0.out z31 (a1 : Int) p8 q8
 obtain ⟨ve8_0, rfl, ge8_0⟩ := k31_openM hM8
 have hx8_0 : w.cell? ⟨go8, (a1 : Int).toNat * 2, none⟩ = some (ve8_0) := hcc8 0 _ rfl
 have hx8_1 : w.cell? ⟨go8, (a1 : Int).toNat * 2 + 1, none⟩ = some (.int .i64 ((rd_T31 l0 a1).f1)) := hcc8 1 _ rfl
 have hf8_0 : w.frozen? ⟨go8, (a1 : Int).toNat * 2, none⟩ = false := hfr8 0
 have hf8_1 : w.frozen? ⟨go8, (a1 : Int).toNat * 2 + 1, none⟩ = false := hfr8 1
 clear hcl8 hcc8 hfr8 hM8
 replace p8 := eq_true p8
 replace q8 := eq_true q8
 have HX11 := am (show Kd.S k31 31 w w0.heap.size (fun k_ => ((fun k_ => (P0_ k_ ∨ w.heap.size ≤ k_))) k_ ∧ ¬ ((fun _ => False)) k_) (.slice (some ⟨go8, 0, none⟩) l0.length co10) l0 from (by (with_reducible repeat (first | apply Kd.S_alloc | apply Kd.S_drewN | apply Kd.S_drew)); exact Kd.S_mono HO0.out (fun k_ hk => ⟨hk, fun e_ => e_⟩)))
 obtain ⟨oki11, ce11, hcl11, hM11, hcc11, hfr11, hoki11, hH11⟩ := Kd.S_elem HX11.out z31 (a1 : Int) (ofb) (by have h_ : (a1 : Int) < ((l0.length : Int) : Int) := ofb; first | exact h_ | (have e_ := (Kd.S_reads' HO0.out).1; omega) | simpa using h_)
 obtain ⟨ve11_0, rfl, ge11_0⟩ := k31_openM hM11
 have HP11 := Kd.S_seg hH11 (ofb) (by have h_ : (a1 : Int) < ((l0.length : Int) : Int) := ofb; first | exact h_ | (have e_ := (Kd.S_reads' HO0.out).1; omega) | simpa using h_) (seg := [.int .i64 (wrap64 (((rd_T31 l0 a1).f1) + 1))]) (j := 1) (show 2 ≤ 2 from by decide) (x' := (⟨(rd_T31 l0 a1).f0, wrap64 (((rd_T31 l0 a1).f1) + 1)⟩ : S31)) (k31_mkM _ _ _ (⟨(rd_T31 l0 a1).f0, wrap64 (((rd_T31 l0 a1).f1) + 1)⟩ : S31) (Kd.R_mono ge11_0 (fun _ h_ => Or.inl h_))) (fun _ hk => hk) (fun k_ hk_ => hk_.elim)
 have hx11_1 := hcc11 1 _ rfl
 (try simp only [show (k31).sz = 2 from rfl, Nat.mul_one, Nat.add_zero] at hx11_1)
 have hf11_1 := hfr11 1
 (try simp only [show (k31).sz = 2 from rfl, Nat.mul_one, Nat.add_zero] at hf11_1)
 clear hcl11 hcc11 hfr11 hM11 hoki11 hH11
 go_enter Try.func42, Try.ntmps42
 go_upto_if 27 with (first | ((with_reducible refine gate_store (t := 3) (p := 26) rfl ?_); refine store_event (t := 3) (p := 26) (v := ?vo_w12) (w1 := (w.setCell ⟨go8, (a1 : Int).toNat * 2 + 1, none⟩ (.int .i64 (wrap64 (((rd_T31 l0 a1).f1) + 1))))) ?hg ?ho ?hn ?hr ?_; (case ho => rfl); (case hg => rfl); (case hn => rfl); (case hr => first | (go_simp; done) | (go_simp; rfl)); intro w12 hw; have hg : w.grownBy w12 (some go8) := (by rw [hw]; exact HP11.2); have hp_ : Kd.S k31 31 w12 w0.heap.size (fun k_ => (P0_ k_ ∨ w.heap.size ≤ k_)) (.slice (some ⟨go8, 0, none⟩) l0.length co10) y138 := (by rw [hw, Ny138.out]; exact HP11.1); clear HP11; replace HL136_0 := am (Kd.R_after (v := (.slice (some ⟨go8, 0, none⟩) l0.length co10)) (v1 := (.slice (some ⟨go8, 0, none⟩) l0.length co10)) (ok := (fun k_ => (P0_ k_ ∨ w.heap.size ≤ k_))) (pr HL136_0.out) hg (.inl rfl)); replace HL137_0 := am (Kd.R_after (v := (.slice (some ⟨go8, 0, none⟩) l0.length co10)) (v1 := (.slice (some ⟨go8, 0, none⟩) l0.length co10)) (ok := (fun k_ => (P0_ k_ ∨ w.heap.size ≤ k_))) (pr HL137_0.out) hg (.inl rfl)); replace HB := am ((by rw [hw]; exact below_set (HB.out) GB8.out : Below w0.heap.size w0 w12)); replace HK := am (Kept.of_grown (S := (fun k_ => P0_ k_)) hg (pk HK.out) (fun k_ e_ => ((Kd.S_R HO0.out).1 k_ e_))); replace HO0 := am (hp_); clear hg hw hp_))
 (try simp only [Act.put, List.setIfInBounds_toArray, List.set_cons_zero, List.set_cons_succ])
 go_cut [8] (fun v8 wc => ∃ (kq : Nat) (x8_8 : Int), v8 = .int .i64 x8_8 ∧ Aside0 (spec_l2Wipe.j0 kq y138 a1 x8_8 = some (r1, r2)) ∧ Aside0 (kq ≤ k) ∧ Aside0 (Kd.S k31 31 wc w0.heap.size (fun k_ => (P0_ k_ ∨ w.heap.size ≤ k_)) (.slice (some ⟨go8, 0, none⟩) l0.length co10) y138) ∧ Aside0 (Kept w wc (fun k_ => P0_ k_)) ∧ Aside0 (Below w0.heap.size w0 wc))
 case first =>
  have H := HC9.out
  clear HC9
  by_cases c13 : a2 = true
  · subst c13
    have H1 : (spec_l2Wipe.j0 k y138 a1 2) = some (r1, r2) := by rw [if_pos rfl] at H; exact H
    clear H
    have H := H1
    clear H1
    have H' := am H
    clear H
    go_wp2
    go_meet
    case rel => exact ⟨_, (2), rf, H', ⟨by first | omega | exact Nat.le_refl _⟩, ⟨ps HO0.out⟩, ⟨pk HK.out⟩, ⟨ph HB.out⟩⟩
  replace c13 := Bool.eq_false_iff.mpr c13
  subst c13
  have H1 : (spec_l2Wipe.j0 k y138 a1 0) = some (r1, r2) := by rw [if_neg (show ¬ (false = true) by decide)] at H; exact H
  clear H
  have H := H1
  clear H1
  have H' := am H
  clear H
  go_wp2
  go_meet
  case rel => exact ⟨_, (0), rf, H', ⟨by first | omega | exact Nat.le_refl _⟩, ⟨ps HO0.out⟩, ⟨pk HK.out⟩, ⟨ph HB.out⟩⟩
 case rest =>
  clear HC9
  obtain ⟨kq, x8_8, rfl, HA, HJ8, HO_0, HK, HB⟩ := hcut
  have hl0_8 := (Kd.S_reads' HO_0.out).1
  rw [hl0_8] at HO_0
  (try simp only [hl0_8])
  cases kq with
  | zero => exact absurd HA.out (by simp [spec_l2Wipe.j0])
  | succ kj8 =>
   have H := HA.out
   clear HA
   simp only [spec_l2Wipe.j0] at H
   have H' := am H
   clear H
   go_wp2
   go_loopg [9] kj8 (fun kq v9 w' => ∃ (x0_2 : List (S31)) (x9_2 : Int), v9 = .int .i64 x9_2 ∧ Aside0 (spec_l2Wipe.l0 kq x0_2 a1 x8_8 x9_2 = some (r1, r2)) ∧ Aside0 (kq ≤ kj8) ∧ Aside0 (Kd.S k31 31 w' w0.heap.size (fun k_ => (P0_ k_ ∨ w.heap.size ≤ k_)) (.slice (some ⟨go8, 0, none⟩) y138.length co10) x0_2) ∧ Aside0 (Kept w w' (fun k_ => P0_ k_)) ∧ Aside0 (Below w0.heap.size w0 w'))
   case atStart => exact ⟨(y138), (0), rf, H', ⟨Nat.le_refl _⟩, ⟨by (try simp only [hl0_8]); (with_reducible repeat (first | apply Kd.S_alloc | apply Kd.S_drewN | apply Kd.S_drew)); exact HO_0.out⟩, ⟨pk HK.out⟩, ⟨ph HB.out⟩⟩
   case round =>
    clear H'
    obtain ⟨x0_2, x9_2, rfl, HA, HK2, HO_0, HK, HB⟩ := hrel
    have hl0_2 := (Kd.S_reads' HO_0.out).1
    rw [hl0_2] at HO_0
    (try simp only [hl0_2])
    cases gk with
    | zero => exact absurd HA.out (by simp [spec_l2Wipe.l0])
    | succ k2 =>
     have H := HA.out
     clear HA
     simp only [spec_l2Wipe.l0] at H
     by_cases c14 : x9_2 < 4
     rotate_left
     · rw [if_neg c14] at H
       have c14b0 := decide_eq_false c14
       clear c14
       simp only [Option.some.injEq, Prod.mk.injEq] at H
       obtain ⟨rfl, rfl⟩ := H
       go_wp2
       go_ret2
       exact ⟨_, rq ⟨ps HO_0.out, ph HB.out, pk HK.out⟩⟩
     rw [if_pos c14] at H
     have c14b0 := decide_eq_true c14
     clear c14
     by_cases c15 : 0 ≤ a1
     rotate_left
     · rw [if_neg c15] at H
       exact absurd H (by simp)
     rw [if_pos c15] at H
     have c15b0 := decide_eq_true c15
     clear c15
     by_cases c16 : a1 < (x0_2.length : Int)
     rotate_left
     · rw [if_neg c16] at H
       exact absurd H (by simp)
     rw [if_pos c16] at H
     have c16b0 := decide_eq_true c16
     clear c16
     by_cases c17 : 0 ≤ x9_2
     rotate_left
     · rw [if_neg c17] at H
       exact absurd H (by simp)
     rw [if_pos c17] at H
     have c17b0 := decide_eq_true c17
     clear c17
     by_cases c18 : x9_2 < (((rd_T31 x0_2 a1).f0).length : Int)
     rotate_left
     · rw [if_neg c18] at H
       exact absurd H (by simp)
     rw [if_pos c18] at H
     have c18b0 := decide_eq_true c18
     clear c18
     obtain ⟨y140, hy140⟩ : ∃ y_ : List (S43), y_ = (((rd_T31 x0_2 a1).f0).set (x9_2 : Int).toNat (⟨x8_8, (⟨0, 0, 0, 0⟩ : S41)⟩ : S43)) := ⟨_, rfl⟩
     replace H : (spec_l2Wipe.l0 k2 (x0_2.set (a1 : Int).toNat (⟨y140, (rd_T31 x0_2 a1).f1⟩ : S31)) a1 x8_8 (wrap64 (x9_2 + 1))) = some (r1, r2) := by first | (rw [hy140]; with_reducible exact H) | (have H2_ := (Option.bind_some _ _).symm.trans H; rw [hy140]; with_reducible exact H2_) | (have H2_ := (Option.bind_some _ _).symm.trans H; with_reducible exact H2_) | with_reducible exact H | (rw [hy140]; exact H) | exact H
     have Ny140 := am hy140
     clear hy140
     obtain ⟨y142, hy142⟩ : ∃ y_ : List (S31), y_ = (x0_2.set (a1 : Int).toNat (⟨y140, (rd_T31 x0_2 a1).f1⟩ : S31)) := ⟨_, rfl⟩
     replace H : (spec_l2Wipe.l0 k2 y142 a1 x8_8 (wrap64 (x9_2 + 1))) = some (r1, r2) := by first | (rw [hy142]; with_reducible exact H) | (have H2_ := (Option.bind_some _ _).symm.trans H; rw [hy142]; with_reducible exact H2_) | (have H2_ := (Option.bind_some _ _).symm.trans H; with_reducible exact H2_) | with_reducible exact H | (rw [hy142]; exact H) | exact H
     have Ny142 := am hy142
     clear hy142
     have H' := am H
     clear H
     have p139 : 0 ≤ (a1 : Int) := ofb
     have q139 : a1 < (x0_2.length : Int) := ofb
     obtain ⟨ad139, A139_0, c139_0, e139, hx139_0, hx139_1, hl139_0, hi139_0⟩ := at_T31 (Kd.S_reads' HO_0.out).2.2 a1 p139 q139
     obtain rfl : (⟨go8, 0, none⟩ : Addr) = ad139 := (by injection e139)
     obtain ⟨ce139, hce139, hMe139, hcc139⟩ := Kd.S_get HO_0.out z31 a1 p139 (by first | exact q139 | exact ofb | (have e_ := (Kd.S_reads' HO_0.out).1; omega))
     obtain ⟨ve139_0, rfl, ge139_0⟩ := k31_openM hMe139
     have hv139_0 := hcc139 0 _ rfl
     rw [Nat.add_zero] at hv139_0
     replace hv139_0 := Option.some.inj (hv139_0.symm.trans hx139_0)
     rw [hv139_0] at ge139_0
     have HL139_0 := am (show Kd.R k43 43 _ _ _ _ ((rd_T31 x0_2 a1).f0) from ge139_0)
     clear hv139_0 ge139_0
     have HX139_0 := am hx139_0
     clear hcc139 hce139
     (first | simp only [add_plain] at hx139_0 | simp only [add_at] at hx139_0 | simp only [Addr.add, Nat.zero_add] at hx139_0 | skip)
     (first | simp only [add_plain] at hx139_1 | simp only [add_at] at hx139_1 | simp only [Addr.add, Nat.zero_add] at hx139_1 | skip)
     have HR139_0 := am hi139_0
     have HC139_0 := am hl139_0
     clear hi139_0 hl139_0
     replace p139 := eq_true p139
     replace q139 := eq_true q139
     have p19 : 0 ≤ (x9_2 : Int) := ofb
     have q19 : (x9_2 : Int) < ((((rd_T31 x0_2 a1).f0).length : Int) : Int) := ofb
     obtain ⟨go19, co19, eo19, gb19, gl19, cl19, HG19⟩ := Kd.R_form HL139_0.out (by omega)
     (first | cases eo19 | (injection eo19 with ea_ en_ ec_; (first | subst ea_ | (injection ea_ with ea_; subst ea_)); subst ec_; clear en_))
     have GB19 := am gb19
     have GG19 := am HG19
     clear gb19 gl19 HG19
     have HMgo19 := am (show (P0_ go19 ∨ w.heap.size ≤ go19) from (HL139_0.out.1 _ rfl).1)
     obtain ⟨ce19, hcl19, hM19, hcc19, hfr19⟩ := Kd.R_elem HL139_0.out z43 (x9_2 : Int) p19 q19
     obtain rfl := k43_openM hM19
     have hx19_0 : wr.cell? ⟨go19, (x9_2 : Int).toNat * 5, none⟩ = some (.int .i64 ((rd_T43 ((rd_T31 x0_2 a1).f0) x9_2).f0)) := hcc19 0 _ rfl
     have hx19_1 : wr.cell? ⟨go19, (x9_2 : Int).toNat * 5 + 1, none⟩ = some (.int .i64 ((rd_T43 ((rd_T31 x0_2 a1).f0) x9_2).f1.f0)) := hcc19 1 _ rfl
     have hx19_2 : wr.cell? ⟨go19, (x9_2 : Int).toNat * 5 + 2, none⟩ = some (.int .i64 ((rd_T43 ((rd_T31 x0_2 a1).f0) x9_2).f1.f1)) := hcc19 2 _ rfl
     have hx19_3 : wr.cell? ⟨go19, (x9_2 : Int).toNat * 5 + 3, none⟩ = some (.int .i64 ((rd_T43 ((rd_T31 x0_2 a1).f0) x9_2).f1.f2)) := hcc19 3 _ rfl
     have hx19_4 : wr.cell? ⟨go19, (x9_2 : Int).toNat * 5 + 4, none⟩ = some (.int .i64 ((rd_T43 ((rd_T31 x0_2 a1).f0) x9_2).f1.f3)) := hcc19 4 _ rfl
     have hf19_0 : wr.frozen? ⟨go19, (x9_2 : Int).toNat * 5, none⟩ = false := hfr19 0
     have hf19_1 : wr.frozen? ⟨go19, (x9_2 : Int).toNat * 5 + 1, none⟩ = false := hfr19 1
     have hf19_2 : wr.frozen? ⟨go19, (x9_2 : Int).toNat * 5 + 2, none⟩ = false := hfr19 2
     have hf19_3 : wr.frozen? ⟨go19, (x9_2 : Int).toNat * 5 + 3, none⟩ = false := hfr19 3
     have hf19_4 : wr.frozen? ⟨go19, (x9_2 : Int).toNat * 5 + 4, none⟩ = false := hfr19 4
     clear hcl19 hcc19 hfr19 hM19
     replace p19 := eq_true p19
     replace q19 := eq_true q19
     have hq20 : (a1 : Int) < (x0_2.length : Int) := (by have h_ : (a1 : Int) < ((x0_2.length : Int) : Int) := ofb; first | exact h_ | (have e_ := (Kd.S_reads' HO_0.out).1; omega) | simpa only [List.length_set, List.length_set] using h_)
     obtain ⟨oki20, ce20, hcl20, hM20, hcc20, hok20, hbk20⟩ := Kd.S_borrow HO_0.out z31 (a1 : Int) (ofb) hq20
     obtain ⟨ve20_0, rfl, ge20_0⟩ := k31_openM hM20
     have hv20 := hcc20 0 _ rfl
     rw [Nat.add_zero] at hv20
     replace hv20 := Option.some.inj (hv20.symm.trans HX139_0.out)
     subst hv20
     clear hcc20 hcl20
     replace ge20_0 := (show Kd.R k43 43 _ _ _ _ ((rd_T31 x0_2 a1).f0) from ge20_0)
     obtain ⟨cf20, hcl20, hN20, hcc20, hfr20⟩ := Kd.R_elem ge20_0 z43 (x9_2 : Int) (ofb) (by have h_ : (x9_2 : Int) < ((((rd_T31 x0_2 a1).f0).length : Int) : Int) := ofb; first | exact h_ | (have e_ := (Kd.R_reads' HR139_0.out).1; omega) | simpa using h_)
     obtain rfl := k43_openM hN20
     have HP20 := Kd.R_seg ge20_0 (x9_2 : Int) (ofb) (by have h_ : (x9_2 : Int) < ((((rd_T31 x0_2 a1).f0).length : Int) : Int) := ofb; first | exact h_ | (have e_ := (Kd.R_reads' HR139_0.out).1; omega) | simpa using h_) (seg := [.int .i64 x8_8, .int .i64 0, .int .i64 0, .int .i64 0, .int .i64 0]) (j := 0) hcl20 hcc20 (show 5 ≤ 5 from by decide) (x' := (⟨x8_8, (⟨0, 0, 0, 0⟩ : S41)⟩ : S43)) (k43_mkM _ _ _ (⟨x8_8, (⟨0, 0, 0, 0⟩ : S41)⟩ : S43)) (fun _ hk => hk)
     clear hcl20 hcc20 hfr20 hN20
     go_wp2_with (first | ((with_reducible refine gate_store (t := 43) (p := 40) rfl ?_); refine store_event (t := 43) (p := 40) (v := ?vo_w21) (w1 := (((((wr.setCell ⟨go19, (x9_2 : Int).toNat * 5, none⟩ (.int .i64 x8_8)).setCell ⟨go19, (x9_2 : Int).toNat * 5 + 1, none⟩ (.int .i64 0)).setCell ⟨go19, (x9_2 : Int).toNat * 5 + 2, none⟩ (.int .i64 0)).setCell ⟨go19, (x9_2 : Int).toNat * 5 + 3, none⟩ (.int .i64 0)).setCell ⟨go19, (x9_2 : Int).toNat * 5 + 4, none⟩ (.int .i64 0))) ?hg ?ho ?hn ?hr ?_; (case ho => rfl); (case hg => rfl); (case hn => rfl); (case hr => first | (go_simp; done) | (go_simp; rfl)); intro w21 hw; have hg : wr.grownBy w21 (some go19) := (by rw [hw]; exact HP20.2); have hz_ : Kd.R k43 43 w21 w0.heap.size oki20 (.slice (some ⟨go19, 0, none⟩) ((rd_T31 x0_2 a1).f0).length c139_0) y140 := (by rw [hw, Ny140.out]; exact HP20.1); have hp_ : Kd.S k31 31 w21 w0.heap.size (fun k_ => (P0_ k_ ∨ w.heap.size ≤ k_)) (.slice (some ⟨go8, 0, none⟩) x0_2.length co10) y142 := (by rw [Ny142.out]; exact hbk20 hg (fun k_ e_ => by injection e_ with e_; subst e_; exact ge20_0.1 _ rfl) (k31_mkM _ _ _ (⟨y140, (rd_T31 x0_2 a1).f1⟩ : S31) hz_)); have hm_ := Kd.R_mono hz_ hok20; clear HP20 hbk20; replace HO_0 := am (hp_); replace HB := am ((by rw [hw]; exact below_set (below_set (below_set (below_set (below_set (HB.out) GB19.out) GB19.out) GB19.out) GB19.out) GB19.out : Below w0.heap.size w0 w21)); replace HK := am (Kept.of_grown (S := (fun k_ => P0_ k_)) hg (pk HK.out) (fun k_ e_ => (HL139_0.out.1 k_ e_).1)); have HL143 := am (hm_); have HC141 := am ((Kd.R_reads' hm_).2.1); clear HL139_0; clear hg hw hp_ hz_ hm_ hok20))
     (try simp only [← hl0_2])
     go_roundg k2
     case measure => have := HJ8.out; have := HK2.out; omega
     case rel => exact ⟨(y142), (wrap64 (x9_2 + 1)), rf, H', ⟨by have := HJ8.out; have := HK2.out; omega⟩, ⟨by (try simp only [hl0_8]); (try simp only [hl0_2]); (with_reducible repeat (first | apply Kd.S_alloc | apply Kd.S_drewN | apply Kd.S_drew)); exact HO_0.out⟩, ⟨pk HK.out⟩, ⟨ph HB.out⟩⟩
def spec_l2Clean.l0 : Nat → Int → Int → List (S43) → Int → Option (Int)
 | 0, _, _, _, _ => none
 | k + 1, x3, x4, x145000, x145001 => if x4 < (x145000.length : Int) then (if 0 ≤ x4 then (if ((rd_T43 x145000 x4).f0) = 0 then (spec_l2Clean.l0 k (wrap64 (x3 + 1)) (wrap64 (x4 + 1)) x145000 x145001) else (spec_l2Clean.l0 k x3 (wrap64 (x4 + 1)) x145000 x145001)) else (none)) else (some x3)
def spec_l2Clean.f (k : Nat) (l0_0 : List (S43)) (a0_1 : Int) : Option (Int) := spec_l2Clean.l0 k 0 0 l0_0 a0_1
theorem spec_l2Clean.mono_l : ∀ k, (∀ y0 y1 y2 y3, LeO (spec_l2Clean.l0 k y0 y1 y2 y3) (spec_l2Clean.l0 (k + 1) y0 y1 y2 y3))
 | 0 => fun _ _ _ _ r h => by simp [spec_l2Clean.l0] at h
 | k + 1 => by
  have ih0 := spec_l2Clean.mono_l k
  · intro y0 y1 y2 y3
    unfold spec_l2Clean.l0
    repeat' first
    | (with_reducible exact ih0 _ _ _ _)
    | (with_reducible exact LeO.refl _)
    | (with_reducible exact LeO.none _)
    | (with_reducible refine LeO.ite ?_ ?_)
    | (with_reducible refine LeO.bind ?_ (fun _ => ?_))
    | exact ih0 _ _ _ _
    | exact LeO.none _
    | refine LeO.ite ?_ ?_
    | refine LeO.bind ?_ (fun _ => ?_)
theorem spec_l2Clean.mono : ∀ a0 a1 k, LeO (spec_l2Clean.f k a0 a1) (spec_l2Clean.f (k + 1) a0 a1) := by
 intro a0 a1 k
 have ih0 := spec_l2Clean.mono_l k
 unfold spec_l2Clean.f
 repeat' first
  | (with_reducible exact ih0 _ _ _ _)
  | (with_reducible exact LeO.refl _)
  | (with_reducible exact LeO.none _)
  | (with_reducible refine LeO.ite ?_ ?_)
  | (with_reducible refine LeO.bind ?_ (fun _ => ?_))
  | exact ih0 _ _ _ _
  | exact LeO.none _
  | refine LeO.ite ?_ ?_
  | refine LeO.bind ?_ (fun _ => ?_)
set_option maxHeartbeats 8000000 in
set_option maxRecDepth 100000 in
theorem spec_l2Clean.calls (k : Nat) (A0_0 : Option Addr) (c0_0 : Nat) (l0_0 : List (S43)) (a0_1 : Int) (r : Int) (w : World) (hr0_0 : Kd.C k43 w A0_0 l0_0.length l0_0) (hc0_0 : l0_0.length ≤ c0_0) (h : spec_l2Clean.f k l0_0 a0_1 = some r) :
 Calls Try.prog 21 #[.agg #[.slice A0_0 l0_0.length c0_0, .int .i64 a0_1]] w fun e w' => e = .returned (.int .i64 r) ∧ Below w.heap.size w w' := by
 have hu31 := Try.underlying31
 have HR0_0 := am hr0_0
 have HC0_0 := am hc0_0
 clear hr0_0 hc0_0
 have HB := am (Below.refl w.heap.size w)
 have H : (spec_l2Clean.l0 k 0 0 l0_0 a0_1) = some r := h
 clear h
 have H' := am H
 clear H
 go_enter Try.func21, Try.ntmps21
 go_wp2_with (first | (refine bx 1 #[.slice A0_0 l0_0.length c0_0, .int .i64 a0_1] 31 rfl ?_; intro gb144 hg w2 hbox hb; have BK144 := am (hbox); have GW144 := am ((by rw [hg]; exact (below_size (ph HB.out)) : w.heap.size ≤ gb144)); have GE144 := GW144; replace HB := am (below_step (ph HB.out) hb); clear hb hbox hg))
 go_loopg [3, 4] k (fun kq v3 v4 w' => ∃ (x3_1 : Int) (x4_1 : Int), v3 = .int .i64 x3_1 ∧ v4 = .int .i64 x4_1 ∧ Aside0 (spec_l2Clean.l0 kq x3_1 x4_1 l0_0 a0_1 = some r) ∧ Aside0 (kq ≤ k) ∧ Aside0 (w'.heap[gb144]? = some (.cells #[(.slice A0_0 l0_0.length c0_0), .int .i64 a0_1] 31 (0, 0))) ∧ Aside0 (Below w.heap.size w w'))
 case atStart => exact ⟨(0), (0), rf, rf, H', ⟨Nat.le_refl _⟩, ⟨pb BK144.out⟩, ⟨bg1 HB.out GE144.out⟩⟩
 case round =>
  clear H'
  obtain ⟨x3_1, x4_1, rfl, rfl, HA, HK1, BK144, HB⟩ := hrel
  cases gk with
  | zero => exact absurd HA.out (by simp [spec_l2Clean.l0])
  | succ k1 =>
   have H := HA.out
   clear HA
   simp only [spec_l2Clean.l0] at H
   by_cases c3 : x4_1 < (l0_0.length : Int)
   rotate_left
   · rw [if_neg c3] at H
     have c3b0 := decide_eq_false c3
     clear c3
     obtain rfl := Option.some.inj H
     obtain ⟨hcz8_0, hcz8_1⟩ := b2 BK144.out
     obtain ⟨hfz8_0, hfz8_1⟩ := f2 BK144.out
     go_wp2
     go_ret
     exact (rq (bg1 HB.out GE144.out))
   rw [if_pos c3] at H
   have c3b0 := decide_eq_true c3
   clear c3
   by_cases c4 : 0 ≤ x4_1
   rotate_left
   · rw [if_neg c4] at H
     exact absurd H (by simp)
   rw [if_pos c4] at H
   have c4b0 := decide_eq_true c4
   clear c4
   by_cases c5 : ((rd_T43 l0_0 x4_1).f0) = 0
   rotate_left
   · rw [if_neg c5] at H
     have c5b0 : (((rd_T43 l0_0 x4_1).f0) == 0) = false := beq_eq_false_iff_ne.mpr c5
     have c5b1 : (((rd_T43 l0_0 x4_1).f0) != 0) = true := bne_iff_ne.mpr c5
     have H' := am H
     clear H
     obtain ⟨hcz7_0, hcz7_1⟩ := b2 BK144.out
     obtain ⟨hfz7_0, hfz7_1⟩ := f2 BK144.out
     have p145 : 0 ≤ (x4_1 : Int) := ofb
     have q145 : x4_1 < (l0_0.length : Int) := ofb
     obtain ⟨ad145, e145, hx145_0, hx145_1, hx145_2, hx145_3, hx145_4⟩ := at_T43 HR0_0.out x4_1 p145 q145
     cases e145
     replace hx145_0 := up HB.out hx145_0
     replace hx145_1 := up HB.out hx145_1
     replace hx145_2 := up HB.out hx145_2
     replace hx145_3 := up HB.out hx145_3
     replace hx145_4 := up HB.out hx145_4
     replace p145 := eq_true p145
     replace q145 := eq_true q145
     go_wp2
     go_roundg k1
     case measure => have := HK1.out; omega
     case rel => exact ⟨(x3_1), (wrap64 (x4_1 + 1)), rf, rf, H', ⟨by have := HK1.out; omega⟩, ⟨pb BK144.out⟩, ⟨bg1 HB.out GE144.out⟩⟩
   rw [if_pos c5] at H
   have c5b0 : (((rd_T43 l0_0 x4_1).f0) == 0) = true := beq_iff_eq.mpr c5
   have c5b1 : (((rd_T43 l0_0 x4_1).f0) != 0) = false := bne_eq_false_iff_eq.mpr c5
   clear c5
   have H' := am H
   clear H
   obtain ⟨hcz6_0, hcz6_1⟩ := b2 BK144.out
   obtain ⟨hfz6_0, hfz6_1⟩ := f2 BK144.out
   have p145 : 0 ≤ (x4_1 : Int) := ofb
   have q145 : x4_1 < (l0_0.length : Int) := ofb
   obtain ⟨ad145, e145, hx145_0, hx145_1, hx145_2, hx145_3, hx145_4⟩ := at_T43 HR0_0.out x4_1 p145 q145
   cases e145
   replace hx145_0 := up HB.out hx145_0
   replace hx145_1 := up HB.out hx145_1
   replace hx145_2 := up HB.out hx145_2
   replace hx145_3 := up HB.out hx145_3
   replace hx145_4 := up HB.out hx145_4
   replace p145 := eq_true p145
   replace q145 := eq_true q145
   go_wp2
   go_roundg k1
   case measure => have := HK1.out; omega
   case rel => exact ⟨(wrap64 (x3_1 + 1)), (wrap64 (x4_1 + 1)), rf, rf, H', ⟨by have := HK1.out; omega⟩, ⟨pb BK144.out⟩, ⟨bg1 HB.out GE144.out⟩⟩
mutual
def spec_l2Seq.l0 : Nat → List (S31) → Int → Int → Option (Bool)
 | 0, _, _, _ => none
 | k + 1, x0, x1, x5 => if x5 < (x0.length : Int) then (spec_l2Seq.l1 k x0 x1 x5 0) else (some false)
def spec_l2Seq.l1 : Nat → List (S31) → Int → Int → Int → Option (Bool)
 | 0, _, _, _, _ => none
 | k + 1, x0, x1, x5, x6 => if 0 ≤ x5 then (if x5 < (x0.length : Int) then (if x6 < (((rd_T31 x0 x5).f0).length : Int) then (if 0 ≤ x6 then (if ((rd_T43 ((rd_T31 x0 x5).f0) x6).f0) = 1 then (if ((rd_T43 ((rd_T31 x0 x5).f0) x6).f1.f1) = x1 then (some true) else (spec_l2Seq.l1 k x0 x1 x5 (wrap64 (x6 + 1)))) else (spec_l2Seq.l1 k x0 x1 x5 (wrap64 (x6 + 1)))) else (none)) else (spec_l2Seq.l0 k x0 x1 (wrap64 (x5 + 1)))) else (none)) else (none)
end
def spec_l2Seq.f (k : Nat) (l0 : List (S31)) (a1 : Int) : Option (Bool) := spec_l2Seq.l0 k l0 a1 0
theorem spec_l2Seq.mono_l : ∀ k, (∀ y0 y1 y2, LeO (spec_l2Seq.l0 k y0 y1 y2) (spec_l2Seq.l0 (k + 1) y0 y1 y2)) ∧ (∀ y0 y1 y2 y3, LeO (spec_l2Seq.l1 k y0 y1 y2 y3) (spec_l2Seq.l1 (k + 1) y0 y1 y2 y3))
 | 0 => ⟨fun _ _ _ r h => by simp [spec_l2Seq.l0] at h, fun _ _ _ _ r h => by simp [spec_l2Seq.l1] at h⟩
 | k + 1 => by
  obtain ⟨ih0, ih1⟩ := spec_l2Seq.mono_l k
  refine ⟨?_, ?_⟩
  · intro y0 y1 y2
    unfold spec_l2Seq.l0
    repeat' first
    | (with_reducible exact ih0 _ _ _)
    | (with_reducible exact ih1 _ _ _ _)
    | (with_reducible exact LeO.refl _)
    | (with_reducible exact LeO.none _)
    | (with_reducible refine LeO.ite ?_ ?_)
    | (with_reducible refine LeO.bind ?_ (fun _ => ?_))
    | exact ih0 _ _ _
    | exact ih1 _ _ _ _
    | exact LeO.none _
    | refine LeO.ite ?_ ?_
    | refine LeO.bind ?_ (fun _ => ?_)
  · intro y0 y1 y2 y3
    unfold spec_l2Seq.l1
    repeat' first
    | (with_reducible exact ih0 _ _ _)
    | (with_reducible exact ih1 _ _ _ _)
    | (with_reducible exact LeO.refl _)
    | (with_reducible exact LeO.none _)
    | (with_reducible refine LeO.ite ?_ ?_)
    | (with_reducible refine LeO.bind ?_ (fun _ => ?_))
    | exact ih0 _ _ _
    | exact ih1 _ _ _ _
    | exact LeO.none _
    | refine LeO.ite ?_ ?_
    | refine LeO.bind ?_ (fun _ => ?_)
theorem spec_l2Seq.mono : ∀ a0 a1 k, LeO (spec_l2Seq.f k a0 a1) (spec_l2Seq.f (k + 1) a0 a1) := by
 intro a0 a1 k
 obtain ⟨ih0, ih1⟩ := spec_l2Seq.mono_l k
 unfold spec_l2Seq.f
 repeat' first
  | (with_reducible exact ih0 _ _ _)
  | (with_reducible exact ih1 _ _ _ _)
  | (with_reducible exact LeO.refl _)
  | (with_reducible exact LeO.none _)
  | (with_reducible refine LeO.ite ?_ ?_)
  | (with_reducible refine LeO.bind ?_ (fun _ => ?_))
  | exact ih0 _ _ _
  | exact ih1 _ _ _ _
  | exact LeO.none _
  | refine LeO.ite ?_ ?_
  | refine LeO.bind ?_ (fun _ => ?_)
set_option maxHeartbeats 8000000 in
set_option maxRecDepth 100000 in
theorem spec_l2Seq.calls (k : Nat) (A0 : Option Addr) (c0 : Nat) (l0 : List (S31)) (a1 : Int) (r : Bool) (w : World) (hr0 : Kd.C k31 w A0 l0.length l0) (hc0 : l0.length ≤ c0) (h : spec_l2Seq.f k l0 a1 = some r) :
 Calls Try.prog 47 #[.slice A0 l0.length c0, .int .i64 a1] w fun e w' => e = .returned (.bool r) ∧ Drawn0 w w' := by
 have HR0 := am hr0
 have HC0 := am hc0
 clear hr0 hc0
 have H : (spec_l2Seq.l0 k l0 a1 0) = some r := h
 clear h
 have H' := am H
 clear H
 go_enter Try.func47, Try.ntmps47
 go_wp2
 go_loopg [5] k (fun kq v5 w' => ∃ (x5_1 : Int), v5 = .int .i64 x5_1 ∧ Aside0 (spec_l2Seq.l0 kq l0 a1 x5_1 = some r) ∧ Aside0 (kq ≤ k) ∧ Drawn0 w w')
 case atStart => exact ⟨(0), rf, H', ⟨Nat.le_refl _⟩, by repeat (first | exact Drawn0.refl _ | apply Drawn0.step)⟩
 case round =>
  clear H'
  obtain ⟨x5_1, rfl, HA, HK1, ⟨m1, rfl⟩⟩ := hrel
  cases gk with
  | zero => exact absurd HA.out (by simp [spec_l2Seq.l0])
  | succ k1 =>
   have H := HA.out
   clear HA
   simp only [spec_l2Seq.l0] at H
   by_cases c3 : x5_1 < (l0.length : Int)
   rotate_left
   · rw [if_neg c3] at H
     have c3b0 := decide_eq_false c3
     clear c3
     obtain rfl := Option.some.inj H
     go_wp2
     go_ret
     exact ⟨by first | rfl | (simp; done) | (simp [*]; done), by repeat (first | exact Drawn0.refl _ | apply Drawn0.step)⟩
   rw [if_pos c3] at H
   have c3b0 := decide_eq_true c3
   clear c3
   have H' := am H
   clear H
   go_wp2
   go_loopg [6] k1 (fun kq v6 w' => ∃ (x6_2 : Int), v6 = .int .i64 x6_2 ∧ Aside0 (spec_l2Seq.l1 kq l0 a1 x5_1 x6_2 = some r) ∧ Aside0 (kq ≤ k1) ∧ Drawn0 w w')
   case atStart => exact ⟨(0), rf, H', ⟨Nat.le_refl _⟩, by repeat (first | exact Drawn0.refl _ | apply Drawn0.step)⟩
   case round =>
    clear H'
    obtain ⟨x6_2, rfl, HA, HK2, ⟨m2, rfl⟩⟩ := hrel
    cases gk with
    | zero => exact absurd HA.out (by simp [spec_l2Seq.l1])
    | succ k2 =>
     have H := HA.out
     clear HA
     simp only [spec_l2Seq.l1] at H
     by_cases c4 : 0 ≤ x5_1
     rotate_left
     · rw [if_neg c4] at H
       exact absurd H (by simp)
     rw [if_pos c4] at H
     have c4b0 := decide_eq_true c4
     clear c4
     by_cases c5 : x5_1 < (l0.length : Int)
     rotate_left
     · rw [if_neg c5] at H
       exact absurd H (by simp)
     rw [if_pos c5] at H
     have c5b0 := decide_eq_true c5
     clear c5
     by_cases c6 : x6_2 < (((rd_T31 l0 x5_1).f0).length : Int)
     rotate_left
     · rw [if_neg c6] at H
       have c6b0 := decide_eq_false c6
       clear c6
       have H' := am H
       clear H
       have p146 : 0 ≤ (x5_1 : Int) := ofb
       have q146 : x5_1 < (l0.length : Int) := ofb
       obtain ⟨ad146, A146_0, c146_0, e146, hx146_0, hx146_1, hl146_0, hi146_0⟩ := at_T31 HR0.out x5_1 p146 q146
       cases e146
       have HR146_0 := am hi146_0
       have HC146_0 := am hl146_0
       clear hi146_0 hl146_0
       replace p146 := eq_true p146
       replace q146 := eq_true q146
       go_wp2
       go_roundg k2
       case measure => have := HK1.out; have := HK2.out; omega
       case rel => exact ⟨(wrap64 (x5_1 + 1)), rf, H', ⟨by have := HK1.out; have := HK2.out; omega⟩, by repeat (first | exact Drawn0.refl _ | apply Drawn0.step)⟩
     rw [if_pos c6] at H
     have c6b0 := decide_eq_true c6
     clear c6
     by_cases c7 : 0 ≤ x6_2
     rotate_left
     · rw [if_neg c7] at H
       exact absurd H (by simp)
     rw [if_pos c7] at H
     have c7b0 := decide_eq_true c7
     clear c7
     by_cases c8 : ((rd_T43 ((rd_T31 l0 x5_1).f0) x6_2).f0) = 1
     rotate_left
     · rw [if_neg c8] at H
       have c8b0 : (((rd_T43 ((rd_T31 l0 x5_1).f0) x6_2).f0) == 1) = false := beq_eq_false_iff_ne.mpr c8
       have c8b1 : (((rd_T43 ((rd_T31 l0 x5_1).f0) x6_2).f0) != 1) = true := bne_iff_ne.mpr c8
       have H' := am H
       clear H
       have p146 : 0 ≤ (x5_1 : Int) := ofb
       have q146 : x5_1 < (l0.length : Int) := ofb
       obtain ⟨ad146, A146_0, c146_0, e146, hx146_0, hx146_1, hl146_0, hi146_0⟩ := at_T31 HR0.out x5_1 p146 q146
       cases e146
       have HR146_0 := am hi146_0
       have HC146_0 := am hl146_0
       clear hi146_0 hl146_0
       replace p146 := eq_true p146
       replace q146 := eq_true q146
       have p147 : 0 ≤ (x5_1 : Int) := ofb
       have q147 : x5_1 < (l0.length : Int) := ofb
       obtain ⟨ad147, A147_0, c147_0, e147, hx147_0, hx147_1, hl147_0, hi147_0⟩ := at_T31 HR0.out x5_1 p147 q147
       obtain rfl : ad146 = ad147 := (by injection e147)
       have HR147_0 := am hi147_0
       have HC147_0 := am hl147_0
       clear hi147_0 hl147_0
       replace p147 := eq_true p147
       replace q147 := eq_true q147
       have ea_ := Option.some.inj (hx146_0.symm.trans hx147_0)
       injection ea_ with ea_ en_ ec_
       subst ea_
       subst ec_
       clear en_
       have p148 : 0 ≤ (x6_2 : Int) := ofb
       have q148 : x6_2 < (((rd_T31 l0 x5_1).f0).length : Int) := ofb
       obtain ⟨ad148, e148, hx148_0, hx148_1, hx148_2, hx148_3, hx148_4⟩ := at_T43 HR147_0.out x6_2 p148 q148
       cases e148
       replace p148 := eq_true p148
       replace q148 := eq_true q148
       go_wp2
       go_roundg k2
       case measure => have := HK1.out; have := HK2.out; omega
       case rel => exact ⟨(wrap64 (x6_2 + 1)), rf, H', ⟨by have := HK1.out; have := HK2.out; omega⟩, by repeat (first | exact Drawn0.refl _ | apply Drawn0.step)⟩
     rw [if_pos c8] at H
     have c8b0 : (((rd_T43 ((rd_T31 l0 x5_1).f0) x6_2).f0) == 1) = true := beq_iff_eq.mpr c8
     have c8b1 : (((rd_T43 ((rd_T31 l0 x5_1).f0) x6_2).f0) != 1) = false := bne_eq_false_iff_eq.mpr c8
     clear c8
     by_cases c9 : ((rd_T43 ((rd_T31 l0 x5_1).f0) x6_2).f1.f1) = a1
     · rw [if_pos c9] at H
       have c9b0 : (((rd_T43 ((rd_T31 l0 x5_1).f0) x6_2).f1.f1) == a1) = true := beq_iff_eq.mpr c9
       have c9b1 : (((rd_T43 ((rd_T31 l0 x5_1).f0) x6_2).f1.f1) != a1) = false := bne_eq_false_iff_eq.mpr c9
       clear c9
       obtain rfl := Option.some.inj H
       have p146 : 0 ≤ (x5_1 : Int) := ofb
       have q146 : x5_1 < (l0.length : Int) := ofb
       obtain ⟨ad146, A146_0, c146_0, e146, hx146_0, hx146_1, hl146_0, hi146_0⟩ := at_T31 HR0.out x5_1 p146 q146
       cases e146
       have HR146_0 := am hi146_0
       have HC146_0 := am hl146_0
       clear hi146_0 hl146_0
       replace p146 := eq_true p146
       replace q146 := eq_true q146
       have p147 : 0 ≤ (x5_1 : Int) := ofb
       have q147 : x5_1 < (l0.length : Int) := ofb
       obtain ⟨ad147, A147_0, c147_0, e147, hx147_0, hx147_1, hl147_0, hi147_0⟩ := at_T31 HR0.out x5_1 p147 q147
       obtain rfl : ad146 = ad147 := (by injection e147)
       have HR147_0 := am hi147_0
       have HC147_0 := am hl147_0
       clear hi147_0 hl147_0
       replace p147 := eq_true p147
       replace q147 := eq_true q147
       have ea_ := Option.some.inj (hx146_0.symm.trans hx147_0)
       injection ea_ with ea_ en_ ec_
       subst ea_
       subst ec_
       clear en_
       have p148 : 0 ≤ (x6_2 : Int) := ofb
       have q148 : x6_2 < (((rd_T31 l0 x5_1).f0).length : Int) := ofb
       obtain ⟨ad148, e148, hx148_0, hx148_1, hx148_2, hx148_3, hx148_4⟩ := at_T43 HR147_0.out x6_2 p148 q148
       cases e148
       replace p148 := eq_true p148
       replace q148 := eq_true q148
       have p149 : 0 ≤ (x5_1 : Int) := ofb
       have q149 : x5_1 < (l0.length : Int) := ofb
       obtain ⟨ad149, A149_0, c149_0, e149, hx149_0, hx149_1, hl149_0, hi149_0⟩ := at_T31 HR0.out x5_1 p149 q149
       obtain rfl : ad146 = ad149 := (by injection e149)
       have HR149_0 := am hi149_0
       have HC149_0 := am hl149_0
       clear hi149_0 hl149_0
       replace p149 := eq_true p149
       replace q149 := eq_true q149
       have ea_ := Option.some.inj (hx146_0.symm.trans hx149_0)
       injection ea_ with ea_ en_ ec_
       subst ea_
       subst ec_
       clear en_
       have p150 : 0 ≤ (x6_2 : Int) := ofb
       have q150 : x6_2 < (((rd_T31 l0 x5_1).f0).length : Int) := ofb
       obtain ⟨ad150, e150, hx150_0, hx150_1, hx150_2, hx150_3, hx150_4⟩ := at_T43 HR149_0.out x6_2 p150 q150
       cases e150
       replace p150 := eq_true p150
       replace q150 := eq_true q150
       go_wp2
       go_ret
       exact ⟨by first | rfl | (simp; done) | (simp [*]; done), by repeat (first | exact Drawn0.refl _ | apply Drawn0.step)⟩
     rw [if_neg c9] at H
     have c9b0 : (((rd_T43 ((rd_T31 l0 x5_1).f0) x6_2).f1.f1) == a1) = false := beq_eq_false_iff_ne.mpr c9
     have c9b1 : (((rd_T43 ((rd_T31 l0 x5_1).f0) x6_2).f1.f1) != a1) = true := bne_iff_ne.mpr c9
     have H' := am H
     clear H
     have p146 : 0 ≤ (x5_1 : Int) := ofb
     have q146 : x5_1 < (l0.length : Int) := ofb
     obtain ⟨ad146, A146_0, c146_0, e146, hx146_0, hx146_1, hl146_0, hi146_0⟩ := at_T31 HR0.out x5_1 p146 q146
     cases e146
     have HR146_0 := am hi146_0
     have HC146_0 := am hl146_0
     clear hi146_0 hl146_0
     replace p146 := eq_true p146
     replace q146 := eq_true q146
     have p147 : 0 ≤ (x5_1 : Int) := ofb
     have q147 : x5_1 < (l0.length : Int) := ofb
     obtain ⟨ad147, A147_0, c147_0, e147, hx147_0, hx147_1, hl147_0, hi147_0⟩ := at_T31 HR0.out x5_1 p147 q147
     obtain rfl : ad146 = ad147 := (by injection e147)
     have HR147_0 := am hi147_0
     have HC147_0 := am hl147_0
     clear hi147_0 hl147_0
     replace p147 := eq_true p147
     replace q147 := eq_true q147
     have ea_ := Option.some.inj (hx146_0.symm.trans hx147_0)
     injection ea_ with ea_ en_ ec_
     subst ea_
     subst ec_
     clear en_
     have p148 : 0 ≤ (x6_2 : Int) := ofb
     have q148 : x6_2 < (((rd_T31 l0 x5_1).f0).length : Int) := ofb
     obtain ⟨ad148, e148, hx148_0, hx148_1, hx148_2, hx148_3, hx148_4⟩ := at_T43 HR147_0.out x6_2 p148 q148
     cases e148
     replace p148 := eq_true p148
     replace q148 := eq_true q148
     have p149 : 0 ≤ (x5_1 : Int) := ofb
     have q149 : x5_1 < (l0.length : Int) := ofb
     obtain ⟨ad149, A149_0, c149_0, e149, hx149_0, hx149_1, hl149_0, hi149_0⟩ := at_T31 HR0.out x5_1 p149 q149
     obtain rfl : ad146 = ad149 := (by injection e149)
     have HR149_0 := am hi149_0
     have HC149_0 := am hl149_0
     clear hi149_0 hl149_0
     replace p149 := eq_true p149
     replace q149 := eq_true q149
     have ea_ := Option.some.inj (hx146_0.symm.trans hx149_0)
     injection ea_ with ea_ en_ ec_
     subst ea_
     subst ec_
     clear en_
     have p150 : 0 ≤ (x6_2 : Int) := ofb
     have q150 : x6_2 < (((rd_T31 l0 x5_1).f0).length : Int) := ofb
     obtain ⟨ad150, e150, hx150_0, hx150_1, hx150_2, hx150_3, hx150_4⟩ := at_T43 HR149_0.out x6_2 p150 q150
     cases e150
     replace p150 := eq_true p150
     replace q150 := eq_true q150
     go_wp2
     go_roundg k2
     case measure => have := HK1.out; have := HK2.out; omega
     case rel => exact ⟨(wrap64 (x6_2 + 1)), rf, H', ⟨by have := HK1.out; have := HK2.out; omega⟩, by repeat (first | exact Drawn0.refl _ | apply Drawn0.step)⟩
end Go.Proofs.Ytpdelojhomfakaa.Ro
