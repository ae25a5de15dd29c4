-- printed by wip/pp/pp.py
import Derived.Test.YtklmgekagoibjaaRv0
import Derived.Test.YtklmgekagoibjaaRv1
import Derived.Test.YtklmgekagoibjaaRv6
import Derived.Deep.RegionHeld3
import Derived.RegionTactic
import Derived.Test.YtklmgekagoibjaaRv3
namespace Go.Proofs.Ytklmgekagoibjaa.Rv
open Go.RowKit Go.Proofs.YtklmgekagoibjaaW.PrintWords Go.Proofs.YtklmgekagoibjaaW.PrintLast Go.Proofs.YtklmgekagoibjaaW.PrintMore
attribute [local go_sem] max2_int min2_int max_two min_two max_three min_three max_four min_four
set_option linter.unusedVariables false
set_option linter.unusedSimpArgs false
def spec_l71Play.l0 : Nat → List (S70) → Int → List Int → Int → List (S37) → List Int → Option ((List (S70)) × (List (S37)) × List Int × Int)
 | 0, _, _, _, _, _, _ => none
 | k + 1, x5, x6, x1000, x1001, x334000, x334001 => if x6 > 0 then ((spec_l71Event.f k x1000 x1001).bind fun bt339 => (if x5.length < 3518437208883 then ((spec_l21Do.f k x334000 x334001 bt339.1 bt339.2.1 bt339.2.2.1 bt339.2.2.2.1 bt339.2.2.2.2.1).bind fun bt349 => (spec_l71Play.l0 k (x5 ++ [(⟨bt339.1, bt339.2.1, bt339.2.2.1, bt339.2.2.2.1, bt339.2.2.2.2.1⟩ : S70)]) (wrap64 (x6 - 1)) x1000 bt339.2.2.2.2.2 bt349.1 bt349.2)) else (none))) else (some (x5, x334000, x334001, x1001))
def spec_l71Play.f (k : Nat) (s0_0 : List Int) (s0_1 : Int) : Option ((List (S70)) × (List (S37)) × List Int × Int) := (spec_StoreNew.f k).bind fun bt327 => ((spec_l6Rd_pick.f k s0_0 s0_1 58).bind fun bt337 => (spec_l71Play.l0 k (([] : List (S70))) bt337.1 s0_0 bt337.2 bt327.1 bt327.2))
theorem spec_l71Play.mono_l : ∀ k, (∀ y0 y1 y2 y3 y4 y5, LeO (spec_l71Play.l0 k y0 y1 y2 y3 y4 y5) (spec_l71Play.l0 (k + 1) y0 y1 y2 y3 y4 y5))
 | 0 => fun _ _ _ _ _ _ r h => by simp [spec_l71Play.l0] at h
 | k + 1 => by
  have ih0 := spec_l71Play.mono_l k
  · intro y0 y1 y2 y3 y4 y5
    unfold spec_l71Play.l0
    with_reducible repeat' first | exact ih0 _ _ _ _ _ _ | exact spec_StoreNew.mono _ | exact spec_l21Do.mono _ _ _ _ _ _ _ _ | exact spec_l6Rd_pick.mono _ _ _ _ | exact spec_l71Event.mono _ _ _ | exact LeO.refl _ | exact LeO.none _ | refine LeO.ite ?_ ?_ | refine LeO.bind ?_ (fun _ => ?_)
theorem spec_l71Play.mono : ∀ a0 a1 k, LeO (spec_l71Play.f k a0 a1) (spec_l71Play.f (k + 1) a0 a1) := by
 intro a0 a1 k
 have ih0 := spec_l71Play.mono_l k
 unfold spec_l71Play.f
 with_reducible repeat' first | exact ih0 _ _ _ _ _ _ | exact spec_StoreNew.mono _ | exact spec_l21Do.mono _ _ _ _ _ _ _ _ | exact spec_l6Rd_pick.mono _ _ _ _ | exact spec_l71Event.mono _ _ _ | exact LeO.refl _ | exact LeO.none _ | refine LeO.ite ?_ ?_ | refine LeO.bind ?_ (fun _ => ?_)
set_option maxHeartbeats 8000000 in
set_option maxRecDepth 100000 in
theorem spec_l71Play.calls (k : Nat) (g : Nat) (s0_0 : List Int) (s0_1 : Int) (r1 : List (S70)) (r2 : List (S37)) (r3 : List Int) (r4 : Int) (w0 w : World) (hI : IsS55 w0 w g s0_0 s0_1) (hB : Below w0.heap.size w0 w) (h : spec_l71Play.f k s0_0 s0_1 = some (r1, r2, r3, r4)) :
 Calls Try.prog 28 #[.pointer (some ⟨g, 0, none⟩)] w fun e w' => ∃ v0_ v1_ v2_ : Value, e = .returned (.tuple #[v0_, .agg #[v1_, v2_]]) ∧ Kd.R k70 70 w' w.heap.size (fun _ => True) v0_ r1 ∧ Kd.S k37 37 w' w.heap.size (fun _ => True) v1_ r2 ∧ Kd.R (Kd.int .i64) 3 w' w.heap.size (fun _ => True) v2_ r3 ∧ IsS55 w0 w' g s0_0 r4 ∧ Below w0.heap.size w0 w' ∧ KeepBut w w' g none := by
 have hu59 := Try.underlying59
 have hu70 := Try.underlying70
 have HI0 := am hI
 have HK := am (KeepBut.refl w g none)
 have HL := am hB.size
 clear hI
 have HW0 := am hB.size
 have HB := am hB
 clear hB
 have H : ((spec_StoreNew.f k).bind fun bt327 => ((spec_l6Rd_pick.f k s0_0 s0_1 58).bind fun bt337 => (spec_l71Play.l0 k (([] : List (S70))) bt337.1 s0_0 bt337.2 bt327.1 bt327.2))) = some (r1, r2, r3, r4) := h
 clear h
 replace H := Option.bind_eq_some_iff.mp H
 obtain ⟨⟨t327, t330⟩, A20, H⟩ := H
 have A2 := am A20
 clear A20
 obtain ⟨y334, hy334⟩ : ∃ y_ : List (S70), y_ = (([] : List (S70))) := ⟨_, rfl⟩
 replace H : ((spec_l6Rd_pick.f k s0_0 s0_1 58).bind fun bt337 => (spec_l71Play.l0 k y334 bt337.1 s0_0 bt337.2 t327 t330)) = some (r1, r2, r3, r4) := by first | (rw [hy334]; with_reducible exact H) | (have H2_ := (Option.bind_some _ _).symm.trans H; rw [hy334]; with_reducible exact H2_) | (have H2_ := (Option.bind_some _ _).symm.trans H; with_reducible exact H2_) | with_reducible exact H | (rw [hy334]; exact H) | exact H
 have Ny334 := am hy334
 clear hy334
 replace H := Option.bind_eq_some_iff.mp H
 obtain ⟨⟨t337, t338⟩, A30, H⟩ := H
 have A3 := am A30
 clear A30
 have H' := am H
 clear H
 go_enter Try.func28, Try.ntmps28
 go_wp2_with (first | (refine bx 3 #[.slice none 0 0, .slice none 0 0] 59 rfl ?_; intro gb326 hg w4 hbox hb; replace HB := am (below_step (by repeat (first | (with_reducible first | exact HB.out | apply below_alloc | apply pw_below_drewN | apply below_drew1 | refine below_set ?_ (IsS55.ge HI0.out)) | exact HB.out)) hb); have BK326 := am (hbox); have GW326 := am ((by rw [hg]; exact (keep_size (w := w) (g := g) (row := none) (by repeat (first | (with_reducible first | exact HK.out | apply KeepBut.set_ | apply keep_drewN | apply keep_drew | apply keep_alloc) | exact HK.out))) : w.heap.size ≤ gb326)); have GE326 := am ((Nat.le_trans HW0.out (by rw [hg]; exact (keep_size (w := w) (g := g) (row := none) (by repeat (first | (with_reducible first | exact HK.out | apply KeepBut.set_ | apply keep_drewN | apply keep_drew | apply keep_alloc) | exact HK.out))) : w.heap.size ≤ gb326) : w0.heap.size ≤ gb326)); replace HK := am (KeepBut.trans (by repeat (first | (with_reducible first | exact HK.out | apply KeepBut.set_ | apply keep_drewN | apply keep_drew | apply keep_alloc) | exact HK.out)) (KeepBut.of_below hb g none) (.inl rfl)); have NB0_326 := am ((by rw [hg]; exact Nat.ne_of_lt (IsS55.lt (show IsS55 w0 _ g s0_0 s0_1 from by repeat (first | (with_reducible first | exact HI0.out | apply IsS55.alloc | apply IsS55.drewN | apply IsS55.drew | apply IsS55.set_1) | exact HI0.out))) : g ≠ gb326)); have NB326_0 := am (Ne.symm NB0_326.out); replace HI0 := am (IsS55.below (by repeat (first | (with_reducible first | exact HI0.out | apply IsS55.alloc | apply IsS55.drewN | apply IsS55.drew | apply IsS55.set_1) | exact HI0.out)) hb); clear hb hbox hg) | (refine gl 8 Try.func38 #[] rfl ?_; (with_reducible refine (spec_StoreNew.calls k  t327 t330 _ A2.out).mono ?_); rintro e w5 ⟨v328, v331, rfl, ho0, ho1, hb⟩; refine ⟨_, rfl, ?_⟩; have HO329 := am (Kd.S_lower ho0 (keep_size (w := w) (g := g) (row := none) (by repeat (first | (with_reducible first | exact HK.out | apply KeepBut.set_ | apply keep_drewN | apply keep_drew | apply keep_alloc | refine keep_far ?_ GW326.out _) | exact HK.out)))); have HO332 := am (Kd.R_lower ho1 (keep_size (w := w) (g := g) (row := none) (by repeat (first | (with_reducible first | exact HK.out | apply KeepBut.set_ | apply keep_drewN | apply keep_drew | apply keep_alloc | refine keep_far ?_ GW326.out _) | exact HK.out)))); replace BK326 := am (blk_below (pb BK326.out) hb); replace HK := am (KeepBut.trans (by repeat (first | (with_reducible first | exact HK.out | apply KeepBut.set_ | apply keep_drewN | apply keep_drew | apply keep_alloc | refine keep_far ?_ GW326.out _) | exact HK.out)) (KeepBut.of_below hb g none) (.inl rfl)); replace HB := am (below_step (by repeat (first | (with_reducible first | exact HB.out | apply below_alloc | apply pw_below_drewN | apply below_drew1 | refine below_set ?_ (IsS55.ge HI0.out) | refine below_set ?_ GE326.out) | exact HB.out)) hb); replace HI0 := am (IsS55.below (by repeat (first | (with_reducible first | exact HI0.out | apply IsS55.alloc | apply IsS55.drewN | apply IsS55.drew | apply IsS55.set_1 | refine IsS55.far ?_ NB0_326.out _) | exact HI0.out)) hb); (try clear hb); (try clear hb2); (try clear hk); (try clear hi); (try clear ho0); (try clear ho1)) | (refine bx 4 #[.slice none 0 0, .slice none 0 0] 59 rfl ?_; intro gb333 hg w6 hbox hb; replace HO329 := am (Kd.S_below (ps HO329.out) hb); replace HO332 := am (Kd.R_below (pr HO332.out) hb); replace HB := am (below_step (by repeat (first | (with_reducible first | exact HB.out | apply below_alloc | apply pw_below_drewN | apply below_drew1 | refine below_set ?_ (IsS55.ge HI0.out) | refine below_set ?_ GE326.out) | exact HB.out)) hb); have BK333 := am (hbox); have GW333 := am ((by rw [hg]; exact (keep_size (w := w) (g := g) (row := none) (by repeat (first | (with_reducible first | exact HK.out | apply KeepBut.set_ | apply keep_drewN | apply keep_drew | apply keep_alloc | refine keep_far ?_ GW326.out _) | exact HK.out))) : w.heap.size ≤ gb333)); have GE333 := am ((Nat.le_trans HW0.out (by rw [hg]; exact (keep_size (w := w) (g := g) (row := none) (by repeat (first | (with_reducible first | exact HK.out | apply KeepBut.set_ | apply keep_drewN | apply keep_drew | apply keep_alloc | refine keep_far ?_ GW326.out _) | exact HK.out))) : w.heap.size ≤ gb333) : w0.heap.size ≤ gb333)); replace HK := am (KeepBut.trans (by repeat (first | (with_reducible first | exact HK.out | apply KeepBut.set_ | apply keep_drewN | apply keep_drew | apply keep_alloc | refine keep_far ?_ GW326.out _) | exact HK.out)) (KeepBut.of_below hb g none) (.inl rfl)); have NB326_333 := am (nb hg (pb BK326.out)); have NB333_326 := am (Ne.symm NB326_333.out); replace BK326 := am (blk_below (pb BK326.out) hb); have NB0_333 := am ((by rw [hg]; exact Nat.ne_of_lt (IsS55.lt (show IsS55 w0 _ g s0_0 s0_1 from by repeat (first | (with_reducible first | exact HI0.out | apply IsS55.alloc | apply IsS55.drewN | apply IsS55.drew | apply IsS55.set_1 | refine IsS55.far ?_ NB0_326.out _) | exact HI0.out))) : g ≠ gb333)); have NB333_0 := am (Ne.symm NB0_333.out); replace HI0 := am (IsS55.below (by repeat (first | (with_reducible first | exact HI0.out | apply IsS55.alloc | apply IsS55.drewN | apply IsS55.drew | apply IsS55.set_1 | refine IsS55.far ?_ NB0_326.out _) | exact HI0.out)) hb); clear hb hbox hg; obtain ⟨Ao7, co7, eo7⟩ := Kd.S_slice HO329.out; subst eo7; have hnb8 := NB333_326.out; have hnc8 := NB326_333.out; have hnb9 := NB333_0.out; have hnc9 := NB0_333.out; obtain ⟨hcz10_0, hcz10_1⟩ := b2 BK333.out; obtain ⟨hfz10_0, hfz10_1⟩ := f2 BK333.out; obtain ⟨Ao11, co11, eo11⟩ := Kd.R_slice HO332.out; subst eo11) | ((with_reducible refine gate_dst (N := 9) rfl ?_); refine Kd.R_lit k70 _ 70 ?hg (N := 9) ?hd (xs := ([] : List (S70))) (inner := []) (ok := fun _ => True) (okp := fun _ => True) ?hr ?hp (fun _ hk => hk) trivial (Below.refl _ _) (Nat.le_refl _) (by simp) ?_; (case hd => rfl); (case hg => rfl); (case hr => first | (go_simp; done) | (go_simp; rfl)); (case hp => exact (Reps.none _ _)); intro v335 w12 ho13 hb hg_ hnew_; clear hg_ hnew_; (first | rw [← Ny334.out] at ho13 | (simp only [Int.reduceToNat] at ho13; rw [← Ny334.out] at ho13)); replace HO329 := am (Kd.S_below (by (with_reducible repeat (first | apply Kd.S_alloc | apply Kd.S_drewN | apply Kd.S_drew)); exact (Kd.S_mono (Kd.S_far (p := ⟨gb333, 1, none⟩) (Kd.S_far (p := ⟨gb333, 0, none⟩) (Kd.S_types HO329.out BK333.out (by decide)) (fun _ hk => hk.2) (.slice Ao7 t327.length co7)) (fun _ hk => hk.2) (.slice Ao11 t330.length co11)) (fun _ h_ => h_.1))) hb); replace HO332 := am (Kd.R_below (by (with_reducible repeat (first | apply Kd.R_alloc | apply Kd.R_drewN | apply Kd.R_drew)); exact (Kd.R_mono (Kd.R_far (p := ⟨gb333, 1, none⟩) (Kd.R_far (p := ⟨gb333, 0, none⟩) (Kd.R_types HO332.out BK333.out (by decide)) (fun _ hk => hk.2) (.slice Ao7 t327.length co7)) (fun _ hk => hk.2) (.slice Ao11 t330.length co11)) (fun _ h_ => h_.1))) hb); have HO336 := am (Kd.R_lower ho13 (keep_size (w := w) (g := g) (row := none) (by repeat (first | (with_reducible first | exact HK.out | apply KeepBut.set_ | apply keep_drewN | apply keep_drew | apply keep_alloc | refine keep_far ?_ GW326.out _ | refine keep_far ?_ GW333.out _) | exact HK.out)))); replace BK326 := am (blk_below (bf2 (pb BK326.out) NB326_333.out) hb); replace BK333 := am (blk_below (bp2 (pb BK333.out)) hb); replace HK := am (KeepBut.trans (by repeat (first | (with_reducible first | exact HK.out | apply KeepBut.set_ | apply keep_drewN | apply keep_drew | apply keep_alloc | refine keep_far ?_ GW326.out _ | refine keep_far ?_ GW333.out _) | exact HK.out)) (KeepBut.of_below hb g none) (.inl rfl)); replace HB := am (below_step (by repeat (first | (with_reducible first | exact HB.out | apply below_alloc | apply pw_below_drewN | apply below_drew1 | refine below_set ?_ (IsS55.ge HI0.out) | refine below_set ?_ GE326.out | refine below_set ?_ GE333.out) | exact HB.out)) hb); replace HI0 := am (IsS55.below (show IsS55 w0 ((w6.setCell ⟨gb333, 0, none⟩ (.slice Ao7 t327.length co7)).setCell ⟨gb333, 1, none⟩ (.slice Ao11 t330.length co11)) g s0_0 s0_1 from by repeat (first | (with_reducible first | exact HI0.out | apply IsS55.alloc | apply IsS55.drewN | apply IsS55.drew | apply IsS55.set_1 | refine IsS55.far ?_ NB0_326.out _ | refine IsS55.far ?_ NB0_333.out _) | exact HI0.out)) hb); clear hb ho13) | (refine gl 11 Try.func14 #[.pointer (some ⟨g, 0, none⟩), .int .i64 58] rfl ?_; (with_reducible refine (spec_l6Rd_pick.calls k g s0_0 s0_1 58 t337 t338 w0 _ ?side1 ?side2 A3.out).mono ?_); (case side1 => repeat (first | (with_reducible first | exact HI0.out | apply IsS55.alloc | apply IsS55.drewN | apply IsS55.drew | apply IsS55.set_1 | refine IsS55.far ?_ NB0_326.out _ | refine IsS55.far ?_ NB0_333.out _) | exact HI0.out)); (case side2 => repeat (first | (with_reducible first | exact HB.out | apply below_alloc | apply pw_below_drewN | apply below_drew1 | refine below_set ?_ (IsS55.ge HI0.out) | refine below_set ?_ GE326.out | refine below_set ?_ GE333.out) | exact HB.out)); rintro e w14 ⟨rfl, hi, hb, hk⟩; refine ⟨_, rfl, ?_⟩; replace BK326 := am (KeepBut.blk hk (g' := gb326) (o := .cells #[.slice none 0 0, .slice none 0 0] 59 (0, 0)) (pb BK326.out) NB326_0.out (by simp)); replace HO329 := am (Kd.S_mono (Kd.S_keep (IsS55.apartS (show IsS55 w0 _ g s0_0 s0_1 from by repeat (first | (with_reducible first | exact HI0.out | apply IsS55.alloc | apply IsS55.drewN | apply IsS55.drew | apply IsS55.set_1 | refine IsS55.far ?_ NB0_326.out _ | refine IsS55.far ?_ NB0_333.out _) | exact HI0.out)) (ps HO329.out) (by decide)) hk (fun _ h => h.2)) (fun _ h => h.1)); replace HO332 := am (Kd.R_mono (Kd.R_keep (IsS55.apart (show IsS55 w0 _ g s0_0 s0_1 from by repeat (first | (with_reducible first | exact HI0.out | apply IsS55.alloc | apply IsS55.drewN | apply IsS55.drew | apply IsS55.set_1 | refine IsS55.far ?_ NB0_326.out _ | refine IsS55.far ?_ NB0_333.out _) | exact HI0.out)) (pr HO332.out) (by decide)) hk (fun _ h => h.2)) (fun _ h => h.1)); replace BK333 := am (KeepBut.blk hk (g' := gb333) (o := .cells #[.slice Ao7 t327.length co7, .slice Ao11 t330.length co11] 59 (0, 0)) (pb BK333.out) NB333_0.out (by simp)); replace HO336 := am (Kd.R_mono (Kd.R_keep (IsS55.apart (show IsS55 w0 _ g s0_0 s0_1 from by repeat (first | (with_reducible first | exact HI0.out | apply IsS55.alloc | apply IsS55.drewN | apply IsS55.drew | apply IsS55.set_1 | refine IsS55.far ?_ NB0_326.out _ | refine IsS55.far ?_ NB0_333.out _) | exact HI0.out)) (pr HO336.out) (by decide)) hk (fun _ h => h.2)) (fun _ h => h.1)); replace HK := am (KeepBut.trans (by repeat (first | (with_reducible first | exact HK.out | apply KeepBut.set_ | apply keep_drewN | apply keep_drew | apply keep_alloc | refine keep_far ?_ GW326.out _ | refine keep_far ?_ GW333.out _) | exact HK.out)) hk (.inl rfl)); replace HB := am (hb); replace HI0 := am (hi); (try clear hb); (try clear hb2); (try clear hk); (try clear hi)))
 go_loopg [5, 6] k (fun kq v5 v6 w' => ∃ (x5_1 : List (S70)) (x6_1 : Int) (x1001_1 : Int) (x334000_1 : List (S37)) (x334001_1 : List Int) (u334000 : Value) (u334001 : Value), v6 = .int .i64 x6_1 ∧ Aside0 (spec_l71Play.l0 kq x5_1 x6_1 s0_0 x1001_1 x334000_1 x334001_1 = some (r1, r2, r3, r4)) ∧ Aside0 (kq ≤ k) ∧ Aside0 (Kd.R k70 70 w' w.heap.size (fun _ => True) v5 x5_1) ∧ Aside0 (Kd.S k37 37 w' w.heap.size (fun _ => True) u334000 x334000_1) ∧ Aside0 (Kd.R (Kd.int .i64) 3 w' w.heap.size (fun _ => True) u334001 x334001_1) ∧ Aside0 (w'.heap[gb326]? = some (.cells #[(.slice none 0 0), (.slice none 0 0)] 59 (0, 0))) ∧ Aside0 (w'.heap[gb333]? = some (.cells #[u334000, u334001] 59 (0, 0))) ∧ Aside0 (IsS55 w0 w' g s0_0 x1001_1) ∧ Aside0 (KeepBut w w' g none) ∧ Aside0 (Below w0.heap.size w0 w'))
 case atStart => exact ⟨(y334), (t337), (t338), (t327), (t330), (.slice Ao7 t327.length co7), (.slice Ao11 t330.length co11), rf, H', ⟨Nat.le_refl _⟩, ⟨pr HO336.out⟩, ⟨ps HO329.out⟩, ⟨pr HO332.out⟩, ⟨pb BK326.out⟩, ⟨pb BK333.out⟩, ⟨by repeat (first | (with_reducible first | exact HI0.out | apply IsS55.alloc | apply IsS55.drewN | apply IsS55.drew | apply IsS55.set_1 | refine IsS55.far ?_ NB0_326.out _ | refine IsS55.far ?_ NB0_333.out _) | exact HI0.out)⟩, ⟨by repeat (first | (with_reducible first | exact HK.out | apply KeepBut.set_ | apply keep_drewN | apply keep_drew | apply keep_alloc | refine keep_far ?_ GW326.out _ | refine keep_far ?_ GW333.out _) | exact HK.out)⟩, ⟨by repeat (first | (with_reducible first | exact HB.out | apply below_alloc | apply pw_below_drewN | apply below_drew1 | refine below_set ?_ (IsS55.ge HI0.out) | refine below_set ?_ GE326.out | refine below_set ?_ GE333.out) | exact HB.out)⟩⟩
 case round =>
  clear H'
  obtain ⟨x5_1, x6_1, x1001_1, x334000_1, x334001_1, u334000, u334001, rfl, HA, HK1, HO_5, HO_334000, HO_334001, BK326, BK333, HI0, HK, HB⟩ := hrel
  cases gk with
  | zero => exact absurd HA.out (by simp [spec_l71Play.l0])
  | succ k1 =>
   have H := HA.out
   clear HA
   simp only [spec_l71Play.l0] at H
   by_cases c15 : x6_1 > 0
   rotate_left
   · rw [if_neg c15] at H
     have c15b0 := decide_eq_false c15
     clear c15
     simp only [Option.some.injEq, Prod.mk.injEq] at H
     obtain ⟨rfl, rfl, rfl, rfl⟩ := H
     try go_wp2
     replace HO_5 := am (Kd.R_drew HO_5.out)
     replace HO_334000 := am (Kd.S_drew HO_334000.out)
     replace HO_334001 := am (Kd.R_drew HO_334001.out)
     replace BK326 := am (blk_drew BK326.out)
     replace BK333 := am (blk_drew BK333.out)
     replace HI0 := am (IsS55.drew HI0.out)
     replace HK := am (keep_drew HK.out)
     replace HB := am (below_drew1 HB.out)
     obtain ⟨Ao38, co38, eo38⟩ := Kd.S_slice HO_334000.out
     (first | subst eo38 | (injection eo38 with f1_ f2_ f3_; have f4_ := f1_.symm; have f5_ := f3_.symm; clear f1_ f2_ f3_; subst f4_; subst f5_))
     obtain ⟨Ao40, co40, eo40⟩ := Kd.R_slice HO_334001.out
     (first | subst eo40 | (injection eo40 with f1_ f2_ f3_; have f4_ := f1_.symm; have f5_ := f3_.symm; clear f1_ f2_ f3_; subst f4_; subst f5_))
     refine start_ (n := 4) (S := fun w' => w'.cell? ⟨gb333, 0, none⟩ = some (.slice Ao38 x334000_1.length co38) ∧ w'.cell? ⟨gb333, 1, none⟩ = some (.slice Ao40 x334001_1.length co40)) (ds := []) (bt 4 0) (by kernel_rfl) rfl rfl ⟨(blk_cell BK333.out 0).trans rfl, (blk_cell BK333.out 1).trans rfl⟩ (fun hHeld => ?_)
     generalize wr.drew = w37 at HO_5 HO_334000 HO_334001 BK326 BK333 HI0 HK HB hHeld ⊢
     refine pi_ 0 25 (bt 4 1) rfl rfl (fun _ _ _ h => h) ?_
     refine pi_ 2 2 (bt 4 5) rfl rfl (fun _ _ _ h => h) ?_
     refine pm_ 1 26 (bt 4 7) rfl rfl (by kernel_rfl) (fun _ _ _ h => h) hHeld ?_
     refine one_ (i := 3) (N := none) (bt 4 15) rfl rfl (by kernel_rfl) (by decide) (fun K hK => ?_)
     have hs39 : w37.cell? ⟨gb326, 0, none⟩ = some (.slice none 0 0) := (blk_cell BK326.out 0).trans rfl
     have hfs39 := blk_frozen BK326.out 0
     have hns39_1 := NB333_326.out
     have hms39_1 := NB326_333.out
     have hs41 : w37.cell? ⟨gb326, 1, none⟩ = some (.slice none 0 0) := (blk_cell BK326.out 1).trans rfl
     have hfs41 := blk_frozen BK326.out 1
     have hns41_1 := NB333_326.out
     have hms41_1 := NB326_333.out
     refine qs rfl ?_
     refine hK.out _ _ ⟨((cell_far (p := ⟨gb326, _, none⟩) NB333_326.out _).trans (((cell_far (p := ⟨gb326, _, none⟩) NB333_326.out _).trans (hHeld.1)))), ((cell_far (p := ⟨gb326, _, none⟩) NB333_326.out _).trans (((cell_far (p := ⟨gb326, _, none⟩) NB333_326.out _).trans (hHeld.2))))⟩ (fun hHeld => ?_)
     clear hK K
     refine done_ (by kernel_rfl) ?_
     try go_wp2
     refine bodyPost_ret (results_tc rfl _ _ gb326 59 #[.slice Ao38 x334000_1.length co38, .slice Ao40 x334001_1.length co40] (0, 0) _ rfl (bp2 (pb BK326.out)) Try.underlying59 rfl (by kernel_rfl)) rfl ?_
     exact ⟨_, _, _, rq ⟨by (with_reducible repeat (first | apply Kd.R_alloc | apply Kd.R_drewN | apply Kd.R_drew)); exact Kd.R_mono (Kd.R_far (p := ⟨gb326, 1, none⟩) (Kd.R_far (p := ⟨gb326, 0, none⟩) (Kd.R_types HO_5.out BK326.out (by decide)) (fun _ hk => hk.2) (.slice Ao38 x334000_1.length co38)) (fun _ hk => hk.2) (.slice Ao40 x334001_1.length co40)) (fun _ hk => trivial), by (with_reducible repeat (first | apply Kd.S_alloc | apply Kd.S_drewN | apply Kd.S_drew)); exact Kd.S_mono (Kd.S_far (p := ⟨gb326, 1, none⟩) (Kd.S_far (p := ⟨gb326, 0, none⟩) (Kd.S_types HO_334000.out BK326.out (by decide)) (fun _ hk => hk.2) (.slice Ao38 x334000_1.length co38)) (fun _ hk => hk.2) (.slice Ao40 x334001_1.length co40)) (fun _ hk => trivial), by (with_reducible repeat (first | apply Kd.R_alloc | apply Kd.R_drewN | apply Kd.R_drew)); exact Kd.R_mono (Kd.R_far (p := ⟨gb326, 1, none⟩) (Kd.R_far (p := ⟨gb326, 0, none⟩) (Kd.R_types HO_334001.out BK326.out (by decide)) (fun _ hk => hk.2) (.slice Ao38 x334000_1.length co38)) (fun _ hk => hk.2) (.slice Ao40 x334001_1.length co40)) (fun _ hk => trivial), by repeat (first | (with_reducible first | exact HI0.out | apply IsS55.alloc | apply IsS55.drewN | apply IsS55.drew | apply IsS55.set_1 | refine IsS55.far ?_ NB0_326.out _ | refine IsS55.far ?_ NB0_333.out _) | exact HI0.out), by repeat (first | (with_reducible first | exact HB.out | apply below_alloc | apply pw_below_drewN | apply below_drew1 | refine below_set ?_ (IsS55.ge HI0.out) | refine below_set ?_ GE326.out | refine below_set ?_ GE333.out) | exact HB.out), by repeat (first | (with_reducible first | exact HK.out | apply KeepBut.set_ | apply keep_drewN | apply keep_drew | apply keep_alloc | refine keep_far ?_ GW326.out _ | refine keep_far ?_ GW333.out _) | exact HK.out)⟩⟩
   rw [if_pos c15] at H
   have c15b0 := decide_eq_true c15
   clear c15
   replace H := Option.bind_eq_some_iff.mp H
   obtain ⟨⟨t339, t340, t341, t342, t343, t344⟩, A160, H⟩ := H
   have A16 := am A160
   clear A160
   by_cases c17 : x5_1.length < 3518437208883
   rotate_left
   · rw [if_neg c17] at H
     exact absurd H (by simp)
   rw [if_pos c17] at H
   have LMc17 := am c17
   clear c17
   obtain ⟨y346, hy346⟩ : ∃ y_ : List (S70), y_ = (x5_1 ++ [(⟨t339, t340, t341, t342, t343⟩ : S70)]) := ⟨_, rfl⟩
   replace H : ((spec_l21Do.f k1 x334000_1 x334001_1 t339 t340 t341 t342 t343).bind fun bt349 => (spec_l71Play.l0 k1 y346 (wrap64 (x6_1 - 1)) s0_0 t344 bt349.1 bt349.2)) = some (r1, r2, r3, r4) := by first | (rw [hy346]; with_reducible exact H) | (have H2_ := (Option.bind_some _ _).symm.trans H; rw [hy346]; with_reducible exact H2_) | (have H2_ := (Option.bind_some _ _).symm.trans H; with_reducible exact H2_) | with_reducible exact H | (rw [hy346]; exact H) | exact H
   have Ny346 := am hy346
   clear hy346
   replace H := Option.bind_eq_some_iff.mp H
   obtain ⟨⟨t349, t352⟩, A180, H⟩ := H
   have A18 := am A180
   clear A180
   have H' := am H
   clear H
   go_wp2_with (first | (refine gl 17 Try.func39 #[.pointer (some ⟨g, 0, none⟩)] rfl ?_; (with_reducible refine (spec_l71Event.calls k1 g s0_0 x1001_1 t339 t340 t341 t342 t343 t344 w0 _ ?side1 ?side2 A16.out).mono ?_); (case side1 => repeat (first | (with_reducible first | exact HI0.out | apply IsS55.alloc | apply IsS55.drewN | apply IsS55.drew | apply IsS55.set_1 | refine IsS55.far ?_ NB0_326.out _ | refine IsS55.far ?_ NB0_333.out _) | exact HI0.out)); (case side2 => repeat (first | (with_reducible first | exact HB.out | apply below_alloc | apply pw_below_drewN | apply below_drew1 | refine below_set ?_ (IsS55.ge HI0.out) | refine below_set ?_ GE326.out | refine below_set ?_ GE333.out) | exact HB.out)); rintro e w19 ⟨rfl, hi, hb, hk⟩; refine ⟨_, rfl, ?_⟩; replace HO_5 := am (Kd.R_mono (Kd.R_keep (IsS55.apart (show IsS55 w0 _ g s0_0 x1001_1 from by repeat (first | (with_reducible first | exact HI0.out | apply IsS55.alloc | apply IsS55.drewN | apply IsS55.drew | apply IsS55.set_1 | refine IsS55.far ?_ NB0_326.out _ | refine IsS55.far ?_ NB0_333.out _) | exact HI0.out)) (pr HO_5.out) (by decide)) hk (fun _ h => h.2)) (fun _ h => h.1)); replace HO_334000 := am (Kd.S_mono (Kd.S_keep (IsS55.apartS (show IsS55 w0 _ g s0_0 x1001_1 from by repeat (first | (with_reducible first | exact HI0.out | apply IsS55.alloc | apply IsS55.drewN | apply IsS55.drew | apply IsS55.set_1 | refine IsS55.far ?_ NB0_326.out _ | refine IsS55.far ?_ NB0_333.out _) | exact HI0.out)) (ps HO_334000.out) (by decide)) hk (fun _ h => h.2)) (fun _ h => h.1)); replace HO_334001 := am (Kd.R_mono (Kd.R_keep (IsS55.apart (show IsS55 w0 _ g s0_0 x1001_1 from by repeat (first | (with_reducible first | exact HI0.out | apply IsS55.alloc | apply IsS55.drewN | apply IsS55.drew | apply IsS55.set_1 | refine IsS55.far ?_ NB0_326.out _ | refine IsS55.far ?_ NB0_333.out _) | exact HI0.out)) (pr HO_334001.out) (by decide)) hk (fun _ h => h.2)) (fun _ h => h.1)); replace BK326 := am (KeepBut.blk hk (g' := gb326) (o := .cells #[.slice none 0 0, .slice none 0 0] 59 (0, 0)) (pb BK326.out) NB326_0.out (by simp)); replace BK333 := am (KeepBut.blk hk (g' := gb333) (o := .cells #[u334000, u334001] 59 (0, 0)) (pb BK333.out) NB333_0.out (by simp)); replace HK := am (KeepBut.trans (by repeat (first | (with_reducible first | exact HK.out | apply KeepBut.set_ | apply keep_drewN | apply keep_drew | apply keep_alloc | refine keep_far ?_ GW326.out _ | refine keep_far ?_ GW333.out _) | exact HK.out)) hk (.inl rfl)); replace HB := am (hb); replace HI0 := am (hi); (try clear hb); (try clear hb2); (try clear hk); (try clear hi)) | (refine bx 7 #[.int .i64 0, .int .i64 0, .int .i64 0, .int .i64 0, .bool false] 70 rfl ?_; intro gb345 hg w20 hbox hb; replace HO_5 := am (Kd.R_below (Kd.R_elderB (pr HO_5.out) gb345 (Nat.le_of_eq hg.symm)) hb); replace HO_334000 := am (Kd.S_below (ps HO_334000.out) hb); replace HO_334001 := am (Kd.R_below (pr HO_334001.out) hb); replace HB := am (below_step (by repeat (first | (with_reducible first | exact HB.out | apply below_alloc | apply pw_below_drewN | apply below_drew1 | refine below_set ?_ (IsS55.ge HI0.out) | refine below_set ?_ GE326.out | refine below_set ?_ GE333.out) | exact HB.out)) hb); have BK345 := am (hbox); have GW345 := am ((by rw [hg]; exact (keep_size (w := w) (g := g) (row := none) (by repeat (first | (with_reducible first | exact HK.out | apply KeepBut.set_ | apply keep_drewN | apply keep_drew | apply keep_alloc | refine keep_far ?_ GW326.out _ | refine keep_far ?_ GW333.out _) | exact HK.out))) : w.heap.size ≤ gb345)); have GE345 := am ((Nat.le_trans HW0.out (by rw [hg]; exact (keep_size (w := w) (g := g) (row := none) (by repeat (first | (with_reducible first | exact HK.out | apply KeepBut.set_ | apply keep_drewN | apply keep_drew | apply keep_alloc | refine keep_far ?_ GW326.out _ | refine keep_far ?_ GW333.out _) | exact HK.out))) : w.heap.size ≤ gb345) : w0.heap.size ≤ gb345)); replace HK := am (KeepBut.trans (by repeat (first | (with_reducible first | exact HK.out | apply KeepBut.set_ | apply keep_drewN | apply keep_drew | apply keep_alloc | refine keep_far ?_ GW326.out _ | refine keep_far ?_ GW333.out _) | exact HK.out)) (KeepBut.of_below hb g none) (.inl rfl)); have NB326_345 := am (nb hg (pb BK326.out)); have NB345_326 := am (Ne.symm NB326_345.out); replace BK326 := am (blk_below (pb BK326.out) hb); have NB333_345 := am (nb hg (pb BK333.out)); have NB345_333 := am (Ne.symm NB333_345.out); replace BK333 := am (blk_below (pb BK333.out) hb); have NB0_345 := am ((by rw [hg]; exact Nat.ne_of_lt (IsS55.lt (show IsS55 w0 _ g s0_0 t344 from by repeat (first | (with_reducible first | exact HI0.out | apply IsS55.alloc | apply IsS55.drewN | apply IsS55.drew | apply IsS55.set_1 | refine IsS55.far ?_ NB0_326.out _ | refine IsS55.far ?_ NB0_333.out _) | exact HI0.out))) : g ≠ gb345)); have NB345_0 := am (Ne.symm NB0_345.out); replace HI0 := am (IsS55.below (by repeat (first | (with_reducible first | exact HI0.out | apply IsS55.alloc | apply IsS55.drewN | apply IsS55.drew | apply IsS55.set_1 | refine IsS55.far ?_ NB0_326.out _ | refine IsS55.far ?_ NB0_333.out _) | exact HI0.out)) hb); clear hb hbox hg; have hnb21 := NB345_326.out; have hnc21 := NB326_345.out; have hnb22 := NB345_333.out; have hnc22 := NB333_345.out; have hnb23 := NB345_0.out; have hnc23 := NB0_345.out; obtain ⟨hcz24_0, hcz24_1, hcz24_2, hcz24_3, hcz24_4⟩ := b5 BK345.out; obtain ⟨hfz24_0, hfz24_1, hfz24_2, hfz24_3, hfz24_4⟩ := f5 BK345.out) | ((with_reducible refine gate_builtin (b := .append) (xs := #[.tmp 18, .tmp 20]) rfl ?_); at_builtin; refine Kd.R_append k70 w.heap.size rfl (.tmp 18) (.tmp 20) 56 70 (.agg #[(.int .i64 0), (.int .i64 0), (.int .i64 0), (.int .i64 0), (.bool false)]) 40 rfl Try.underlying56 info70 rfl (by decide) (by omega) u5 x5_1 (⟨t339, t340, t341, t342, t343⟩ : S70) [.int .i64 t339, .int .i64 t340, .int .i64 t341, .int .i64 t342, .bool t343] (fun k_ => k_ ≠ gb345) (fun _ => False) rfl (by first | (go_simp; done) | (go_simp; rfl)) ?aP (fun _ hk => hk.elim) ?aF ?aO (Below.refl _ _) ?aS ?aL ?_; (case aP => exact k70_mkM _ _ _ (⟨t339, t340, t341, t342, t343⟩ : S70)); (case aF => exact (fun k_ hk => Kd.freshB (g := gb345) (o := .cells #[.int .i64 t339, .int .i64 t340, .int .i64 t341, .int .i64 t342, .bool t343] 70 (0, 0)) (bp5 (pb BK345.out)) k_ hk)); (case aO => exact (by (with_reducible repeat (first | apply Kd.R_alloc | apply Kd.R_drewN | apply Kd.R_drew)); exact Kd.R_mono (Kd.R_far (p := ⟨gb345, 4, none⟩) (Kd.R_far (p := ⟨gb345, 3, none⟩) (Kd.R_far (p := ⟨gb345, 2, none⟩) (Kd.R_far (p := ⟨gb345, 1, none⟩) (Kd.R_far (p := ⟨gb345, 0, none⟩) (Kd.R_mono HO_5.out (fun k_ hk => (⟨hk, hk.2⟩ : _ ∧ k_ ≠ gb345))) (fun _ hk => hk.2) (.int .i64 t339)) (fun _ hk => hk.2) (.int .i64 t340)) (fun _ hk => hk.2) (.int .i64 t341)) (fun _ hk => hk.2) (.int .i64 t342)) (fun _ hk => hk.2) (.bool t343)) (fun _ hk => hk.1.2))); (case aS => exact (keep_size (w := w) (g := g) (row := none) (by repeat (first | (with_reducible first | exact HK.out | apply KeepBut.set_ | apply keep_drewN | apply keep_drew | apply keep_alloc | refine keep_far ?_ GW326.out _ | refine keep_far ?_ GW333.out _ | refine keep_far ?_ GW345.out _) | exact HK.out)))); (case aL => have := LMc17.out; omega); intro v347 w25 ho hb hg hat; rw [← Ny346.out] at ho; replace HO_334000 := am (Kd.S_over' (by (with_reducible repeat (first | apply Kd.S_alloc | apply Kd.S_drewN | apply Kd.S_drew)); exact (Kd.S_mono (Kd.S_far (p := ⟨gb345, 4, none⟩) (Kd.S_far (p := ⟨gb345, 3, none⟩) (Kd.S_far (p := ⟨gb345, 2, none⟩) (Kd.S_far (p := ⟨gb345, 1, none⟩) (Kd.S_far (p := ⟨gb345, 0, none⟩) (Kd.S_types HO_334000.out BK345.out (by decide)) (fun _ hk => hk.2) (.int .i64 t339)) (fun _ hk => hk.2) (.int .i64 t340)) (fun _ hk => hk.2) (.int .i64 t341)) (fun _ hk => hk.2) (.int .i64 t342)) (fun _ hk => hk.2) (.bool t343)) (fun _ h_ => h_.1))) (Kd.R_typed (by (with_reducible repeat (first | apply Kd.R_alloc | apply Kd.R_drewN | apply Kd.R_drew)); exact (Kd.R_mono (Kd.R_far (p := ⟨gb345, 4, none⟩) (Kd.R_far (p := ⟨gb345, 3, none⟩) (Kd.R_far (p := ⟨gb345, 2, none⟩) (Kd.R_far (p := ⟨gb345, 1, none⟩) (Kd.R_far (p := ⟨gb345, 0, none⟩) (Kd.R_mono HO_5.out (fun k_ hk => (⟨hk, hk.2⟩ : _ ∧ k_ ≠ gb345))) (fun _ hk => hk.2) (.int .i64 t339)) (fun _ hk => hk.2) (.int .i64 t340)) (fun _ hk => hk.2) (.int .i64 t341)) (fun _ hk => hk.2) (.int .i64 t342)) (fun _ hk => hk.2) (.bool t343)) (fun _ h_ => h_.1)))) (by decide) hg); replace HO_334001 := am (Kd.R_over' (by (with_reducible repeat (first | apply Kd.R_alloc | apply Kd.R_drewN | apply Kd.R_drew)); exact (Kd.R_mono (Kd.R_far (p := ⟨gb345, 4, none⟩) (Kd.R_far (p := ⟨gb345, 3, none⟩) (Kd.R_far (p := ⟨gb345, 2, none⟩) (Kd.R_far (p := ⟨gb345, 1, none⟩) (Kd.R_far (p := ⟨gb345, 0, none⟩) (Kd.R_types HO_334001.out BK345.out (by decide)) (fun _ hk => hk.2) (.int .i64 t339)) (fun _ hk => hk.2) (.int .i64 t340)) (fun _ hk => hk.2) (.int .i64 t341)) (fun _ hk => hk.2) (.int .i64 t342)) (fun _ hk => hk.2) (.bool t343)) (fun _ h_ => h_.1))) (Kd.R_typed (by (with_reducible repeat (first | apply Kd.R_alloc | apply Kd.R_drewN | apply Kd.R_drew)); exact (Kd.R_mono (Kd.R_far (p := ⟨gb345, 4, none⟩) (Kd.R_far (p := ⟨gb345, 3, none⟩) (Kd.R_far (p := ⟨gb345, 2, none⟩) (Kd.R_far (p := ⟨gb345, 1, none⟩) (Kd.R_far (p := ⟨gb345, 0, none⟩) (Kd.R_mono HO_5.out (fun k_ hk => (⟨hk, hk.2⟩ : _ ∧ k_ ≠ gb345))) (fun _ hk => hk.2) (.int .i64 t339)) (fun _ hk => hk.2) (.int .i64 t340)) (fun _ hk => hk.2) (.int .i64 t341)) (fun _ hk => hk.2) (.int .i64 t342)) (fun _ hk => hk.2) (.bool t343)) (fun _ h_ => h_.1)))) (by decide) hg); replace BK326 := am (blk_grown (g := gb326) (o := .cells #[.slice none 0 0, .slice none 0 0] 59 (0, 0)) (bf5 (pb BK326.out) NB326_345.out) hg (Kd.R_ne HO_5.out BK326.out (by decide))); replace BK333 := am (blk_grown (g := gb333) (o := .cells #[u334000, u334001] 59 (0, 0)) (bf5 (pb BK333.out) NB333_345.out) hg (Kd.R_ne HO_5.out BK333.out (by decide))); replace BK345 := am (blk_grown (g := gb345) (o := .cells #[.int .i64 t339, .int .i64 t340, .int .i64 t341, .int .i64 t342, .bool t343] 70 (0, 0)) (bp5 (pb BK345.out)) hg (Kd.R_away HO_5.out (fun _ hk => hk.2))); replace HB := am (below_weaken (by repeat (first | (with_reducible first | exact HB.out | apply below_alloc | apply pw_below_drewN | apply below_drew1 | refine below_set ?_ (IsS55.ge HI0.out) | refine below_set ?_ GE326.out | refine below_set ?_ GE333.out | refine below_set ?_ GE345.out) | exact HB.out)) HL.out hb); replace HI0 := am (IsS55.grown (show IsS55 w0 _ g s0_0 t344 from by repeat (first | (with_reducible first | exact HI0.out | apply IsS55.alloc | apply IsS55.drewN | apply IsS55.drew | apply IsS55.set_1 | refine IsS55.far ?_ NB0_326.out _ | refine IsS55.far ?_ NB0_333.out _ | refine IsS55.far ?_ NB0_345.out _) | exact HI0.out)) hg (IsS55.own_ne HI0.out HO_5.out (by decide))); replace HK := am (KeepBut.trans (by repeat (first | (with_reducible first | exact HK.out | apply KeepBut.set_ | apply keep_drewN | apply keep_drew | apply keep_alloc | refine keep_far ?_ GW326.out _ | refine keep_far ?_ GW333.out _ | refine keep_far ?_ GW345.out _) | exact HK.out)) (KeepBut.of_grown hg g) (Kd.R_base2 HO_5.out)); have HO348 := am (ho); clear HO_5; clear ho hb hg hat; have hnb26 := NB333_326.out; have hnc26 := NB326_333.out; have hnb27 := NB333_0.out; have hnc27 := NB0_333.out; obtain ⟨hcz28_0, hcz28_1⟩ := b2 BK333.out; obtain ⟨hfz28_0, hfz28_1⟩ := f2 BK333.out; obtain ⟨hcz29_0, hcz29_1, hcz29_2, hcz29_3, hcz29_4⟩ := b5 BK345.out; obtain ⟨hfz29_0, hfz29_1, hfz29_2, hfz29_3, hfz29_4⟩ := f5 BK345.out; obtain ⟨Ao30, co30, eo30⟩ := Kd.S_slice HO_334000.out; subst eo30; obtain ⟨Ao31, co31, eo31⟩ := Kd.R_slice HO_334001.out; subst eo31; obtain ⟨PXh32, hxa_, hxb_⟩ := Kd.S_hand HO_334000.out; have HXAh32 := am hxa_; have HXBh32 := am hxb_; clear hxa_ hxb_) | (refine gl 24 Try.func40 #[.agg #[.slice Ao30 x334000_1.length co30, .slice Ao31 x334001_1.length co31], .agg #[.int .i64 t339, .int .i64 t340, .int .i64 t341, .int .i64 t342, .bool t343]] rfl ?_; (with_reducible refine (spec_l21Do.calls k1 PXh32 (.slice Ao30 x334000_1.length co30) x334000_1 (fun k_ => some k_ = (.slice Ao31 x334001_1.length co31 : Value).ownBlock) (.slice Ao31 x334001_1.length co31) x334001_1 t339 t340 t341 t342 t343 t349 t352 w0 _ ?side1 ?side2 ?side3 A18.out).mono ?_); (case side1 => repeat (first | (with_reducible first | exact HB.out | apply below_alloc | apply pw_below_drewN | apply below_drew1 | refine below_set ?_ (IsS55.ge HI0.out) | refine below_set ?_ GE326.out | refine below_set ?_ GE333.out | refine below_set ?_ GE345.out) | exact HB.out)); (case side2 => exact Kd.S_lower (ps HXAh32.out) HL.out); (case side3 => exact Kd.R_lower (Kd.R_tight rfl HO_334001.out) HL.out); rintro e w33 ⟨v350, v353, rfl, ho0, ho1, hb, hkp⟩; refine ⟨_, rfl, ?_⟩; replace BK326 := am (blk_kept (pb BK326.out) hkp (fun hs_ => Or.elim hs_ (fun e_ => (fun e_ => Kd.blk_awayP (fun k_ h_ => (HXBh32.out k_ h_).2.2.2) BK326.out (by decide) e_) e_) (fun e_ => (fun e_ => (Kd.R_ne HO_334001.out BK326.out (by decide)) e_) e_))); replace BK333 := am (blk_kept (pb BK333.out) hkp (fun hs_ => Or.elim hs_ (fun e_ => (fun e_ => Kd.blk_awayP (fun k_ h_ => (HXBh32.out k_ h_).2.2.2) BK333.out (by decide) e_) e_) (fun e_ => (fun e_ => (Kd.R_ne HO_334001.out BK333.out (by decide)) e_) e_))); replace HI0 := am (IsS55.kept (show IsS55 w0 _ g s0_0 t344 from by repeat (first | (with_reducible first | exact HI0.out | apply IsS55.alloc | apply IsS55.drewN | apply IsS55.drew | apply IsS55.set_1 | refine IsS55.far ?_ NB0_326.out _ | refine IsS55.far ?_ NB0_333.out _ | refine IsS55.far ?_ NB0_345.out _) | exact HI0.out)) hkp (fun hs_ => Or.elim hs_ (fun e_ => (fun e_ => (by obtain ⟨q_, hq_, c_, hc_⟩ := (HXBh32.out _ e_).2.2.2; exact (IsS55.ne_blk HI0.out hc_ (by rintro rfl; revert hq_; decide)) rfl)) e_) (fun e_ => (fun e_ => (IsS55.own_ne HI0.out HO_334001.out (by decide)) e_) e_))); replace BK345 := am (blk_kept (pb BK345.out) hkp (fun hs_ => Or.elim hs_ (fun e_ => (fun e_ => Kd.blk_awayP (fun k_ h_ => (HXBh32.out k_ h_).2.2.2) BK345.out (by decide) e_) e_) (fun e_ => (fun e_ => (Kd.R_ne HO_334001.out BK345.out (by decide)) e_) e_))); replace HO348 := am (Kd.R_mono (ok' := fun k_ => k_ ≠ gb345) (Kd.R_keptB ((Kd.R_apart' (Kd.R_awayP HO348.out (fun k_ h_ => (HXBh32.out k_ h_).2.2.2) (by decide)) (Kd.R_typed HO_334001.out) (by decide))) hkp (fun k_ hk_ hs_ => Or.elim hs_ (fun e_ => (hk_.1.2) e_) (fun e_ => (hk_.2) e_))) (fun k_ hk_ => hk_.1.1.1)); have HO351 := am (Kd.S_mono (ok' := fun k_ => True) (Kd.S_raise (Kd.raise_iso _ (Kd.raise_pair (Kd.raise_slice 34 (Kd.raise_iso _ (Kd.raise_pair (Kd.raise_int .i64) (Kd.raise_iso _ (Kd.raise_pair (Kd.raise_int .i64) (Kd.raise_pair (Kd.raise_int .i64) (Kd.raise_pair (Kd.raise_int .i64) (Kd.raise_int .i64)))))))) (Kd.raise_int .i64))) ho0 (fun k_ e_ => Or.elim e_ (fun hs_ => Or.elim hs_ (fun e_ => (fun e_ => (HXBh32.out k_ e_).2.1) e_) (fun e_ => (fun e_ => Kd.R_base HO_334001.out k_ e_.symm) e_)) (fun hn_ => Nat.le_trans (keep_size (w := w) (g := g) (row := none) (by repeat (first | (with_reducible first | exact HK.out | apply KeepBut.set_ | apply keep_drewN | apply keep_drew | apply keep_alloc | refine keep_far ?_ GW326.out _ | refine keep_far ?_ GW333.out _ | refine keep_far ?_ GW345.out _) | exact HK.out))) hn_))) (fun k_ hk_ => trivial)); have HO354 := am (Kd.R_mono (ok' := fun k_ => True) (Kd.R_raise (d := (Kd.int .i64)) (b := w0.heap.size) (b' := w.heap.size) (fun _ _ _ _ h_ => h_) ho1 (fun k_ e_ => Or.elim (ho1.1 k_ e_) (fun hs_ => Or.elim hs_ (fun e_ => (fun e_ => (HXBh32.out k_ e_).2.1) e_) (fun e_ => (fun e_ => Kd.R_base HO_334001.out k_ e_.symm) e_)) (fun hn_ => Nat.le_trans (keep_size (w := w) (g := g) (row := none) (by repeat (first | (with_reducible first | exact HK.out | apply KeepBut.set_ | apply keep_drewN | apply keep_drew | apply keep_alloc | refine keep_far ?_ GW326.out _ | refine keep_far ?_ GW333.out _ | refine keep_far ?_ GW345.out _) | exact HK.out))) hn_))) (fun k_ hk_ => trivial)); replace HK := am (Kept.keepG (by repeat (first | (with_reducible first | exact HK.out | apply KeepBut.set_ | apply keep_drewN | apply keep_drew | apply keep_alloc | refine keep_far ?_ GW326.out _ | refine keep_far ?_ GW333.out _ | refine keep_far ?_ GW345.out _) | exact HK.out)) hkp (fun k_ hs_ => Or.elim hs_ (fun e_ => (fun e_ => .inr (HXBh32.out k_ e_).2.1) e_) (fun e_ => (fun e_ => .inr (Kd.R_base HO_334001.out k_ e_.symm)) e_))); replace HB := am (hb); clear HO_334000; clear HO_334001; (try clear hb); (try clear hkp); (try clear ho0); (try clear ho1); obtain ⟨Ao34, co34, eo34⟩ := Kd.S_slice HO351.out; subst eo34; obtain ⟨hcz35_0, hcz35_1⟩ := b2 BK333.out; obtain ⟨hfz35_0, hfz35_1⟩ := f2 BK333.out; obtain ⟨Ao36, co36, eo36⟩ := Kd.R_slice HO354.out; subst eo36))
   go_roundg k1
   case measure => have := HK1.out; omega
   case rel => exact ⟨(y346), (wrap64 (x6_1 - 1)), (t344), (t349), (t352), (.slice Ao34 t349.length co34), (.slice Ao36 t352.length co36), rf, H', ⟨by have := HK1.out; omega⟩, ⟨by (with_reducible repeat (first | apply Kd.R_alloc | apply Kd.R_drewN | apply Kd.R_drew)); exact Kd.R_mono (Kd.R_far (p := ⟨gb333, 1, none⟩) (Kd.R_far (p := ⟨gb333, 0, none⟩) (Kd.R_types HO348.out BK333.out (by decide)) (fun _ hk => hk.2) (.slice Ao34 t349.length co34)) (fun _ hk => hk.2) (.slice Ao36 t352.length co36)) (fun _ hk => trivial)⟩, ⟨by (with_reducible repeat (first | apply Kd.S_alloc | apply Kd.S_drewN | apply Kd.S_drew)); exact Kd.S_mono (Kd.S_far (p := ⟨gb333, 1, none⟩) (Kd.S_far (p := ⟨gb333, 0, none⟩) (Kd.S_types HO351.out BK333.out (by decide)) (fun _ hk => hk.2) (.slice Ao34 t349.length co34)) (fun _ hk => hk.2) (.slice Ao36 t352.length co36)) (fun _ hk => trivial)⟩, ⟨by (with_reducible repeat (first | apply Kd.R_alloc | apply Kd.R_drewN | apply Kd.R_drew)); exact Kd.R_mono (Kd.R_far (p := ⟨gb333, 1, none⟩) (Kd.R_far (p := ⟨gb333, 0, none⟩) (Kd.R_types HO354.out BK333.out (by decide)) (fun _ hk => hk.2) (.slice Ao34 t349.length co34)) (fun _ hk => hk.2) (.slice Ao36 t352.length co36)) (fun _ hk => trivial)⟩, ⟨bf2 (pb BK326.out) NB326_333.out⟩, ⟨bp2 (pb BK333.out)⟩, ⟨by repeat (first | (with_reducible first | exact HI0.out | apply IsS55.alloc | apply IsS55.drewN | apply IsS55.drew | apply IsS55.set_1 | refine IsS55.far ?_ NB0_326.out _ | refine IsS55.far ?_ NB0_333.out _ | refine IsS55.far ?_ NB0_345.out _) | exact HI0.out)⟩, ⟨by repeat (first | (with_reducible first | exact HK.out | apply KeepBut.set_ | apply keep_drewN | apply keep_drew | apply keep_alloc | refine keep_far ?_ GW326.out _ | refine keep_far ?_ GW333.out _ | refine keep_far ?_ GW345.out _) | exact HK.out)⟩, ⟨by repeat (first | (with_reducible first | exact HB.out | apply below_alloc | apply pw_below_drewN | apply below_drew1 | refine below_set ?_ (IsS55.ge HI0.out) | refine below_set ?_ GE326.out | refine below_set ?_ GE333.out | refine below_set ?_ GE345.out) | exact HB.out)⟩⟩
theorem ite_some {α : Type} {c : Prop} [Decidable c] {x y : α} (h : (if c then some x else none) = some y) : c ∧ some x = some y := by
 by_cases hc : c
 rotate_left
 · rw [if_neg hc] at h
   cases h
 rw [if_pos hc] at h
 exact ⟨hc, h⟩
set_option maxHeartbeats 4000000 in
set_option maxRecDepth 100000 in
theorem spec_l71Flash.c4 (k g : Nat) (s0_0 : List Int) (s0_1 : Int) (ev : List S70) (fl : List S37) (dk : List Int) (p1 q p2 : Int) (w0 w : World) (hI : IsS55 w0 w g s0_0 s0_1) (hB : Below w0.heap.size w0 w)
 (h1 : spec_l71Play.f k s0_0 s0_1 = some (ev, fl, dk, p1)) (h2 : spec_l6Rd_pick.f k s0_0 p1 20 = some (q, p2)) (n0 : q ≠ 0) (n1 : q ≠ 1) (n2 : q ≠ 2) (n3 : q ≠ 3) :
 Calls Try.prog 12 #[.pointer (some ⟨g, 0, none⟩)] w fun e w' => ∃ v0_ : Value, e = .returned v0_ ∧ Kd.V k37 37 w' w.heap.size (fun k_ => w.heap.size ≤ k_) v0_ fl ∧ IsS55 w0 w' g s0_0 p2 ∧ Below w0.heap.size w0 w' ∧ KeepBut w w' g none := by
 have hu28 := Try.underlying37
 have hu32 := Try.underlying34
 have hu26 := Try.underlying35
 have hu70 := Try.underlying59
 have hgl := IsS55.lt hI
 have HL0 := am hB.size
 go_enter Try.func12, Try.ntmps12
 go_wp2_with fail
 refine (spec_l71Play.calls k g s0_0 s0_1 ev fl dk p1 w0 _ hI hB h1).mono ?_
 rintro e w1 ⟨v0, v1, v2, rfl, -, hS, hD, hI1, hB1, hK1⟩
 obtain ⟨A1, c1, rfl⟩ := Kd.S_slice hS
 obtain ⟨A2, c2, rfl⟩ := Kd.R_slice hD
 have HS := am (Kd.S_mono (Kd.S_bound hS) (fun k_ hk => (⟨hk.2.1, hk.2.2.1⟩ : w.heap.size ≤ k_ ∧ k_ < w1.heap.size)))
 have HI := am (hI1.alloc (.cells #[.slice A1 fl.length c1, .slice A2 dk.length c2] 59))
 have HB := am (below_alloc hB1 (.cells #[.slice A1 fl.length c1, .slice A2 dk.length c2] 59))
 have HK := am (keep_alloc hK1 (.cells #[.slice A1 fl.length c1, .slice A2 dk.length c2] 59))
 clear hS hD hI hB hI1 hB1 hK1
 go_wp2_with fail
 replace HS := am (Kd.S_alloc HS.out (.cells #[.slice A1 fl.length c1, .slice A2 dk.length c2] 59))
 refine (spec_l6Rd_pick.calls k g s0_0 p1 20 q p2 w0 _ HI.out HB.out h2).mono ?_
 rintro e w2 ⟨rfl, hI2, hB2, hK2⟩
 replace HS := am (Kd.S_keep HS.out hK2 (fun k_ hk => by have := hk.1; omega))
 replace HI := am hI2
 replace HB := am hB2
 replace HK := am (KeepBut.trans HK.out hK2 (.inl rfl))
 clear hI2 hB2 hK2
 have e0 : (q == 0) = false := beq_eq_false_iff_ne.mpr n0
 have e1 : (q == 1) = false := beq_eq_false_iff_ne.mpr n1
 have e2 : (q == 2) = false := beq_eq_false_iff_ne.mpr n2
 have e3 : (q == 3) = false := beq_eq_false_iff_ne.mpr n3
 go_wp2
 go_ret
 exact ⟨_, rfl, Kd.S_V (Kd.S_mono HS.out (fun _ hk => hk.1)), HI.out, HB.out, HK.out⟩
theorem blk_kb {w w' : World} {g a : Nat} {o : Obj} (h : w.heap[a]? = some o) (hk : KeepBut w w' g none) (hne : a ≠ g) : w'.heap[a]? = some o := (hk.2 a (Array.getElem?_eq_some_iff.1 h).1 hne (by simp)).trans h
theorem V_cutF {W : World} {base : Nat} {ok : Nat → Prop} {A : Option Addr} {c : Nat} {fl : List S37} (h : Kd.V k37 37 W base ok (.slice A fl.length c) fl) (hl : 1 ≤ fl.length) : Kd.V k37 37 W base ok (.slice (if c = 1 then A else A.map (fun x => ⟨x.block, x.off + 2, none⟩)) (fl.length - 1) (c - 1)) fl.tail := by
 have hF := Kd.F_cut (Kd.V_F h) hl (Kd.V_at h).2.1
 have e : (A.map (·.add (1 * (k37).sz))) = A.map (fun x => ⟨x.block, x.off + 2, none⟩) := by cases A <;> rfl
 rw [e, List.drop_one] at hF
 have h2 := Kd.V_mk (e := 37) (base := base) (c := c - 1) (by have := (Kd.V_at h).2.1; rw [List.length_tail]; omega) hF
 rw [List.length_tail] at h2
 exact h2
theorem N_worn {W : World} {base g n cap : Nat} {ok : Nat → Prop} {xs : List S37} (h : Kd.N k37 37 W base ok (.slice (some ⟨g, 0, none⟩) n cap) xs) (i : Int) (h0 : 0 ≤ i) (h1 : i < n) (x : Int) : Kd.N k37 37 (W.setCell ⟨g, i.toNat * 2 + 1, none⟩ (.int .i64 x)) base ok (.slice (some ⟨g, 0, none⟩) n cap) (xs.set i.toNat ⟨(rd_T37 xs i).f0, x⟩) := by
 obtain ⟨c, hcl, hF, hcc, hfr⟩ := Kd.N_elem h z37 i h0 h1
 obtain ⟨A0, c0, rfl, hl, hf⟩ := k37_openF hF
 exact (Kd.N_seg h i h0 h1 (seg := [.int .i64 x]) (j := 1) hcl hcc (show 1 + 1 ≤ 2 from Nat.le_refl _) (x' := (⟨(rd_T37 xs i).f0, x⟩ : S37)) (k37_mkF _ _ ⟨(rd_T37 xs i).f0, x⟩ hl hf) (fun k hk => hk)).1
theorem N_cutP {W : World} {base g n cap : Nat} {ok : Nat → Prop} {xs : List S37} (h : Kd.N k37 37 W base ok (.slice (some ⟨g, 0, none⟩) n cap) xs) (i : Int) (h0 : 0 ≤ i) (h1 : i < n) {A0 : Option Addr} {c0 : Nat} (hc : W.cell? ⟨g, i.toNat * 2, none⟩ = some (.slice A0 (rd_T37 xs i).f0.length c0)) (hl : 1 ≤ (rd_T37 xs i).f0.length) :
 Kd.N k37 37 (W.setCell ⟨g, i.toNat * 2, none⟩ (.slice (if c0 = 1 then A0 else A0.map (fun x => ⟨x.block, x.off + 5, none⟩)) ((rd_T37 xs i).f0.length - 1) (c0 - 1))) base ok (.slice (some ⟨g, 0, none⟩) n cap) (xs.set i.toNat ⟨(rd_T37 xs i).f0.tail, (rd_T37 xs i).f1⟩) := by
 obtain ⟨c, hcl, hF, hcc, hfr⟩ := Kd.N_elem h z37 i h0 h1
 obtain ⟨A1, c1, rfl, hl1, hf⟩ := k37_openF hF
 have e0 := hcc 0 _ rfl
 rw [show (k37).sz = 2 from rfl, Nat.add_zero, hc] at e0
 have e1 := Value.slice.inj (Option.some.inj e0)
 obtain ⟨rfl, -, rfl⟩ := e1
 have hF := Kd.F_cut hf hl hl1
 have e : (A0.map (·.add (1 * (k34).sz))) = A0.map (fun x => ⟨x.block, x.off + 5, none⟩) := by cases A0 <;> rfl
 rw [e, List.drop_one] at hF
 have hm := k37_mkF W _ (⟨(rd_T37 xs i).f0.tail, (rd_T37 xs i).f1⟩ : S37) (c0 := c0 - 1) (by show (rd_T37 xs i).f0.tail.length ≤ _; rw [List.length_tail]; exact Nat.sub_le_sub_right hl1 1) hF
 have e2 : (⟨(rd_T37 xs i).f0.tail, (rd_T37 xs i).f1⟩ : S37).f0.length = (rd_T37 xs i).f0.length - 1 := List.length_tail
 rw [e2] at hm
 exact (Kd.N_seg h i h0 h1 (seg := [.slice (if c0 = 1 then A0 else A0.map (fun x => ⟨x.block, x.off + 5, none⟩)) ((rd_T37 xs i).f0.length - 1) (c0 - 1)]) (j := 0) hcl hcc (show 0 + 1 ≤ 2 by decide) (x' := (⟨(rd_T37 xs i).f0.tail, (rd_T37 xs i).f1⟩ : S37)) hm (fun k hk => hk)).1
set_option maxHeartbeats 4000000 in
set_option maxRecDepth 100000 in
theorem spec_l71Flash.c2 (k g : Nat) (s0_0 : List Int) (s0_1 : Int) (ev : List S70) (fl : List S37) (dk : List Int) (p1 q p2 : Int) (w0 w : World) (hI : IsS55 w0 w g s0_0 s0_1) (hB : Below w0.heap.size w0 w)
 (h1 : spec_l71Play.f k s0_0 s0_1 = some (ev, fl, dk, p1)) (h2 : spec_l6Rd_pick.f k s0_0 p1 20 = some (q, p2)) (n0 : q = 2) (hl : 1 ≤ fl.length) :
 Calls Try.prog 12 #[.pointer (some ⟨g, 0, none⟩)] w fun e w' => ∃ v0_ : Value, e = .returned v0_ ∧ Kd.V k37 37 w' w.heap.size (fun k_ => w.heap.size ≤ k_) v0_ fl.tail ∧ IsS55 w0 w' g s0_0 p2 ∧ Below w0.heap.size w0 w' ∧ KeepBut w w' g none := by
 have hu28 := Try.underlying37
 have hu32 := Try.underlying34
 have hu26 := Try.underlying35
 have hu70 := Try.underlying59
 have hgl := IsS55.lt hI
 have HL0 := am hB.size
 go_enter Try.func12, Try.ntmps12
 go_wp2_with fail
 refine (spec_l71Play.calls k g s0_0 s0_1 ev fl dk p1 w0 _ hI hB h1).mono ?_
 rintro e w1 ⟨v0, v1, v2, rfl, -, hS, hD, hI1, hB1, hK1⟩
 obtain ⟨A1, c1, rfl⟩ := Kd.S_slice hS
 obtain ⟨A2, c2, rfl⟩ := Kd.R_slice hD
 have HS := am (Kd.S_mono (Kd.S_bound hS) (fun k_ hk => (⟨hk.2.1, hk.2.2.1⟩ : w.heap.size ≤ k_ ∧ k_ < w1.heap.size)))
 have HI := am (hI1.alloc (.cells #[.slice A1 fl.length c1, .slice A2 dk.length c2] 59))
 have HB := am (below_alloc hB1 (.cells #[.slice A1 fl.length c1, .slice A2 dk.length c2] 59))
 have HK := am (keep_alloc hK1 (.cells #[.slice A1 fl.length c1, .slice A2 dk.length c2] 59))
 clear hS hD hI hB hI1 hB1 hK1
 go_wp2_with fail
 replace HS := am (Kd.S_alloc HS.out (.cells #[.slice A1 fl.length c1, .slice A2 dk.length c2] 59))
 refine (spec_l6Rd_pick.calls k g s0_0 p1 20 q p2 w0 _ HI.out HB.out h2).mono ?_
 rintro e w2 ⟨rfl, hI2, hB2, hK2⟩
 replace HS := am (Kd.S_keep HS.out hK2 (fun k_ hk => by have := hk.1; omega))
 replace HI := am hI2
 replace HB := am hB2
 replace HK := am (KeepBut.trans HK.out hK2 (.inl rfl))
 clear hI2 hB2 hK2
 subst n0
 have hV := V_cutF (Kd.S_V (e := 37) (base' := w.heap.size) (Kd.S_mono HS.out (fun _ hk => hk.1))) hl
 have HV := am hV
 clear hV
 go_wp2
 all_goals go_ret
 · have hV := HV.out
   subst h
   rw [if_pos rfl] at hV
   exact ⟨_, rfl, hV, HI.out, HB.out, HK.out⟩
 · have hV := HV.out
   rw [if_neg h] at hV
   exact ⟨_, rfl, hV, HI.out, HB.out, HK.out⟩
set_option maxHeartbeats 4000000 in
set_option maxRecDepth 100000 in
theorem spec_l71Flash.c1 (k g : Nat) (s0_0 : List Int) (s0_1 : Int) (ev : List S70) (fl : List S37) (dk : List Int) (p1 q p2 : Int) (i p3 v p4 : Int) (w0 w : World) (hI : IsS55 w0 w g s0_0 s0_1) (hB : Below w0.heap.size w0 w)
 (h1 : spec_l71Play.f k s0_0 s0_1 = some (ev, fl, dk, p1)) (h2 : spec_l6Rd_pick.f k s0_0 p1 20 = some (q, p2)) (n0 : q = 1) (h3 : spec_l6Rd_pick.f k s0_0 p2 (fl.length : Int) = some (i, p3)) (hi0 : 0 ≤ i) (hi1 : i < (fl.length : Int)) (h4 : spec_l6Rd_pick.f k s0_0 p3 3 = some (v, p4)) (hv0 : 0 ≤ v) (hv1 : v < 3) :
 Calls Try.prog 12 #[.pointer (some ⟨g, 0, none⟩)] w fun e w' => ∃ v0_ : Value, e = .returned v0_ ∧ Kd.V k37 37 w' w.heap.size (fun k_ => w.heap.size ≤ k_) v0_ (fl.set i.toNat (⟨(rd_T37 fl i).f0, rd [-1, 200, 201] v⟩ : S37)) ∧ IsS55 w0 w' g s0_0 p4 ∧ Below w0.heap.size w0 w' ∧ KeepBut w w' g none := by
 have hu28 := Try.underlying37
 have hu32 := Try.underlying34
 have hu26 := Try.underlying35
 have hu70 := Try.underlying59
 have hgl := IsS55.lt hI
 have HL0 := am hB.size
 go_enter Try.func12, Try.ntmps12
 go_wp2_with fail
 refine (spec_l71Play.calls k g s0_0 s0_1 ev fl dk p1 w0 _ hI hB h1).mono ?_
 rintro e w1 ⟨v0, v1, v2, rfl, -, hS, hD, hI1, hB1, hK1⟩
 obtain ⟨A1, c1, rfl⟩ := Kd.S_slice hS
 obtain ⟨A2, c2, rfl⟩ := Kd.R_slice hD
 have HS := am (Kd.S_mono (Kd.S_bound hS) (fun k_ hk => (⟨hk.2.1, hk.2.2.1⟩ : w.heap.size ≤ k_ ∧ k_ < w1.heap.size)))
 have HI := am (hI1.alloc (.cells #[.slice A1 fl.length c1, .slice A2 dk.length c2] 59))
 have HB := am (below_alloc hB1 (.cells #[.slice A1 fl.length c1, .slice A2 dk.length c2] 59))
 have HK := am (keep_alloc hK1 (.cells #[.slice A1 fl.length c1, .slice A2 dk.length c2] 59))
 clear hS hD hI hB hI1 hB1 hK1
 go_wp2_with fail
 replace HS := am (Kd.S_alloc HS.out (.cells #[.slice A1 fl.length c1, .slice A2 dk.length c2] 59))
 refine (spec_l6Rd_pick.calls k g s0_0 p1 20 q p2 w0 _ HI.out HB.out h2).mono ?_
 rintro e w2 ⟨rfl, hI2, hB2, hK2⟩
 replace HS := am (Kd.S_keep HS.out hK2 (fun k_ hk => by have := hk.1; omega))
 replace HI := am hI2
 replace HB := am hB2
 replace HK := am (KeepBut.trans HK.out hK2 (.inl rfl))
 clear hI2 hB2 hK2
 subst n0
 obtain ⟨gf, cf, hA1, hgb, hgl1, cellsf, hcf⟩ := Kd.S_form HS.out (by omega)
 have ea := (Value.slice.inj hA1).1
 have ec := (Value.slice.inj hA1).2.2
 subst ea
 subst ec
 clear hA1 hcf hgl1
 go_wp2_with fail
 refine (spec_l6Rd_pick.calls k g s0_0 p2 (fl.length : Int) i p3 w0 _ HI.out HB.out h3).mono ?_
 rintro e w3 ⟨rfl, hI2, hB2, hK2⟩
 replace HS := am (Kd.S_keep HS.out hK2 (fun k_ hk => by have := hk.1; omega))
 replace HI := am hI2
 replace HB := am hB2
 replace HK := am (KeepBut.trans HK.out hK2 (.inl rfl))
 clear hI2 hB2 hK2
 go_wp2_with fail
 refine (spec_l6Rd_pick.calls k g s0_0 p3 3 v p4 w0 _ (IsS55.alloc HI.out _) (below_alloc HB.out _) h4).mono ?_
 rintro e w4 ⟨rfl, hI2, hB2, hK2⟩
 have hlt3 := IsS55.lt HI.out
 have hbx := blk_kb (blk_new w3 _) hK2 (show w3.heap.size ≠ g by omega)
 replace HS := am (Kd.S_keep (Kd.S_alloc HS.out _) hK2 (fun k_ hk => by have := hk.1; omega))
 replace HI := am hI2
 replace HB := am hB2
 replace HK := am (KeepBut.trans (keep_alloc HK.out _) hK2 (.inl rfl))
 clear hI2 hB2 hK2 hlt3
 obtain ⟨oki, c, hcl, hM, hcc, hfr, hoki, hH⟩ := Kd.S_elem HS.out z37 i hi0 hi1
 have hfz := hfr 1
 obtain ⟨vq, rfl, -⟩ := k37_openM hM
 have hcl1 := hcc 1 _ rfl
 rw [show (k37).sz = 2 from rfl] at hfz hcl1
 generalize (List.getD fl i.toNat z37).f1 = wo at hcl1
 clear hcl hM hcc hfr hoki hH
 have q0 : w4.cell? ⟨w3.heap.size, 0, none⟩ = some (.int .i64 (-1)) := (blk_cell hbx 0).trans rfl
 have q1 : w4.cell? ⟨w3.heap.size, 1, none⟩ = some (.int .i64 200) := (blk_cell hbx 1).trans rfl
 have q2 : w4.cell? ⟨w3.heap.size, 2, none⟩ = some (.int .i64 201) := (blk_cell hbx 2).trans rfl
 clear hbx
 have hib := decide_eq_true hi1
 have hiq : (i < (fl.length : Int)) = True := eq_true hi1
 have hv : v = 0 ∨ v = 1 ∨ v = 2 := by omega
 clear hv0 hv1
 have hN := fun x => N_worn (Kd.S_N HS.out) i hi0 hi1 x
 have HN := am hN
 have HF : ∀ x : Int, Aside0 (IsS55 w0 (w4.setCell ⟨gf, i.toNat * 2 + 1, none⟩ (.int .i64 x)) g s0_0 p4 ∧ Below w0.heap.size w0 (w4.setCell ⟨gf, i.toNat * 2 + 1, none⟩ (.int .i64 x)) ∧ KeepBut w (w4.setCell ⟨gf, i.toNat * 2 + 1, none⟩ (.int .i64 x)) g none) := fun x => ⟨IsS55.far HI.out (show g ≠ gf by omega) _, HB.out.setCell (p := ⟨gf, i.toNat * 2 + 1, none⟩) (Nat.le_trans HL0.out hgb) _, keep_far HK.out (p := ⟨gf, i.toNat * 2 + 1, none⟩) hgb _⟩
 clear hN
 rcases hv with rfl | rfl | rfl
 all_goals (clear h3 h4 h1 h2 hgl hgb; go_wp2; go_ret)
 · exact ⟨_, rfl, Kd.N_V (Kd.N_mono (HN.out (-1)) (fun _ hk => hk.1)), (HF (-1)).out⟩
 · exact ⟨_, rfl, Kd.N_V (Kd.N_mono (HN.out 200) (fun _ hk => hk.1)), (HF 200).out⟩
 · exact ⟨_, rfl, Kd.N_V (Kd.N_mono (HN.out 201) (fun _ hk => hk.1)), (HF 201).out⟩
set_option maxHeartbeats 4000000 in
set_option maxRecDepth 100000 in
theorem spec_l71Flash.c3 (k g : Nat) (s0_0 : List Int) (s0_1 : Int) (ev : List S70) (fl : List S37) (dk : List Int) (p1 q p2 : Int) (i p3 : Int) (w0 w : World) (hI : IsS55 w0 w g s0_0 s0_1) (hB : Below w0.heap.size w0 w)
 (h1 : spec_l71Play.f k s0_0 s0_1 = some (ev, fl, dk, p1)) (h2 : spec_l6Rd_pick.f k s0_0 p1 20 = some (q, p2)) (n0 : q = 3) (h3 : spec_l6Rd_pick.f k s0_0 p2 (fl.length : Int) = some (i, p3)) (hi0 : 0 ≤ i) (hi1 : i < (fl.length : Int)) (hp : 1 ≤ (rd_T37 fl i).f0.length) :
 Calls Try.prog 12 #[.pointer (some ⟨g, 0, none⟩)] w fun e w' => ∃ v0_ : Value, e = .returned v0_ ∧ Kd.V k37 37 w' w.heap.size (fun k_ => w.heap.size ≤ k_) v0_ (fl.set i.toNat (⟨(rd_T37 fl i).f0.tail, (rd_T37 fl i).f1⟩ : S37)) ∧ IsS55 w0 w' g s0_0 p3 ∧ Below w0.heap.size w0 w' ∧ KeepBut w w' g none := by
 have hu28 := Try.underlying37
 have hu32 := Try.underlying34
 have hu26 := Try.underlying35
 have hu70 := Try.underlying59
 have hgl := IsS55.lt hI
 have HL0 := am hB.size
 go_enter Try.func12, Try.ntmps12
 go_wp2_with fail
 refine (spec_l71Play.calls k g s0_0 s0_1 ev fl dk p1 w0 _ hI hB h1).mono ?_
 rintro e w1 ⟨v0, v1, v2, rfl, -, hS, hD, hI1, hB1, hK1⟩
 obtain ⟨A1, c1, rfl⟩ := Kd.S_slice hS
 obtain ⟨A2, c2, rfl⟩ := Kd.R_slice hD
 have HS := am (Kd.S_mono (Kd.S_bound hS) (fun k_ hk => (⟨hk.2.1, hk.2.2.1⟩ : w.heap.size ≤ k_ ∧ k_ < w1.heap.size)))
 have HI := am (hI1.alloc (.cells #[.slice A1 fl.length c1, .slice A2 dk.length c2] 59))
 have HB := am (below_alloc hB1 (.cells #[.slice A1 fl.length c1, .slice A2 dk.length c2] 59))
 have HK := am (keep_alloc hK1 (.cells #[.slice A1 fl.length c1, .slice A2 dk.length c2] 59))
 clear hS hD hI hB hI1 hB1 hK1
 go_wp2_with fail
 replace HS := am (Kd.S_alloc HS.out (.cells #[.slice A1 fl.length c1, .slice A2 dk.length c2] 59))
 refine (spec_l6Rd_pick.calls k g s0_0 p1 20 q p2 w0 _ HI.out HB.out h2).mono ?_
 rintro e w2 ⟨rfl, hI2, hB2, hK2⟩
 replace HS := am (Kd.S_keep HS.out hK2 (fun k_ hk => by have := hk.1; omega))
 replace HI := am hI2
 replace HB := am hB2
 replace HK := am (KeepBut.trans HK.out hK2 (.inl rfl))
 clear hI2 hB2 hK2
 subst n0
 obtain ⟨gf, cf, hA1, hgb, hgl1, cellsf, hcf⟩ := Kd.S_form HS.out (by omega)
 have ea := (Value.slice.inj hA1).1
 have ec := (Value.slice.inj hA1).2.2
 subst ea
 subst ec
 clear hA1 hcf hgl1
 go_wp2_with fail
 refine (spec_l6Rd_pick.calls k g s0_0 p2 (fl.length : Int) i p3 w0 _ HI.out HB.out h3).mono ?_
 rintro e w3 ⟨rfl, hI2, hB2, hK2⟩
 replace HS := am (Kd.S_keep HS.out hK2 (fun k_ hk => by have := hk.1; omega))
 replace HI := am hI2
 replace HB := am hB2
 replace HK := am (KeepBut.trans HK.out hK2 (.inl rfl))
 clear hI2 hB2 hK2
 obtain ⟨c, hcl, hF, hcc, hfr⟩ := Kd.N_elem (Kd.S_N HS.out) z37 i hi0 hi1
 obtain ⟨A0, c0, rfl, hl1, hf⟩ := k37_openF hF
 have hfz := hfr 0
 have hc := hcc 0 _ rfl
 rw [show (k37).sz = 2 from rfl, Nat.add_zero] at hfz hc
 have hN := N_cutP (Kd.S_N HS.out) i hi0 hi1 (A0 := A0) (c0 := c0) hc hp
 have HN := am hN
 have HF : ∀ x : Value, Aside0 (IsS55 w0 (w3.setCell ⟨gf, i.toNat * 2, none⟩ x) g s0_0 p3 ∧ Below w0.heap.size w0 (w3.setCell ⟨gf, i.toNat * 2, none⟩ x) ∧ KeepBut w (w3.setCell ⟨gf, i.toNat * 2, none⟩ x) g none) := fun x => ⟨IsS55.far HI.out (show g ≠ gf by omega) _, HB.out.setCell (p := ⟨gf, i.toNat * 2, none⟩) (Nat.le_trans HL0.out hgb) _, keep_far HK.out (p := ⟨gf, i.toNat * 2, none⟩) hgb _⟩
 clear hN hcl hF hcc hfr hf
 have hib := decide_eq_true hi1
 have hiq : (i < (fl.length : Int)) = True := eq_true hi1
 replace hc : w3.cell? ⟨gf, i.toNat * 2, none⟩ = some (.slice A0 (rd_T37 fl i).f0.length c0) := hc
 replace hl1 : (rd_T37 fl i).f0.length ≤ c0 := hl1
 clear h3 h1 h2 hgl hgb
 generalize hnn : (rd_T37 fl i).f0.length = nn at hc hl1 hp HN
 have HNN := am hnn
 clear hnn
 go_wp2
 all_goals go_ret
 · have hN := HN.out
   subst h
   rw [if_pos rfl] at hN
   exact ⟨_, rfl, Kd.N_V (Kd.N_mono hN (fun _ hk => hk.1)), (HF _).out⟩
 · have hN := HN.out
   rw [if_neg h] at hN
   exact ⟨_, rfl, Kd.N_V (Kd.N_mono hN (fun _ hk => hk.1)), (HF _).out⟩
theorem S_pageD {w1 : World} {base g n cap gi ni ci : Nat} {ok : Nat → Prop} {xs : List S37} (HS : Kd.S k37 37 w1 base ok (.slice (some ⟨g, 0, none⟩) n cap) xs) (b : Int) (h0 : 0 ≤ b) (h1 : b < n)
 (hc : w1.cell? ⟨g, b.toNat * 2, none⟩ = some (.slice (some ⟨gi, 0, none⟩) ni ci)) (j : Int) (hj0 : 0 ≤ j) (hj1 : j < ni) (p : S34) :
 Kd.S k37 37 (w1.setCells gi (j.toNat * 5) [.int .i64 p.f0, .int .i64 p.f1.f0, .int .i64 p.f1.f1, .int .i64 p.f1.f2, .int .i64 p.f1.f3]) base ok (.slice (some ⟨g, 0, none⟩) n cap) (xs.set b.toNat ⟨(rd_T37 xs b).f0.set j.toNat p, (rd_T37 xs b).f1⟩) := by
 obtain ⟨oki, c, hcl, hM, hcc, hfr, hoki, hH⟩ := Kd.S_elem HS z37 b h0 h1
 obtain ⟨v0, rfl, hR⟩ := k37_openM hM
 have hc0 := hcc 0 _ rfl
 have esz : (k37).sz = 2 := rfl
 rw [esz, Nat.add_zero, hc] at hc0
 obtain rfl := Option.some.inj hc0
 obtain ⟨ce, hce, hMe, hcce, hfre⟩ := Kd.R_elem hR z34 j hj0 hj1
 obtain ⟨hR2, hg2⟩ := Kd.R_seg hR j hj0 hj1 (seg := [.int .i64 p.f0, .int .i64 p.f1.f0, .int .i64 p.f1.f1, .int .i64 p.f1.f2, .int .i64 p.f1.f3]) (j := 0) (okp := fun _ => False) hce hcce (show 0 + 5 ≤ 5 from Nat.le_refl 5) (x' := p)
  (by
   rw [List.take_zero, List.nil_append, List.drop_of_length_le (by rw [hce]; exact Nat.le_refl 5), List.append_nil]
   exact k34_mkM _ _ _ p) (fun _ h => h.elim)
 have hgi : oki gi := hR.1 gi rfl
 have hk : Kept w1 (w1.setCells gi (j.toNat * 5) [.int .i64 p.f0, .int .i64 p.f1.f0, .int .i64 p.f1.f1, .int .i64 p.f1.f2, .int .i64 p.f1.f3]) (fun k => k = gi) := Kept.of_grown hg2 (Kept.refl w1 _) (fun k hk => Or.inl (Option.some.inj hk).symm)
 exact Kd.H_back (Kd.H_kept hH hk (fun k _ hn hk2 => hn (by rw [hk2]; exact hgi))) (k37_mkM _ base oki ⟨(rd_T37 xs b).f0.set j.toNat p, (rd_T37 xs b).f1⟩ hR2) (fun k hk => hk)
theorem keepD {w0 w W : World} {g n : Nat} {a : Addr} {v : Value} (h : W.cell? a = some v ∧ Below w0.heap.size w0 W ∧ KeepBut w W g none) : (W.drewN n).cell? a = some v ∧ Below w0.heap.size w0 (W.drewN n) ∧ KeepBut w (W.drewN n) g none := ⟨h.1, pw_below_drewN h.2.1 n, keep_drewN h.2.2 n⟩
theorem keepD1 {w0 w W : World} {g : Nat} {a : Addr} {v : Value} (h : W.cell? a = some v ∧ Below w0.heap.size w0 W ∧ KeepBut w W g none) : (W.drew).cell? a = some v ∧ Below w0.heap.size w0 (W.drew) ∧ KeepBut w (W.drew) g none := ⟨h.1, below_drew h.2.1, keep_drew h.2.2⟩
theorem keepW {w0 w W : World} {g gi : Nat} {a : Addr} {v : Value} (h : W.cell? a = some v ∧ Below w0.heap.size w0 W ∧ KeepBut w W g none) (hL : w0.heap.size ≤ w.heap.size) (hgi : w.heap.size ≤ gi) (hne : a.block ≠ gi) (a1 a2 a3 a4 a5 : Nat) (u1 u2 u3 u4 u5 : Value) :
 (((((W.setCell ⟨gi, a1, none⟩ u1).setCell ⟨gi, a2, none⟩ u2).setCell ⟨gi, a3, none⟩ u3).setCell ⟨gi, a4, none⟩ u4).setCell ⟨gi, a5, none⟩ u5).cell? a = some v ∧ Below w0.heap.size w0 (((((W.setCell ⟨gi, a1, none⟩ u1).setCell ⟨gi, a2, none⟩ u2).setCell ⟨gi, a3, none⟩ u3).setCell ⟨gi, a4, none⟩ u4).setCell ⟨gi, a5, none⟩ u5) ∧ KeepBut w (((((W.setCell ⟨gi, a1, none⟩ u1).setCell ⟨gi, a2, none⟩ u2).setCell ⟨gi, a3, none⟩ u3).setCell ⟨gi, a4, none⟩ u4).setCell ⟨gi, a5, none⟩ u5) g none := by
 have e : ∀ (k : Nat), (⟨gi, k, none⟩ : Addr) ≠ a := fun k he => hne (by rw [← he])
 have hb := Nat.le_trans hL hgi
 refine ⟨?_, ((((h.2.1.setCell (p := ⟨gi, a1, none⟩) hb _).setCell (p := ⟨gi, a2, none⟩) hb _).setCell (p := ⟨gi, a3, none⟩) hb _).setCell (p := ⟨gi, a4, none⟩) hb _).setCell (p := ⟨gi, a5, none⟩) hb _, keep_far (p := ⟨gi, a5, none⟩) (keep_far (p := ⟨gi, a4, none⟩) (keep_far (p := ⟨gi, a3, none⟩) (keep_far (p := ⟨gi, a2, none⟩) (keep_far (p := ⟨gi, a1, none⟩) h.2.2 hgi _) hgi _) hgi _) hgi _) hgi _⟩
 rw [World.cell?_setCell_other _ _ _ _ (e a5), World.cell?_setCell_other _ _ _ _ (e a4), World.cell?_setCell_other _ _ _ _ (e a3), World.cell?_setCell_other _ _ _ _ (e a2), World.cell?_setCell_other _ _ _ _ (e a1)]
 exact h.1
set_option maxHeartbeats 4000000 in
set_option maxRecDepth 100000 in
theorem spec_l71Flash.c0 (k g : Nat) (s0_0 : List Int) (s0_1 : Int) (ev : List S70) (fl : List S37) (dk : List Int) (p1 q p2 : Int) (i p3 j p4 st p5 r0 r1 r2 r3 p6 : Int) (w0 w : World) (hI : IsS55 w0 w g s0_0 s0_1) (hB : Below w0.heap.size w0 w)
 (h1 : spec_l71Play.f k s0_0 s0_1 = some (ev, fl, dk, p1)) (h2 : spec_l6Rd_pick.f k s0_0 p1 20 = some (q, p2)) (n0 : q = 0) (h3 : spec_l6Rd_pick.f k s0_0 p2 (fl.length : Int) = some (i, p3)) (hi0 : 0 ≤ i) (hi1 : i < (fl.length : Int)) (h4 : spec_l6Rd_pick.f k s0_0 p3 4 = some (j, p4)) (hj0 : 0 ≤ j) (hj1 : j < ((rd_T37 fl i).f0.length : Int)) (h5 : spec_l6Rd_pick.f k s0_0 p4 4 = some (st, p5)) (h6 : spec_l71Rec.f k s0_0 p5 = some (r0, r1, r2, r3, p6)) :
 Calls Try.prog 12 #[.pointer (some ⟨g, 0, none⟩)] w fun e w' => ∃ v0_ : Value, e = .returned v0_ ∧ Kd.V k37 37 w' w.heap.size (fun k_ => w.heap.size ≤ k_) v0_ (fl.set i.toNat (⟨(rd_T37 fl i).f0.set j.toNat ⟨st, ⟨r0, r1, r2, r3⟩⟩, (rd_T37 fl i).f1⟩ : S37)) ∧ IsS55 w0 w' g s0_0 p6 ∧ Below w0.heap.size w0 w' ∧ KeepBut w w' g none := by
 have hu28 := Try.underlying37
 have hu32 := Try.underlying34
 have hu26 := Try.underlying35
 have hu70 := Try.underlying59
 have hgl := IsS55.lt hI
 have HL0 := am hB.size
 go_enter Try.func12, Try.ntmps12
 go_wp2_with fail
 refine (spec_l71Play.calls k g s0_0 s0_1 ev fl dk p1 w0 _ hI hB h1).mono ?_
 rintro e w1 ⟨v0, v1, v2, rfl, -, hS, hD, hI1, hB1, hK1⟩
 obtain ⟨A1, c1, rfl⟩ := Kd.S_slice hS
 obtain ⟨A2, c2, rfl⟩ := Kd.R_slice hD
 have HS := am (Kd.S_mono (Kd.S_bound hS) (fun k_ hk => (⟨hk.2.1, hk.2.2.1⟩ : w.heap.size ≤ k_ ∧ k_ < w1.heap.size)))
 have HI := am (hI1.alloc (.cells #[.slice A1 fl.length c1, .slice A2 dk.length c2] 59))
 have HB := am (below_alloc hB1 (.cells #[.slice A1 fl.length c1, .slice A2 dk.length c2] 59))
 have HK := am (keep_alloc hK1 (.cells #[.slice A1 fl.length c1, .slice A2 dk.length c2] 59))
 clear hS hD hI hB hI1 hB1 hK1
 go_wp2_with fail
 replace HS := am (Kd.S_alloc HS.out (.cells #[.slice A1 fl.length c1, .slice A2 dk.length c2] 59))
 refine (spec_l6Rd_pick.calls k g s0_0 p1 20 q p2 w0 _ HI.out HB.out h2).mono ?_
 rintro e w2 ⟨rfl, hI2, hB2, hK2⟩
 replace HS := am (Kd.S_keep HS.out hK2 (fun k_ hk => by have := hk.1; omega))
 replace HI := am hI2
 replace HB := am hB2
 replace HK := am (KeepBut.trans HK.out hK2 (.inl rfl))
 clear hI2 hB2 hK2
 subst n0
 obtain ⟨gf, cf, hA1, hgb, hgl1, cellsf, hcf⟩ := Kd.S_form HS.out (by omega)
 have ea := (Value.slice.inj hA1).1
 have ec := (Value.slice.inj hA1).2.2
 subst ea
 subst ec
 clear hA1 hcf hgl1
 obtain ⟨oki, c, hcl, hM, hcc, hfr, hoki, hH⟩ := Kd.S_elem HS.out z37 i hi0 hi1
 obtain ⟨vq, rfl, hR⟩ := k37_openM hM
 have hc := hcc 0 _ rfl
 rw [show (k37).sz = 2 from rfl, Nat.add_zero] at hc
 replace hR : Kd.R k34 34 w2 w.heap.size oki vq (rd_T37 fl i).f0 := hR
 obtain ⟨gi, ci, rfl, hgib, hgil, cellsi, hcgi⟩ := Kd.R_form hR (by omega)
 have hgigf : gi ≠ gf := (hoki gi (hR.1 gi rfl)).2
 obtain ⟨ce, hce, hMe, hcce, hfre⟩ := Kd.R_elem hR z34 j hj0 hj1
 obtain rfl := k34_openM hMe
 rw [show (k34).sz = 5 from rfl] at hcce
 have HD := am (And.intro (hcce 0 _ rfl) (And.intro (hcce 1 _ rfl) (And.intro (hcce 2 _ rfl) (And.intro (hcce 3 _ rfl) (hcce 4 _ rfl)))))
 rw [Nat.add_zero] at HD
 have HBI := am hcgi
 clear hcl hM hcc hfr hoki hH hR hcgi hce hMe hcce hfre hgil
 generalize hpq : (List.getD (rd_T37 fl i).f0 j.toNat z34) = pq at HD
 clear hpq
 generalize hnn : (rd_T37 fl i).f0.length = nn at hc hj1
 have HNN := am hnn
 clear hnn
 have hib := decide_eq_true hi1
 have hiq : (i < (fl.length : Int)) = True := eq_true hi1
 have hjb := decide_eq_true hj1
 have hjq : (j < (nn : Int)) = True := eq_true hj1
 have hgfg : gf ≠ g := by omega
 have hgig : gi ≠ g := by omega
 have hSS : w2.cell? ⟨gf, i.toNat * 2, none⟩ = some (.slice (some ⟨gi, 0, none⟩) nn ci) ∧ Below w0.heap.size w0 w2 ∧ KeepBut w w2 g none := ⟨hc, HB.out, HK.out⟩
 have HGI := am hgib
 have HGL := am hgl
 have hd1 : ∀ (W : World) (n : Nat) (a : Addr), (W.drewN n).cell? a = W.cell? a := fun _ _ _ => rfl
 have hd3 : ∀ (W : World) (n : Nat) (a : Addr), (W.drewN n).frozen? a = W.frozen? a := fun _ _ _ => rfl
 clear hc
 go_wp2_with fail
 go_region_held3 (fun W => W.cell? ⟨gf, i.toNat * 2, none⟩ = some (.slice (some ⟨gi, 0, none⟩) nn ci) ∧ Below w0.heap.size w0 W ∧ KeepBut w W g none)
  (first | (with_reducible assumption) | (with_reducible exact keepD hSS) | (with_reducible exact keepD1 hSS) | (with_reducible exact keepD hS3) | (with_reducible exact keepD hS4) | (with_reducible exact keepD hS5) | (with_reducible exact keepD hS6) | (with_reducible exact keepW hS6 HL0.out HGI.out hgigf.symm _ _ _ _ _ _ _ _ _ _) | (with_reducible exact keepW (keepD hS6) HL0.out HGI.out hgigf.symm _ _ _ _ _ _ _ _ _ _))
  (first
   | (go_at_call 13; have _hg := HI5.out; clear _hg; refine (spec_l71Rec.calls k g s0_0 p5 r0 r1 r2 r3 p6 w0 _ (by first | (with_reducible exact HI5.out) | (with_reducible exact IsS55.drewN HI5.out _) | (with_reducible exact IsS55.drew HI5.out)) (by first | (with_reducible exact hS5.2.1) | (with_reducible exact pw_below_drewN hS5.2.1 _) | (with_reducible exact below_drew hS5.2.1)) h6).mono ?_; rintro e w6 ⟨rfl, hI6, hB6, hq6⟩; have hK6 : KeepBut w2 w6 g none := KeepBut.trans HK5.out hq6 (.inl rfl); have HI6 := am hI6; have HK6 := am hK6; have hS6 : w6.cell? ⟨gf, i.toNat * 2, none⟩ = some (.slice (some ⟨gi, 0, none⟩) nn ci) ∧ Below w0.heap.size w0 w6 ∧ KeepBut w w6 g none := ⟨keep_cell hK6 hSS.1 hgfg, hB6, KeepBut.trans HK.out hK6 (.inl rfl)⟩; clear hI6 hq6 hB6 hK6; have K6 := HK6.out; have d0 := keep_cell K6 HD.out.1 hgig; have d1 := keep_cell K6 HD.out.2.1 hgig; have d2 := keep_cell K6 HD.out.2.2.1 hgig; have d3 := keep_cell K6 HD.out.2.2.2.1 hgig; have d4 := keep_cell K6 HD.out.2.2.2.2 hgig; have bk6 := blk_kb HBI.out K6 hgig; have f0 := blk_frozen bk6 (j.toNat * 5); have f1 := blk_frozen bk6 (j.toNat * 5 + 1); have f2 := blk_frozen bk6 (j.toNat * 5 + 2); have f3 := blk_frozen bk6 (j.toNat * 5 + 3); have f4 := blk_frozen bk6 (j.toNat * 5 + 4); clear K6 bk6)
   | (go_at_call 14; have _hg := HI4.out; clear _hg; refine (spec_l6Rd_pick.calls k g s0_0 p4 4 st p5 w0 _ (by first | (with_reducible exact HI4.out) | (with_reducible exact IsS55.drewN HI4.out _) | (with_reducible exact IsS55.drew HI4.out)) (by first | (with_reducible exact hS4.2.1) | (with_reducible exact pw_below_drewN hS4.2.1 _) | (with_reducible exact below_drew hS4.2.1)) h5).mono ?_; rintro e w5 ⟨rfl, hI5, hB5, hq5⟩; have hK5 : KeepBut w2 w5 g none := KeepBut.trans HK4.out hq5 (.inl rfl); have HI5 := am hI5; have HK5 := am hK5; have hS5 : w5.cell? ⟨gf, i.toNat * 2, none⟩ = some (.slice (some ⟨gi, 0, none⟩) nn ci) ∧ Below w0.heap.size w0 w5 ∧ KeepBut w w5 g none := ⟨keep_cell hK5 hSS.1 hgfg, hB5, KeepBut.trans HK.out hK5 (.inl rfl)⟩; clear hI5 hq5 hB5 hK5)
   | (go_at_call 14; have _hg := HI3.out; clear _hg; refine (spec_l6Rd_pick.calls k g s0_0 p3 4 j p4 w0 _ (by first | (with_reducible exact HI3.out) | (with_reducible exact IsS55.drewN HI3.out _) | (with_reducible exact IsS55.drew HI3.out)) (by first | (with_reducible exact hS3.2.1) | (with_reducible exact pw_below_drewN hS3.2.1 _) | (with_reducible exact below_drew hS3.2.1)) h4).mono ?_; rintro e w4 ⟨rfl, hI4, hB4, hq4⟩; have hK4 : KeepBut w2 w4 g none := KeepBut.trans HK3.out hq4 (.inl rfl); have HI4 := am hI4; have HK4 := am hK4; have hS4 : w4.cell? ⟨gf, i.toNat * 2, none⟩ = some (.slice (some ⟨gi, 0, none⟩) nn ci) ∧ Below w0.heap.size w0 w4 ∧ KeepBut w w4 g none := ⟨keep_cell hK4 hSS.1 hgfg, hB4, KeepBut.trans HK.out hK4 (.inl rfl)⟩; clear hI4 hq4 hB4 hK4)
   | (go_at_call 14; have _hg := HI.out; clear _hg; refine (spec_l6Rd_pick.calls k g s0_0 p2 (fl.length : Int) i p3 w0 _ (by first | (with_reducible exact HI.out) | (with_reducible exact IsS55.drewN HI.out _) | (with_reducible exact IsS55.drew HI.out)) (by first | (with_reducible exact hSS.2.1) | (with_reducible exact pw_below_drewN hSS.2.1 _) | (with_reducible exact below_drew hSS.2.1)) h3).mono ?_; rintro e w3 ⟨rfl, hI3, hB3, hq3⟩; have hK3 : KeepBut w2 w3 g none := hq3; have HI3 := am hI3; have HK3 := am hK3; have hS3 : w3.cell? ⟨gf, i.toNat * 2, none⟩ = some (.slice (some ⟨gi, 0, none⟩) nn ci) ∧ Below w0.heap.size w0 w3 ∧ KeepBut w w3 g none := ⟨keep_cell hK3 hSS.1 hgfg, hB3, KeepBut.trans HK.out hK3 (.inl rfl)⟩; clear hI3 hq3 hB3 hK3)
   | fail)
 have hS6w := (show (((((w6.setCell ⟨gi, j.toNat * 5, none⟩ (.int .i64 st)).setCell ⟨gi, j.toNat * 5 + 1, none⟩ (.int .i64 r0)).setCell ⟨gi, j.toNat * 5 + 2, none⟩ (.int .i64 r1)).setCell ⟨gi, j.toNat * 5 + 3, none⟩ (.int .i64 r2)).setCell ⟨gi, j.toNat * 5 + 4, none⟩ (.int .i64 r3)).cell? ⟨gf, i.toNat * 2, none⟩ = some (.slice (some ⟨gi, 0, none⟩) nn ci) ∧ Below w0.heap.size w0 (((((w6.setCell ⟨gi, j.toNat * 5, none⟩ (.int .i64 st)).setCell ⟨gi, j.toNat * 5 + 1, none⟩ (.int .i64 r0)).setCell ⟨gi, j.toNat * 5 + 2, none⟩ (.int .i64 r1)).setCell ⟨gi, j.toNat * 5 + 3, none⟩ (.int .i64 r2)).setCell ⟨gi, j.toNat * 5 + 4, none⟩ (.int .i64 r3)) ∧ KeepBut w (((((w6.setCell ⟨gi, j.toNat * 5, none⟩ (.int .i64 st)).setCell ⟨gi, j.toNat * 5 + 1, none⟩ (.int .i64 r0)).setCell ⟨gi, j.toNat * 5 + 2, none⟩ (.int .i64 r1)).setCell ⟨gi, j.toNat * 5 + 3, none⟩ (.int .i64 r2)).setCell ⟨gi, j.toNat * 5 + 4, none⟩ (.int .i64 r3)) g none from by with_reducible assumption)
 have hst := S_pageD (Kd.S_keep HS.out HK6.out (fun k_ hk => by have := hk.1; have := HGL.out; omega)) i hi0 hi1 hS6.1 j hj0 hj1 (⟨st, ⟨r0, r1, r2, r3⟩⟩ : S34)
 have hgne : g ≠ gi := fun h => hgig h.symm
 have hI7 := IsS55.far (p := ⟨gi, j.toNat * 5 + 4, none⟩) (IsS55.far (p := ⟨gi, j.toNat * 5 + 3, none⟩) (IsS55.far (p := ⟨gi, j.toNat * 5 + 2, none⟩) (IsS55.far (p := ⟨gi, j.toNat * 5 + 1, none⟩) (IsS55.far (p := ⟨gi, j.toNat * 5, none⟩) HI6.out hgne (.int .i64 st)) hgne (.int .i64 r0)) hgne (.int .i64 r1)) hgne (.int .i64 r2)) hgne (.int .i64 r3)
 have HR := am (And.intro hS6w (And.intro hst hI7))
 clear hS6w hst hI7 hSS hS3 hS4 hS5 hS6 d0 d1 d2 d3 d4 f0 f1 f2 f3 f4 h1 h2 h3 h4 h5 h6 hd1 hd3 HS HI HI3 HI4 HI5 HI6 HK3 HK4 HK5 HK6 HD HBI
 go_wp2
 go_ret
 exact ⟨_, rfl, Kd.S_V (Kd.S_mono HR.out.2.1 (fun _ hk => hk.1)), HR.out.2.2, HR.out.1.2⟩
def spec_l71Flash.g (k : Nat) (s0_0 : List Int) (fl : List S37) (q p2 : Int) : Option (List S37 × Int) :=
 if q = 0 then (spec_l6Rd_pick.f k s0_0 p2 (fl.length : Int)).bind fun b3 => (spec_l6Rd_pick.f k s0_0 b3.2 4).bind fun b4 => (spec_l6Rd_pick.f k s0_0 b4.2 4).bind fun b5 => (spec_l71Rec.f k s0_0 b5.2).bind fun b6 =>
  if 0 ≤ b3.1 ∧ b3.1 < (fl.length : Int) ∧ 0 ≤ b4.1 ∧ b4.1 < ((rd_T37 fl b3.1).f0.length : Int) then some (fl.set b3.1.toNat (⟨(rd_T37 fl b3.1).f0.set b4.1.toNat ⟨b5.1, ⟨b6.1, b6.2.1, b6.2.2.1, b6.2.2.2.1⟩⟩, (rd_T37 fl b3.1).f1⟩ : S37), b6.2.2.2.2) else none
 else if q = 1 then (spec_l6Rd_pick.f k s0_0 p2 (fl.length : Int)).bind fun b3 => (spec_l6Rd_pick.f k s0_0 b3.2 3).bind fun b4 =>
  if 0 ≤ b3.1 ∧ b3.1 < (fl.length : Int) ∧ 0 ≤ b4.1 ∧ b4.1 < 3 then some (fl.set b3.1.toNat (⟨(rd_T37 fl b3.1).f0, rd [-1, 200, 201] b4.1⟩ : S37), b4.2) else none
 else if q = 2 then (if 1 ≤ fl.length then some (fl.tail, p2) else none)
 else if q = 3 then (spec_l6Rd_pick.f k s0_0 p2 (fl.length : Int)).bind fun b3 =>
  if 0 ≤ b3.1 ∧ b3.1 < (fl.length : Int) ∧ 1 ≤ (rd_T37 fl b3.1).f0.length then some (fl.set b3.1.toNat (⟨(rd_T37 fl b3.1).f0.tail, (rd_T37 fl b3.1).f1⟩ : S37), b3.2) else none
 else some (fl, p2)
def spec_l71Flash.f (k : Nat) (s0_0 : List Int) (s0_1 : Int) : Option (List S37 × Int) :=
 (spec_l71Play.f k s0_0 s0_1).bind fun b1 => (spec_l6Rd_pick.f k s0_0 b1.2.2.2 20).bind fun b2 => spec_l71Flash.g k s0_0 b1.2.1 b2.1 b2.2
theorem spec_l71Flash.mono : ∀ a0 a1 k, LeO (spec_l71Flash.f k a0 a1) (spec_l71Flash.f (k + 1) a0 a1) := by
 intro a0 a1 k
 unfold spec_l71Flash.f
 refine LeO.bind (spec_l71Play.mono _ _ _) (fun b1 => LeO.bind (spec_l6Rd_pick.mono _ _ _ _) (fun b2 => ?_))
 unfold spec_l71Flash.g
 with_reducible repeat' first | exact LeO.refl _ | exact spec_l6Rd_pick.mono _ _ _ _ | exact spec_l71Rec.mono _ _ _ | refine LeO.bind ?_ (fun _ => ?_) | refine LeO.ite ?_ ?_
theorem spec_l71Flash.calls (k : Nat) (g : Nat) (s0_0 : List Int) (s0_1 : Int) (r1 : List (S37)) (r2 : Int) (w0 w : World) (hI : IsS55 w0 w g s0_0 s0_1) (hB : Below w0.heap.size w0 w) (h : spec_l71Flash.f k s0_0 s0_1 = some (r1, r2)) :
 Calls Try.prog 12 #[.pointer (some ⟨g, 0, none⟩)] w fun e w' => ∃ v0_ : Value, e = .returned v0_ ∧ Kd.V k37 37 w' w.heap.size (fun k_ => w.heap.size ≤ k_) v0_ r1 ∧ IsS55 w0 w' g s0_0 r2 ∧ Below w0.heap.size w0 w' ∧ KeepBut w w' g none := by
 unfold spec_l71Flash.f at h
 obtain ⟨⟨ev, fl, dk, p1⟩, h1, h⟩ := Option.bind_eq_some_iff.1 h
 obtain ⟨⟨q, p2⟩, h2, h⟩ := Option.bind_eq_some_iff.1 h
 replace h : spec_l71Flash.g k s0_0 fl q p2 = some (r1, r2) := h
 unfold spec_l71Flash.g at h
 by_cases n0 : q = 0
 · rw [if_pos n0] at h
   obtain ⟨⟨i, p3⟩, h3, h⟩ := Option.bind_eq_some_iff.1 h
   obtain ⟨⟨j, p4⟩, h4, h⟩ := Option.bind_eq_some_iff.1 h
   obtain ⟨⟨st, p5⟩, h5, h⟩ := Option.bind_eq_some_iff.1 h
   obtain ⟨⟨r0, ra, rb, rc, p6⟩, h6, h⟩ := Option.bind_eq_some_iff.1 h
   obtain ⟨⟨hi0, hi1, hj0, hj1⟩, h⟩ := ite_some h
   have e := Prod.mk.inj (Option.some.inj h)
   rw [← e.1, ← e.2]
   exact spec_l71Flash.c0 k g s0_0 s0_1 ev fl dk p1 q p2 i p3 j p4 st p5 r0 ra rb rc p6 w0 w hI hB h1 h2 n0 h3 hi0 hi1 h4 hj0 hj1 h5 h6
 rw [if_neg n0] at h
 by_cases n1 : q = 1
 · rw [if_pos n1] at h
   obtain ⟨⟨i, p3⟩, h3, h⟩ := Option.bind_eq_some_iff.1 h
   obtain ⟨⟨j, p4⟩, h4, h⟩ := Option.bind_eq_some_iff.1 h
   obtain ⟨⟨hi0, hi1, hj0, hj1⟩, h⟩ := ite_some h
   have e := Prod.mk.inj (Option.some.inj h)
   rw [← e.1, ← e.2]
   exact spec_l71Flash.c1 k g s0_0 s0_1 ev fl dk p1 q p2 i p3 j p4 w0 w hI hB h1 h2 n1 h3 hi0 hi1 h4 hj0 hj1
 rw [if_neg n1] at h
 by_cases n2 : q = 2
 · rw [if_pos n2] at h
   obtain ⟨hl, h⟩ := ite_some h
   have e := Prod.mk.inj (Option.some.inj h)
   rw [← e.1, ← e.2]
   exact spec_l71Flash.c2 k g s0_0 s0_1 ev fl dk p1 q p2 w0 w hI hB h1 h2 n2 hl
 rw [if_neg n2] at h
 by_cases n3 : q = 3
 · rw [if_pos n3] at h
   obtain ⟨⟨i, p3⟩, h3, h⟩ := Option.bind_eq_some_iff.1 h
   obtain ⟨⟨hi0, hi1, hp⟩, h⟩ := ite_some h
   have e := Prod.mk.inj (Option.some.inj h)
   rw [← e.1, ← e.2]
   exact spec_l71Flash.c3 k g s0_0 s0_1 ev fl dk p1 q p2 i p3 w0 w hI hB h1 h2 n3 h3 hi0 hi1 hp
 rw [if_neg n3] at h
 have e := Prod.mk.inj (Option.some.inj h)
 rw [← e.1, ← e.2]
 exact spec_l71Flash.c4 k g s0_0 s0_1 ev fl dk p1 q p2 w0 w hI hB h1 h2 n0 n1 n2 n3
end Go.Proofs.Ytklmgekagoibjaa.Rv
namespace Go.Proofs.Ytklmgekagoibjaa.Rv
open Go.RowKit Go.Proofs.YtklmgekagoibjaaW.PrintWords Go.Proofs.YtklmgekagoibjaaW.PrintLast Go.Proofs.YtklmgekagoibjaaW.PrintMore
attribute [local go_sem] max2_int min2_int max_two min_two max_three min_three max_four min_four
set_option linter.unusedVariables false
set_option linter.unusedSimpArgs false
attribute [local go_sem high] eqA25
def spec_l2Page.f (a0_0 : Int) (a0_1 : Int) (a0_2 : Int) (a0_3 : Int) (a0_4 : Int) : Option (Bool) := if a0_0 = 1 then ((spec_RecOk.f a0_1 a0_2 a0_3 a0_4).bind fun t356 => (some t356)) else (if a0_0 = 0 then (some (a0_1 == 0 && (a0_2 == 0 && (a0_3 == 0 && (a0_4 == 0))))) else (if a0_0 = 2 then (some (a0_1 == 0 && (a0_2 == 0 && (a0_3 == 0 && (a0_4 == 0))))) else (some false)))
set_option maxHeartbeats 8000000 in
set_option maxRecDepth 100000 in
theorem spec_l2Page.calls (a0_0 : Int) (a0_1 : Int) (a0_2 : Int) (a0_3 : Int) (a0_4 : Int) (r : Bool) (w : World) (h : spec_l2Page.f a0_0 a0_1 a0_2 a0_3 a0_4 = some r) :
 Calls Try.prog 27 #[.agg #[.int .i64 a0_0, .int .i64 a0_1, .int .i64 a0_2, .int .i64 a0_3, .int .i64 a0_4]] w fun e w' => e = .returned (.bool r) ∧ Below w.heap.size w w' := by
 have hu34 := Try.underlying34
 have hu25 := Try.underlying25
 have HB := am (Below.refl w.heap.size w)
 have H : (if a0_0 = 1 then ((spec_RecOk.f a0_1 a0_2 a0_3 a0_4).bind fun t356 => (some t356)) else (if a0_0 = 0 then (some (a0_1 == 0 && (a0_2 == 0 && (a0_3 == 0 && (a0_4 == 0))))) else (if a0_0 = 2 then (some (a0_1 == 0 && (a0_2 == 0 && (a0_3 == 0 && (a0_4 == 0))))) else (some false)))) = some r := h
 clear h
 by_cases c2 : a0_0 = 1
 · rw [if_pos c2] at H
   have c2b0 : (a0_0 == 1) = true := beq_iff_eq.mpr c2
   have c2b1 : (a0_0 != 1) = false := bne_eq_false_iff_eq.mpr c2
   clear c2
   replace H := Option.bind_eq_some_iff.mp H
   obtain ⟨t356, A30, H⟩ := H
   have A3 := am A30
   clear A30
   obtain rfl := Option.some.inj H
   go_enter Try.func27, Try.ntmps27
   go_wp2_with (first | (refine bx 1 #[.int .i64 a0_0, .int .i64 a0_1, .int .i64 a0_2, .int .i64 a0_3, .int .i64 a0_4] 34 rfl ?_; intro gb355 hg w4 hbox hb; have BK355 := am (hbox); have GW355 := am (ge hg (ph HB.out)); have GE355 := GW355; replace HB := am (below_step (ph HB.out) hb); clear hb hbox hg; obtain ⟨hcz5_0, hcz5_1, hcz5_2, hcz5_3, hcz5_4⟩ := b5 BK355.out; obtain ⟨hfz5_0, hfz5_1, hfz5_2, hfz5_3, hfz5_4⟩ := f5 BK355.out) | (refine gl 9 Try.func9 #[.agg #[.int .i64 a0_1, .int .i64 a0_2, .int .i64 a0_3, .int .i64 a0_4]] rfl ?_; (with_reducible refine (spec_RecOk.calls a0_1 a0_2 a0_3 a0_4 t356 _ A3.out).mono ?_); rintro e w6 ⟨rfl, hb⟩; refine ⟨_, rfl, ?_⟩; replace BK355 := am (blk_below (pb BK355.out) hb); replace HB := am (below_step (bg1 HB.out GE355.out) hb); (try clear hb); (try clear hb2); (try clear hk); (try clear hi)))
   go_ret
   exact (rq (bg1 HB.out GE355.out))
 rw [if_neg c2] at H
 have c2b0 : (a0_0 == 1) = false := beq_eq_false_iff_ne.mpr c2
 have c2b1 : (a0_0 != 1) = true := bne_iff_ne.mpr c2
 by_cases c7 : a0_0 = 0
 · rw [if_pos c7] at H
   have c7b0 : (a0_0 == 0) = true := beq_iff_eq.mpr c7
   have c7b1 : (a0_0 != 0) = false := bne_eq_false_iff_eq.mpr c7
   clear c7
   obtain rfl := Option.some.inj H
   go_enter Try.func27, Try.ntmps27
   go_wp2_with (first | (refine bx 1 #[.int .i64 a0_0, .int .i64 a0_1, .int .i64 a0_2, .int .i64 a0_3, .int .i64 a0_4] 34 rfl ?_; intro gb355 hg w8 hbox hb; have BK355 := am (hbox); have GW355 := am (ge hg (ph HB.out)); have GE355 := GW355; replace HB := am (below_step (ph HB.out) hb); clear hb hbox hg; obtain ⟨hcz9_0, hcz9_1, hcz9_2, hcz9_3, hcz9_4⟩ := b5 BK355.out; obtain ⟨hfz9_0, hfz9_1, hfz9_2, hfz9_3, hfz9_4⟩ := f5 BK355.out))
   go_ret
   exact (rq (bg1 HB.out GE355.out))
 rw [if_neg c7] at H
 have c7b0 : (a0_0 == 0) = false := beq_eq_false_iff_ne.mpr c7
 have c7b1 : (a0_0 != 0) = true := bne_iff_ne.mpr c7
 by_cases c10 : a0_0 = 2
 rotate_left
 · rw [if_neg c10] at H
   have c10b0 : (a0_0 == 2) = false := beq_eq_false_iff_ne.mpr c10
   have c10b1 : (a0_0 != 2) = true := bne_iff_ne.mpr c10
   obtain rfl := Option.some.inj H
   go_enter Try.func27, Try.ntmps27
   go_wp2_with (first | (refine bx 1 #[.int .i64 a0_0, .int .i64 a0_1, .int .i64 a0_2, .int .i64 a0_3, .int .i64 a0_4] 34 rfl ?_; intro gb355 hg w13 hbox hb; have BK355 := am (hbox); have GW355 := am (ge hg (ph HB.out)); have GE355 := GW355; replace HB := am (below_step (ph HB.out) hb); clear hb hbox hg; obtain ⟨hcz14_0, hcz14_1, hcz14_2, hcz14_3, hcz14_4⟩ := b5 BK355.out; obtain ⟨hfz14_0, hfz14_1, hfz14_2, hfz14_3, hfz14_4⟩ := f5 BK355.out))
   go_ret
   exact (rq (bg1 HB.out GE355.out))
 rw [if_pos c10] at H
 have c10b0 : (a0_0 == 2) = true := beq_iff_eq.mpr c10
 have c10b1 : (a0_0 != 2) = false := bne_eq_false_iff_eq.mpr c10
 clear c10
 obtain rfl := Option.some.inj H
 go_enter Try.func27, Try.ntmps27
 go_wp2_with (first | (refine bx 1 #[.int .i64 a0_0, .int .i64 a0_1, .int .i64 a0_2, .int .i64 a0_3, .int .i64 a0_4] 34 rfl ?_; intro gb355 hg w11 hbox hb; have BK355 := am (hbox); have GW355 := am (ge hg (ph HB.out)); have GE355 := GW355; replace HB := am (below_step (ph HB.out) hb); clear hb hbox hg; obtain ⟨hcz12_0, hcz12_1, hcz12_2, hcz12_3, hcz12_4⟩ := b5 BK355.out; obtain ⟨hfz12_0, hfz12_1, hfz12_2, hfz12_3, hfz12_4⟩ := f5 BK355.out))
 go_ret
 exact (rq (bg1 HB.out GE355.out))
def recOkB (a b c d : Int) : Bool := decide ((a = 1 ∨ a = 2) ∧ 1 ≤ b ∧ b ≤ 600 ∧ 1 ≤ c ∧ c ≤ 6 ∧ 0 ≤ d ∧ d ≤ 9)
def pageB (p : S34) : Bool :=
 if p.f0 = 1 then recOkB p.f1.f0 p.f1.f1 p.f1.f2 p.f1.f3
 else if p.f0 = 0 ∨ p.f0 = 2 then p.f1.f0 == 0 && (p.f1.f1 == 0 && (p.f1.f2 == 0 && (p.f1.f3 == 0))) else false
def shapeB : List S34 → Bool → Bool
 | [], _ => true
 | p :: ps, free => if free = true ∧ p.f0 ≠ 0 then false else shapeB ps (p.f0 == 0)
def blockB (b : S37) : Bool := decide ((b.f0.length : Int) = 4 ∧ 0 ≤ b.f1 ∧ b.f1 ≤ 200) && shapeB b.f0 false
def pagesB : List S34 → List Int → Option (List Int)
 | [], S => some S
 | p :: ps, S => if pageB p = true then (if p.f0 = 1 then (if p.f1.f1 ∈ S then none else pagesB ps (p.f1.f1 :: S)) else pagesB ps S) else none
def blocksB : List S37 → List Int → Bool
 | [], _ => true
 | b :: bs, S => blockB b && (match pagesB b.f0 S with | none => false | some S' => blocksB bs S')
def flashOkB (l : List S37) : Bool := decide ((l.length : Int) = 4) && blocksB l []
end Go.Proofs.Ytklmgekagoibjaa.Rv
