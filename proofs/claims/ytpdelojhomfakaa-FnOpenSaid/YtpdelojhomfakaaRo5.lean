-- printed by wip/pp/pp.py
import Derived.Test.YtpdelojhomfakaaRo0
import Derived.Test.YtpdelojhomfakaaRo4
namespace Go.Proofs.Ytpdelojhomfakaa.Ro
open Go.RowKit Go.Proofs.YtpdelojhomfakaaW.PrintWords Go.Proofs.YtpdelojhomfakaaW.PrintLast Go.Proofs.YtpdelojhomfakaaW.PrintMore
attribute [local go_sem] max2_int min2_int max_two min_two max_three min_three max_four min_four
set_option linter.unusedVariables false
set_option linter.unusedSimpArgs false
def spec_l12Room.l0 : Nat → List (S74) → Int → Int → List (S31) → List Int → Option ((List (S74)) × Int × Bool)
 | 0, _, _, _, _, _ => none
 | k + 1, x5, x8, x9, x224000, x224001 => if x9 < 4 then (if 0 ≤ x8 then (if x8 < (x224000.length : Int) then (if 0 ≤ x9 then (if x9 < (((rd_T31 x224000 x8).f0).length : Int) then ((spec_l3Live.f k x224000 ((rd_T43 ((rd_T31 x224000 x8).f0) x9).f0) ((rd_T43 ((rd_T31 x224000 x8).f0) x9).f1.f0) ((rd_T43 ((rd_T31 x224000 x8).f0) x9).f1.f1) ((rd_T43 ((rd_T31 x224000 x8).f0) x9).f1.f2) ((rd_T43 ((rd_T31 x224000 x8).f0) x9).f1.f3)).bind fun t233 => (if t233 = true then (if ((rd_T43 ((rd_T31 x224000 x8).f0) x9).f1.f0) = 1 then (if x5.length < 2199023255552 then (spec_l12Room.l0 k (x5 ++ [(⟨1, (rd_T43 ((rd_T31 x224000 x8).f0) x9).f1.f2, (rd_T43 ((rd_T31 x224000 x8).f0) x9).f1.f3, 0, (⟨0, 0, 0, 0⟩ : S41)⟩ : S74)]) x8 (wrap64 (x9 + 1)) x224000 x224001) else (none)) else (spec_l12Room.l0 k x5 x8 (wrap64 (x9 + 1)) x224000 x224001)) else (spec_l12Room.l0 k x5 x8 (wrap64 (x9 + 1)) x224000 x224001))) else (none)) else (none)) else (none)) else (none)) else (if x5.length < 2199023255552 then (if 0 ≤ x8 then (if x8 < (x224000.length : Int) then (some ((x5 ++ [(⟨2, 0, 0, x8, (⟨0, 0, 0, 0⟩ : S41)⟩ : S74)]), x8, decide (((rd_T31 x224000 x8).f1) < 200))) else (none)) else (none)) else (none))
def spec_l12Room.f (k : Nat) (l0_0 : List (S31)) (l0_1 : List Int) : Option ((List (S74)) × Int × Bool) := (some (([] : List (S74)) : List (S74))).bind fun y224 => ((spec_l3Open.f k l0_0).bind fun bt227 => (if bt227.2 = true then (some (y224, bt227.1, true)) else ((spec_l3Old.f k l0_0).bind fun t229 => (spec_l12Room.l0 k y224 t229 0 l0_0 l0_1))))
theorem spec_l12Room.mono_l : ∀ k, (∀ y0 y1 y2 y3 y4, LeO (spec_l12Room.l0 k y0 y1 y2 y3 y4) (spec_l12Room.l0 (k + 1) y0 y1 y2 y3 y4))
 | 0 => fun _ _ _ _ _ r h => by simp [spec_l12Room.l0] at h
 | k + 1 => by
  have ih0 := spec_l12Room.mono_l k
  · intro y0 y1 y2 y3 y4
    unfold spec_l12Room.l0
    repeat' first
    | (with_reducible exact ih0 _ _ _ _ _)
    | (with_reducible exact spec_l3Live.mono _ _ _ _ _ _ _)
    | (with_reducible exact spec_l3Old.mono _ _)
    | (with_reducible exact spec_l3Open.mono _ _)
    | (with_reducible exact LeO.refl _)
    | (with_reducible exact LeO.none _)
    | (with_reducible refine LeO.ite ?_ ?_)
    | (with_reducible refine LeO.bind ?_ (fun _ => ?_))
    | exact ih0 _ _ _ _ _
    | exact spec_l3Live.mono _ _ _ _ _ _ _
    | exact spec_l3Old.mono _ _
    | exact spec_l3Open.mono _ _
    | exact LeO.none _
    | refine LeO.ite ?_ ?_
    | refine LeO.bind ?_ (fun _ => ?_)
theorem spec_l12Room.mono : ∀ a0 a1 k, LeO (spec_l12Room.f k a0 a1) (spec_l12Room.f (k + 1) a0 a1) := by
 intro a0 a1 k
 have ih0 := spec_l12Room.mono_l k
 unfold spec_l12Room.f
 repeat' first
  | (with_reducible exact ih0 _ _ _ _ _)
  | (with_reducible exact spec_l3Live.mono _ _ _ _ _ _ _)
  | (with_reducible exact spec_l3Old.mono _ _)
  | (with_reducible exact spec_l3Open.mono _ _)
  | (with_reducible exact LeO.refl _)
  | (with_reducible exact LeO.none _)
  | (with_reducible refine LeO.ite ?_ ?_)
  | (with_reducible refine LeO.bind ?_ (fun _ => ?_))
  | exact ih0 _ _ _ _ _
  | exact spec_l3Live.mono _ _ _ _ _ _ _
  | exact spec_l3Old.mono _ _
  | exact spec_l3Open.mono _ _
  | exact LeO.none _
  | refine LeO.ite ?_ ?_
  | refine LeO.bind ?_ (fun _ => ?_)
def spec_l12Room.T12 : Bool × List (List Nat × List Nat) := (true, [([], []), ([], []), ([1], [1]), ([2], [2]), ([0, 3], [0, 3]), ([], []), ([], []), ([6], [6]), ([], []), ([7, 8], [7, 8]), ([9], [9]), ([10], [10]), ([11], [11]), ([4, 4, 0, 1, 2, 3, 4], [4]), ([5, 13, 0, 1, 2, 3, 4, 5, 13], [5]), ([12, 14, 0, 1, 2, 3, 4, 5, 6, 7, 8, 9, 10, 11, 12, 13, 14], [12])])
def spec_l12Room.B12 : List Nat := [0, 0, 2, 6, 15, 0, 0, 64, 0, 448, 960, 1984, 4032, 31, 8255, 32767]
theorem spec_l12Room.tab12 : rtab .any (opsOf Try.f45 12) = spec_l12Room.T12 := by kernel_rfl
theorem spec_l12Room.bits12 : waitsOk spec_l12Room.T12.2 spec_l12Room.B12 = true := by kernel_rfl
set_option maxHeartbeats 8000000 in
set_option maxRecDepth 100000 in
theorem spec_l12Room.calls (k : Nat) (A0_0 : Option Addr) (c0_0 : Nat) (l0_0 : List (S31)) (A0_1 : Option Addr) (c0_1 : Nat) (l0_1 : List Int) (r1 : List (S74)) (r2 : Int) (r3 : Bool) (w : World) (hr0_0 : Kd.C k31 w A0_0 l0_0.length l0_0) (hc0_0 : l0_0.length ≤ c0_0) (hr0_1 : Kd.C (Kd.int .i64) w A0_1 l0_1.length l0_1) (hc0_1 : l0_1.length ≤ c0_1) (h : spec_l12Room.f k l0_0 l0_1 = some (r1, r2, r3)) :
 Calls Try.prog 45 #[.agg #[.slice A0_0 l0_0.length c0_0, .slice A0_1 l0_1.length c0_1]] w fun e w' => ∃ v0_ : Value, e = .returned (.tuple #[v0_, .int .i64 r2, .bool r3]) ∧ Kd.R k74 74 w' w.heap.size (fun _ => True) v0_ r1 ∧ Below w.heap.size w w' := by
 have hu49 := Try.underlying49
 have hu43 := Try.underlying43
 have hu74 := Try.underlying74
 have HR0_0 := am hr0_0
 have HC0_0 := am hc0_0
 clear hr0_0 hc0_0
 have HR0_1 := am hr0_1
 have HC0_1 := am hc0_1
 clear hr0_1 hc0_1
 have HB := am (Below.refl w.heap.size w)
 have H : ((some (([] : List (S74)) : List (S74))).bind fun y224 => ((spec_l3Open.f k l0_0).bind fun bt227 => (if bt227.2 = true then (some (y224, bt227.1, true)) else ((spec_l3Old.f k l0_0).bind fun t229 => (spec_l12Room.l0 k y224 t229 0 l0_0 l0_1))))) = some (r1, r2, r3) := h
 clear h
 obtain ⟨y224, hy224⟩ : ∃ y_ : List (S74), y_ = (([] : List (S74))) := ⟨_, rfl⟩
 replace H : ((spec_l3Open.f k l0_0).bind fun bt227 => (if bt227.2 = true then (some (y224, bt227.1, true)) else ((spec_l3Old.f k l0_0).bind fun t229 => (spec_l12Room.l0 k y224 t229 0 l0_0 l0_1)))) = some (r1, r2, r3) := by first | (rw [hy224]; with_reducible exact H) | (have H2_ := (Option.bind_some _ _).symm.trans H; rw [hy224]; with_reducible exact H2_) | (have H2_ := (Option.bind_some _ _).symm.trans H; with_reducible exact H2_) | with_reducible exact H | (rw [hy224]; exact H) | exact H
 have Ny224 := am hy224
 clear hy224
 replace H := Option.bind_eq_some_iff.mp H
 obtain ⟨⟨t227, t228⟩, A20, H⟩ := H
 replace H : (if t228 = true then (some (y224, t227, true)) else ((spec_l3Old.f k l0_0).bind fun t229 => (spec_l12Room.l0 k y224 t229 0 l0_0 l0_1))) = some (r1, r2, r3) := H
 have A2 := am A20
 clear A20
 by_cases c3 : t228 = true
 · subst c3
   have H1 : (some (y224, t227, true)) = some (r1, r2, r3) := by rw [if_pos rfl] at H; exact H
   clear H
   have H := H1
   clear H1
   simp only [Option.some.injEq, Prod.mk.injEq] at H
   obtain ⟨rfl, rfl, rfl⟩ := H
   go_enter Try.func45, Try.ntmps45
   go_wp2_with (first | (refine bx 1 #[.slice A0_0 l0_0.length c0_0, .slice A0_1 l0_1.length c0_1] 49 rfl ?_; intro gb223 hg w4 hbox hb; have BK223 := am (hbox); have GW223 := am ((by rw [hg]; exact (below_size (ph HB.out)) : w.heap.size ≤ gb223)); have GE223 := GW223; replace HB := am (below_step (ph HB.out) hb); clear hb hbox hg) | ((with_reducible refine gate_dst (N := 11) rfl ?_); refine Kd.R_lit k74 _ 74 ?hg (N := 11) ?hd (xs := ([] : List (S74))) (inner := []) (ok := fun _ => True) (okp := fun _ => True) ?hr ?hp (fun _ hk => hk) trivial (Below.refl _ _) (Nat.le_refl _) (by simp) ?_; (case hd => rfl); (case hg => rfl); (case hr => first | (go_simp; done) | (go_simp; rfl)); (case hp => exact (Reps.none _ _)); intro v225 w5 ho6 hb hg_ hnew_; clear hg_ hnew_; (first | rw [← Ny224.out] at ho6 | (simp only [Int.reduceToNat] at ho6; rw [← Ny224.out] at ho6)); have HO226 := am (Kd.R_lower ho6 (below_size (bg1 HB.out GE223.out))); replace BK223 := am (blk_below (pb BK223.out) hb); replace HB := am (below_step (bg1 HB.out GE223.out) hb); clear hb ho6; obtain ⟨hcz7_0, hcz7_1⟩ := b2 BK223.out; obtain ⟨hfz7_0, hfz7_1⟩ := f2 BK223.out) | (refine gl 15 Try.func11 #[.slice A0_0 l0_0.length c0_0] rfl ?_; (with_reducible refine (spec_l3Open.calls k _ _ l0_0 t227 true _ ?side1 ?side2 A2.out).mono ?_); (case side1 => exact pc (Kd.C_below HR0_0.out HB.out)); (case side2 => exact HC0_0.out); rintro e w8 ⟨rfl, hb⟩; refine ⟨_, rfl, ?_⟩; replace HO226 := am (Kd.R_below (pr HO226.out) hb); replace BK223 := am (blk_below (pb BK223.out) hb); replace HB := am (below_step (bg1 HB.out GE223.out) hb); (try clear hb); (try clear hb2); (try clear hk); (try clear hi)))
   go_ret3
   exact ⟨_, rq ⟨pr HO226.out, bg1 HB.out GE223.out⟩⟩
 replace c3 := Bool.eq_false_iff.mpr c3
 subst c3
 have H1 : ((spec_l3Old.f k l0_0).bind fun t229 => (spec_l12Room.l0 k y224 t229 0 l0_0 l0_1)) = some (r1, r2, r3) := by rw [if_neg (show ¬ (false = true) by decide)] at H; exact H
 clear H
 have H := H1
 clear H1
 replace H := Option.bind_eq_some_iff.mp H
 obtain ⟨t229, A90, H⟩ := H
 replace H : (spec_l12Room.l0 k y224 t229 0 l0_0 l0_1) = some (r1, r2, r3) := H
 have A9 := am A90
 clear A90
 have H' := am H
 clear H
 go_enter Try.func45, Try.ntmps45
 go_wp2_with (first | (refine bx 1 #[.slice A0_0 l0_0.length c0_0, .slice A0_1 l0_1.length c0_1] 49 rfl ?_; intro gb223 hg w10 hbox hb; have BK223 := am (hbox); have GW223 := am ((by rw [hg]; exact (below_size (ph HB.out)) : w.heap.size ≤ gb223)); have GE223 := GW223; replace HB := am (below_step (ph HB.out) hb); clear hb hbox hg) | ((with_reducible refine gate_dst (N := 11) rfl ?_); refine Kd.R_lit k74 _ 74 ?hg (N := 11) ?hd (xs := ([] : List (S74))) (inner := []) (ok := fun _ => True) (okp := fun _ => True) ?hr ?hp (fun _ hk => hk) trivial (Below.refl _ _) (Nat.le_refl _) (by simp) ?_; (case hd => rfl); (case hg => rfl); (case hr => first | (go_simp; done) | (go_simp; rfl)); (case hp => exact (Reps.none _ _)); intro v225 w11 ho12 hb hg_ hnew_; clear hg_ hnew_; (first | rw [← Ny224.out] at ho12 | (simp only [Int.reduceToNat] at ho12; rw [← Ny224.out] at ho12)); have HO226 := am (Kd.R_lower ho12 (below_size (bg1 HB.out GE223.out))); replace BK223 := am (blk_below (pb BK223.out) hb); replace HB := am (below_step (bg1 HB.out GE223.out) hb); clear hb ho12; obtain ⟨hcz13_0, hcz13_1⟩ := b2 BK223.out; obtain ⟨hfz13_0, hfz13_1⟩ := f2 BK223.out) | (refine gl 15 Try.func11 #[.slice A0_0 l0_0.length c0_0] rfl ?_; (with_reducible refine (spec_l3Open.calls k _ _ l0_0 t227 false _ ?side1 ?side2 A2.out).mono ?_); (case side1 => exact pc (Kd.C_below HR0_0.out HB.out)); (case side2 => exact HC0_0.out); rintro e w14 ⟨rfl, hb⟩; refine ⟨_, rfl, ?_⟩; replace HO226 := am (Kd.R_below (pr HO226.out) hb); replace BK223 := am (blk_below (pb BK223.out) hb); replace HB := am (below_step (bg1 HB.out GE223.out) hb); (try clear hb); (try clear hb2); (try clear hk); (try clear hi); obtain ⟨hcz15_0, hcz15_1⟩ := b2 BK223.out; obtain ⟨hfz15_0, hfz15_1⟩ := f2 BK223.out) | (refine gl 23 Try.func49 #[.slice A0_0 l0_0.length c0_0] rfl ?_; (with_reducible refine (spec_l3Old.calls k _ _ l0_0 t229 _ ?side1 ?side2 A9.out).mono ?_); (case side1 => exact pc (Kd.C_below HR0_0.out HB.out)); (case side2 => exact HC0_0.out); rintro e w16 ⟨rfl, hb⟩; refine ⟨_, rfl, ?_⟩; replace HO226 := am (Kd.R_below (pr HO226.out) hb); replace BK223 := am (blk_below (pb BK223.out) hb); replace HB := am (below_step (bg1 HB.out GE223.out) hb); (try clear hb); (try clear hb2); (try clear hk); (try clear hi)))
 go_loopg [5, 9] k (fun kq v5 v9 w' => ∃ (x5_1 : List (S74)) (x9_1 : Int), v9 = .int .i64 x9_1 ∧ Aside0 (spec_l12Room.l0 kq x5_1 t229 x9_1 l0_0 l0_1 = some (r1, r2, r3)) ∧ Aside0 (kq ≤ k) ∧ Aside0 (Kd.R k74 74 w' w.heap.size (fun _ => True) v5 x5_1) ∧ Aside0 (w'.heap[gb223]? = some (.cells #[(.slice A0_0 l0_0.length c0_0), (.slice A0_1 l0_1.length c0_1)] 49 (0, 0))) ∧ Aside0 (Below w.heap.size w w'))
 case atStart => exact ⟨(y224), (0), rf, H', ⟨Nat.le_refl _⟩, ⟨pr HO226.out⟩, ⟨pb BK223.out⟩, ⟨bg1 HB.out GE223.out⟩⟩
 case round =>
  clear H'
  obtain ⟨x5_1, x9_1, rfl, HA, HK1, HO_5, BK223, HB⟩ := hrel
  cases gk with
  | zero => exact absurd HA.out (by simp [spec_l12Room.l0])
  | succ k1 =>
   have H := HA.out
   clear HA
   simp only [spec_l12Room.l0] at H
   by_cases c17 : x9_1 < 4
   rotate_left
   · rw [if_neg c17] at H
     have c17b0 := decide_eq_false c17
     clear c17
     by_cases c47 : x5_1.length < 2199023255552
     rotate_left
     · rw [if_neg c47] at H
       exact absurd H (by simp)
     rw [if_pos c47] at H
     have LMc47 := am c47
     clear c47
     obtain ⟨y237, hy237⟩ : ∃ y_ : List (S74), y_ = (x5_1 ++ [(⟨2, 0, 0, t229, (⟨0, 0, 0, 0⟩ : S41)⟩ : S74)]) := ⟨_, rfl⟩
     replace H : (if 0 ≤ t229 then (if t229 < (l0_0.length : Int) then (some (y237, t229, decide (((rd_T31 l0_0 t229).f1) < 200))) else (none)) else (none)) = some (r1, r2, r3) := by first | (rw [hy237]; with_reducible exact H) | (have H2_ := (Option.bind_some _ _).symm.trans H; rw [hy237]; with_reducible exact H2_) | (have H2_ := (Option.bind_some _ _).symm.trans H; with_reducible exact H2_) | with_reducible exact H | (rw [hy237]; exact H) | exact H
     have Ny237 := am hy237
     clear hy237
     by_cases c48 : 0 ≤ t229
     rotate_left
     · rw [if_neg c48] at H
       exact absurd H (by simp)
     rw [if_pos c48] at H
     have c48b0 := decide_eq_true c48
     clear c48
     by_cases c49 : t229 < (l0_0.length : Int)
     rotate_left
     · rw [if_neg c49] at H
       exact absurd H (by simp)
     rw [if_pos c49] at H
     have c49b0 := decide_eq_true c49
     clear c49
     simp only [Option.some.injEq, Prod.mk.injEq] at H
     obtain ⟨rfl, rfl, rfl⟩ := H
     try go_wp2
     replace HO_5 := am (Kd.R_drew HO_5.out)
     replace BK223 := am (blk_drew BK223.out)
     replace HB := am (below_drew1 HB.out)
     have p240 : 0 ≤ (t229 : Int) := ofb
     have q240 : t229 < (l0_0.length : Int) := ofb
     obtain ⟨ad240, A240_0, c240_0, e240, hx240_0, hx240_1, hl240_0, hi240_0⟩ := at_T31 HR0_0.out t229 p240 q240
     have hw240_1 := hx240_1
     have hw240_0 := hx240_0
     cases e240
     replace hx240_0 := up HB.out hx240_0
     replace hx240_1 := up HB.out hx240_1
     have HR240_0 := am hi240_0
     have HC240_0 := am hl240_0
     clear hi240_0 hl240_0
     replace p240 := eq_true p240
     replace q240 := eq_true q240
     refine start_ (n := 16) (S := fun w' => w'.cell? ⟨gb223, 0, none⟩ = some (.slice (some ad240) l0_0.length c0_0) ∧ w'.cell? ⟨gb223, 1, none⟩ = some (.slice A0_1 l0_1.length c0_1) ∧ w'.cell? (ad240.add ((t229).toNat * 2)) = some (.slice A240_0 ((rd_T31 l0_0 t229).f0).length c240_0) ∧ w'.cell? ⟨(ad240.add ((t229).toNat * 2)).block, (ad240.add ((t229).toNat * 2)).off + 1, none⟩ = some (.int .i64 ((rd_T31 l0_0 t229).f1))) (ds := []) #[false, false, false, false, false, false, false, false, false, false, false, false, false, false, false, false] (by kernel_rfl) rfl rfl ⟨(blk_cell BK223.out 0).trans rfl, (blk_cell BK223.out 1).trans rfl, ((HB.out.cell (World.block_lt_of_cell? w _ hw240_0)).trans hw240_0), ((HB.out.cell (World.block_lt_of_cell? w _ hw240_1)).trans hw240_1)⟩ (fun hHeld => ?_); refine with_tabW spec_l12Room.tab12 spec_l12Room.bits12 (fun HT_ HW_ => ?_)
     generalize wr.drew = w50 at HO_5 BK223 HB HR240_0 hx240_0 hx240_1 hHeld ⊢
     refine pj_ 0 57 #[true, false, false, false, false, false, false, false, false, false, false, false, false, false, false, false] rfl rfl (any_of HT_.out (by kernel_rfl)) (fun _ _ _ h => h) ?_
     refine pj_ 1 58 #[true, true, false, false, false, false, false, false, false, false, false, false, false, false, false, false] rfl rfl (any_of HT_.out (by kernel_rfl)) (fun _ _ _ h => h) ?_
     refine pj_ 2 59 #[true, true, true, false, false, false, false, false, false, false, false, false, false, false, false, false] rfl rfl (any_of HT_.out (by kernel_rfl)) (fun _ _ _ h => h) ?_
     refine pj_ 5 62 #[true, true, true, false, false, true, false, false, false, false, false, false, false, false, false, false] rfl rfl (any_of HT_.out (by kernel_rfl)) (fun _ _ _ h => h) ?_
     refine pj_ 6 63 #[true, true, true, false, false, true, true, false, false, false, false, false, false, false, false, false] rfl rfl (any_of HT_.out (by kernel_rfl)) (fun _ _ _ h => h) ?_
     refine pj_ 8 65 #[true, true, true, false, false, true, true, false, true, false, false, false, false, false, false, false] rfl rfl (any_of HT_.out (by kernel_rfl)) (fun _ _ _ h => h) ?_
     refine pm_ 7 64 #[true, true, true, false, false, true, true, true, true, false, false, false, false, false, false, false] rfl rfl (take_ofW HT_.out HW_.out (by kernel_rfl)) (fun _ _ _ h => h) hHeld ?_
     refine pj_ 9 66 #[true, true, true, false, false, true, true, true, true, true, false, false, false, false, false, false] rfl rfl (any_of HT_.out (by kernel_rfl)) (fun _ _ _ h => h) ?_
     refine pj_ 10 67 #[true, true, true, false, false, true, true, true, true, true, true, false, false, false, false, false] rfl rfl (any_of HT_.out (by kernel_rfl)) (fun _ _ _ h => h) ?_
     refine pm_ 11 68 #[true, true, true, false, false, true, true, true, true, true, true, true, false, false, false, false] rfl rfl (take_ofW HT_.out HW_.out (by kernel_rfl)) (fun _ _ _ h => h) hHeld ?_
     refine pj_ 12 69 #[true, true, true, false, false, true, true, true, true, true, true, true, true, false, false, false] rfl rfl (any_of HT_.out (by kernel_rfl)) (fun _ _ _ h => h) ?_
     refine one_ (i := 3) (N := some 60) #[true, true, true, true, false, true, true, true, true, true, true, true, true, false, false, false] rfl rfl (one_of HT_.out (by kernel_rfl)) (by decide) (fun K hK => ?_)
     refine value_ (w1 := ?_) (v := ?_) (by rfl) rfl ?_ ?_
     rotate_left 2
     · go_simp
       constructor
       · rfl
       · rfl
     refine hK.out _ _ ⟨(blk_cell (blk_alloc BK223.out _) 0).trans rfl, (blk_cell (blk_alloc BK223.out _) 1).trans rfl, (World.cell?_alloc_lt _ _ _ (World.block_lt_of_cell? _ _ (((HB.out.cell (World.block_lt_of_cell? w _ hw240_0)).trans hw240_0)))).trans (((HB.out.cell (World.block_lt_of_cell? w _ hw240_0)).trans hw240_0)), (World.cell?_alloc_lt _ _ _ (World.block_lt_of_cell? _ _ (((HB.out.cell (World.block_lt_of_cell? w _ hw240_1)).trans hw240_1)))).trans (((HB.out.cell (World.block_lt_of_cell? w _ hw240_1)).trans hw240_1))⟩ (fun hHeld => ?_)
     clear hK K
     refine norm_ (a' := ?_) ?_ ?_
     rotate_left
     · show Act.put _ (some 60) _ = _
       simp only [Act.put, List.setIfInBounds_toArray, List.set_cons_zero, List.set_cons_succ, i64_w, i32_w]
       rfl
     refine one_ (i := 4) (N := some 61) #[true, true, true, true, true, true, true, true, true, true, true, true, true, false, false, false] rfl rfl (one_of HT_.out (by kernel_rfl)) (by decide) (fun K hK => ?_)
     refine Kd.R_append_step k74 (w0 := w) w.heap.size (by rfl) (.tmp 57) (.tmp 60) 66 74 (.agg #[(.int .i64 0), (.int .i64 0), (.int .i64 0), (.int .i64 0), (.int .i64 0), (.int .i64 0), (.int .i64 0), (.int .i64 0)]) 64 rfl Try.underlying66 info74 rfl (by decide) (by omega) u5 x5_1 (⟨2, 0, 0, t229, (⟨0, 0, 0, 0⟩ : S41)⟩ : S74) [.int .i64 2, .int .i64 0, .int .i64 0, .int .i64 t229, .int .i64 0, .int .i64 0, .int .i64 0, .int .i64 0] (fun _ => True) (fun _ => False) rfl rfl ?aP (fun _ hk => hk.elim) ?aF ?aO ?aB ?aS ?aL ?_
     (case aP => exact k74_mkM _ _ _ (⟨2, 0, 0, t229, (⟨0, 0, 0, 0⟩ : S41)⟩ : S74))
     (case aB => exact (bg1 HB.out GE223.out))
     (case aF => exact (fun _ _ => trivial))
     (case aO => exact (pr HO_5.out))
     (case aS => exact (below_size (bg1 HB.out GE223.out)))
     (case aL => have := LMc47.out; omega)
     intro v238 w51 ho hb hg hat
     rw [← Ny237.out] at ho
     replace BK223 := am (blk_grown (g := gb223) (o := .cells #[.slice (some ad240) l0_0.length c0_0, .slice A0_1 l0_1.length c0_1] 49 (0, 0)) (pb BK223.out) hg (Kd.R_ne HO_5.out BK223.out (by decide)))
     replace HB := am (hb)
     have HO239 := am (ho)
     clear HO_5
     clear ho hb hg hat
     refine hK.out _ _ ⟨(blk_cell BK223.out 0).trans rfl, (blk_cell BK223.out 1).trans rfl, ((HB.out.cell (World.block_lt_of_cell? w _ hw240_0)).trans hw240_0), ((HB.out.cell (World.block_lt_of_cell? w _ hw240_1)).trans hw240_1)⟩ (fun hHeld => ?_)
     clear hK K
     refine norm_ (a' := ?_) ?_ ?_
     rotate_left
     · show Act.put _ (some 61) _ = _
       simp only [Act.put, List.setIfInBounds_toArray, List.set_cons_zero, List.set_cons_succ, i64_w, i32_w]
       rfl
     refine pj_ 13 2 #[true, true, true, true, true, true, true, true, true, true, true, true, true, true, false, false] rfl rfl (any_of HT_.out (by kernel_rfl)) (fun _ _ _ h => h) ?_
     refine pj_ 14 3 #[true, true, true, true, true, true, true, true, true, true, true, true, true, true, true, false] rfl rfl (any_of HT_.out (by kernel_rfl)) (fun _ _ _ h => h) ?_
     refine pj_ 15 4 #[true, true, true, true, true, true, true, true, true, true, true, true, true, true, true, true] rfl rfl (any_of HT_.out (by kernel_rfl)) (fun _ _ _ h => h) ?_
     refine done_ (done_of HT_.out (by kernel_rfl)) ?_
     try go_wp2
     go_ret3
     exact ⟨_, rq ⟨pr HO239.out, bg1 HB.out GE223.out⟩⟩
   rw [if_pos c17] at H
   have c17b0 := decide_eq_true c17
   clear c17
   by_cases c18 : 0 ≤ t229
   rotate_left
   · rw [if_neg c18] at H
     exact absurd H (by simp)
   rw [if_pos c18] at H
   have c18b0 := decide_eq_true c18
   clear c18
   by_cases c19 : t229 < (l0_0.length : Int)
   rotate_left
   · rw [if_neg c19] at H
     exact absurd H (by simp)
   rw [if_pos c19] at H
   have c19b0 := decide_eq_true c19
   clear c19
   by_cases c20 : 0 ≤ x9_1
   rotate_left
   · rw [if_neg c20] at H
     exact absurd H (by simp)
   rw [if_pos c20] at H
   have c20b0 := decide_eq_true c20
   clear c20
   by_cases c21 : x9_1 < (((rd_T31 l0_0 t229).f0).length : Int)
   rotate_left
   · rw [if_neg c21] at H
     exact absurd H (by simp)
   rw [if_pos c21] at H
   have c21b0 := decide_eq_true c21
   clear c21
   replace H := Option.bind_eq_some_iff.mp H
   obtain ⟨t233, A220, H⟩ := H
   replace H : (if t233 = true then (if ((rd_T43 ((rd_T31 l0_0 t229).f0) x9_1).f1.f0) = 1 then (if x5_1.length < 2199023255552 then (spec_l12Room.l0 k1 (x5_1 ++ [(⟨1, (rd_T43 ((rd_T31 l0_0 t229).f0) x9_1).f1.f2, (rd_T43 ((rd_T31 l0_0 t229).f0) x9_1).f1.f3, 0, (⟨0, 0, 0, 0⟩ : S41)⟩ : S74)]) t229 (wrap64 (x9_1 + 1)) l0_0 l0_1) else (none)) else (spec_l12Room.l0 k1 x5_1 t229 (wrap64 (x9_1 + 1)) l0_0 l0_1)) else (spec_l12Room.l0 k1 x5_1 t229 (wrap64 (x9_1 + 1)) l0_0 l0_1)) = some (r1, r2, r3) := H
   have A22 := am A220
   clear A220
   by_cases c23 : t233 = true
   rotate_left
   · replace c23 := Bool.eq_false_iff.mpr c23
     subst c23
     have H1 : (spec_l12Room.l0 k1 x5_1 t229 (wrap64 (x9_1 + 1)) l0_0 l0_1) = some (r1, r2, r3) := by rw [if_neg (show ¬ (false = true) by decide)] at H; exact H
     clear H
     have H := H1
     clear H1
     have H' := am H
     clear H
     obtain ⟨hcz41_0, hcz41_1⟩ := b2 BK223.out
     obtain ⟨hfz41_0, hfz41_1⟩ := f2 BK223.out
     have p230 : 0 ≤ (t229 : Int) := ofb
     have q230 : t229 < (l0_0.length : Int) := ofb
     obtain ⟨ad230, A230_0, c230_0, e230, hx230_0, hx230_1, hl230_0, hi230_0⟩ := at_T31 HR0_0.out t229 p230 q230
     cases e230
     replace hx230_0 := up HB.out hx230_0
     replace hx230_1 := up HB.out hx230_1
     have HR230_0 := am hi230_0
     have HC230_0 := am hl230_0
     clear hi230_0 hl230_0
     replace p230 := eq_true p230
     replace q230 := eq_true q230
     have p231 : 0 ≤ (x9_1 : Int) := ofb
     have q231 : x9_1 < (((rd_T31 l0_0 t229).f0).length : Int) := ofb
     obtain ⟨ad231, e231, hx231_0, hx231_1, hx231_2, hx231_3, hx231_4⟩ := at_T43 HR230_0.out x9_1 p231 q231
     cases e231
     replace hx231_0 := up HB.out hx231_0
     replace hx231_1 := up HB.out hx231_1
     replace hx231_2 := up HB.out hx231_2
     replace hx231_3 := up HB.out hx231_3
     replace hx231_4 := up HB.out hx231_4
     replace p231 := eq_true p231
     replace q231 := eq_true q231
     go_wp2_with (first | (refine bx 10 #[.int .i64 0, .int .i64 0, .int .i64 0, .int .i64 0, .int .i64 0] 43 rfl ?_; intro gb232 hg w42 hbox hb; replace HO_5 := am (Kd.R_below (pr HO_5.out) hb); have BK232 := am (hbox); have GW232 := am ((by rw [hg]; exact (below_size (bg1 HB.out GE223.out)) : w.heap.size ≤ gb232)); have GE232 := GW232; replace HB := am (below_step (bg1 HB.out GE223.out) hb); have NB223_232 := am ((by rw [hg]; exact Nat.ne_of_lt (blk_lt (pb BK223.out)) : gb223 ≠ gb232)); have NB232_223 := am (Ne.symm NB223_232.out); replace BK223 := am (blk_below (pb BK223.out) hb); clear hb hbox hg; have hnb43 := NB232_223.out; have hnc43 := NB223_232.out; obtain ⟨hcz44_0, hcz44_1, hcz44_2, hcz44_3, hcz44_4⟩ := b5 BK232.out; obtain ⟨hfz44_0, hfz44_1, hfz44_2, hfz44_3, hfz44_4⟩ := f5 BK232.out; obtain ⟨hcz45_0, hcz45_1⟩ := b2 BK223.out; obtain ⟨hfz45_0, hfz45_1⟩ := f2 BK223.out) | (refine gl 40 Try.func50 #[.slice (some ad230) l0_0.length c0_0, .agg #[.int .i64 ((rd_T43 ((rd_T31 l0_0 t229).f0) x9_1).f0), .int .i64 ((rd_T43 ((rd_T31 l0_0 t229).f0) x9_1).f1.f0), .int .i64 ((rd_T43 ((rd_T31 l0_0 t229).f0) x9_1).f1.f1), .int .i64 ((rd_T43 ((rd_T31 l0_0 t229).f0) x9_1).f1.f2), .int .i64 ((rd_T43 ((rd_T31 l0_0 t229).f0) x9_1).f1.f3)]] rfl ?_; (with_reducible refine (spec_l3Live.calls k1 _ _ l0_0 ((rd_T43 ((rd_T31 l0_0 t229).f0) x9_1).f0) ((rd_T43 ((rd_T31 l0_0 t229).f0) x9_1).f1.f0) ((rd_T43 ((rd_T31 l0_0 t229).f0) x9_1).f1.f1) ((rd_T43 ((rd_T31 l0_0 t229).f0) x9_1).f1.f2) ((rd_T43 ((rd_T31 l0_0 t229).f0) x9_1).f1.f3) false _ ?side1 ?side2 A22.out).mono ?_); (case side1 => exact Kd.C_below HR0_0.out (bg2 HB.out GE223.out GE232.out)); (case side2 => exact HC0_0.out); rintro e w46 ⟨rfl, hb⟩; refine ⟨_, rfl, ?_⟩; replace HO_5 := am (Kd.R_below (by (with_reducible repeat (first | apply Kd.R_alloc | apply Kd.R_drewN | apply Kd.R_drew)); exact (Kd.R_mono (Kd.R_far (p := ⟨gb232, 4, none⟩) (Kd.R_far (p := ⟨gb232, 3, none⟩) (Kd.R_far (p := ⟨gb232, 2, none⟩) (Kd.R_far (p := ⟨gb232, 1, none⟩) (Kd.R_far (p := ⟨gb232, 0, none⟩) (Kd.R_types HO_5.out BK232.out (by decide)) (fun _ hk => hk.2) (.int .i64 ((rd_T43 ((rd_T31 l0_0 t229).f0) x9_1).f0))) (fun _ hk => hk.2) (.int .i64 ((rd_T43 ((rd_T31 l0_0 t229).f0) x9_1).f1.f0))) (fun _ hk => hk.2) (.int .i64 ((rd_T43 ((rd_T31 l0_0 t229).f0) x9_1).f1.f1))) (fun _ hk => hk.2) (.int .i64 ((rd_T43 ((rd_T31 l0_0 t229).f0) x9_1).f1.f2))) (fun _ hk => hk.2) (.int .i64 ((rd_T43 ((rd_T31 l0_0 t229).f0) x9_1).f1.f3))) (fun _ h_ => h_.1))) hb); replace BK223 := am (blk_below (g := gb223) (o := .cells #[.slice (some ad230) l0_0.length c0_0, .slice A0_1 l0_1.length c0_1] 49 (0, 0)) (by (with_reducible repeat (first | refine blk_drewN ?_ _ | refine blk_drew ?_ | refine blk_alloc ?_ _)); refine blk_far ?_ NB223_232.out _; (with_reducible repeat (first | refine blk_drewN ?_ _ | refine blk_drew ?_ | refine blk_alloc ?_ _)); refine blk_far ?_ NB223_232.out _; (with_reducible repeat (first | refine blk_drewN ?_ _ | refine blk_drew ?_ | refine blk_alloc ?_ _)); refine blk_far ?_ NB223_232.out _; (with_reducible repeat (first | refine blk_drewN ?_ _ | refine blk_drew ?_ | refine blk_alloc ?_ _)); refine blk_far ?_ NB223_232.out _; (with_reducible repeat (first | refine blk_drewN ?_ _ | refine blk_drew ?_ | refine blk_alloc ?_ _)); refine blk_far ?_ NB223_232.out _; (with_reducible repeat (first | refine blk_drewN ?_ _ | refine blk_drew ?_ | refine blk_alloc ?_ _)); exact BK223.out) hb); replace BK232 := am (blk_below (g := gb232) (o := .cells #[.int .i64 ((rd_T43 ((rd_T31 l0_0 t229).f0) x9_1).f0), .int .i64 ((rd_T43 ((rd_T31 l0_0 t229).f0) x9_1).f1.f0), .int .i64 ((rd_T43 ((rd_T31 l0_0 t229).f0) x9_1).f1.f1), .int .i64 ((rd_T43 ((rd_T31 l0_0 t229).f0) x9_1).f1.f2), .int .i64 ((rd_T43 ((rd_T31 l0_0 t229).f0) x9_1).f1.f3)] 43 (0, 0)) (by (with_reducible repeat (first | refine blk_drewN ?_ _ | refine blk_drew ?_ | refine blk_alloc ?_ _)); refine blk_put (cs := #[.int .i64 ((rd_T43 ((rd_T31 l0_0 t229).f0) x9_1).f0), .int .i64 ((rd_T43 ((rd_T31 l0_0 t229).f0) x9_1).f1.f0), .int .i64 ((rd_T43 ((rd_T31 l0_0 t229).f0) x9_1).f1.f1), .int .i64 ((rd_T43 ((rd_T31 l0_0 t229).f0) x9_1).f1.f2), .int .i64 0]) ?_ 4 _ rfl; (with_reducible repeat (first | refine blk_drewN ?_ _ | refine blk_drew ?_ | refine blk_alloc ?_ _)); refine blk_put (cs := #[.int .i64 ((rd_T43 ((rd_T31 l0_0 t229).f0) x9_1).f0), .int .i64 ((rd_T43 ((rd_T31 l0_0 t229).f0) x9_1).f1.f0), .int .i64 ((rd_T43 ((rd_T31 l0_0 t229).f0) x9_1).f1.f1), .int .i64 0, .int .i64 0]) ?_ 3 _ rfl; (with_reducible repeat (first | refine blk_drewN ?_ _ | refine blk_drew ?_ | refine blk_alloc ?_ _)); refine blk_put (cs := #[.int .i64 ((rd_T43 ((rd_T31 l0_0 t229).f0) x9_1).f0), .int .i64 ((rd_T43 ((rd_T31 l0_0 t229).f0) x9_1).f1.f0), .int .i64 0, .int .i64 0, .int .i64 0]) ?_ 2 _ rfl; (with_reducible repeat (first | refine blk_drewN ?_ _ | refine blk_drew ?_ | refine blk_alloc ?_ _)); refine blk_put (cs := #[.int .i64 ((rd_T43 ((rd_T31 l0_0 t229).f0) x9_1).f0), .int .i64 0, .int .i64 0, .int .i64 0, .int .i64 0]) ?_ 1 _ rfl; (with_reducible repeat (first | refine blk_drewN ?_ _ | refine blk_drew ?_ | refine blk_alloc ?_ _)); refine blk_put (cs := #[.int .i64 0, .int .i64 0, .int .i64 0, .int .i64 0, .int .i64 0]) ?_ 0 _ rfl; (with_reducible repeat (first | refine blk_drewN ?_ _ | refine blk_drew ?_ | refine blk_alloc ?_ _)); exact BK232.out) hb); replace HB := am (below_step (bg2 HB.out GE223.out GE232.out) hb); (try clear hb); (try clear hb2); (try clear hk); (try clear hi)))
     go_roundg k1
     case measure => have := HK1.out; omega
     case rel => exact ⟨(x5_1), (wrap64 (x9_1 + 1)), rf, H', ⟨by have := HK1.out; omega⟩, ⟨pr HO_5.out⟩, ⟨pb BK223.out⟩, ⟨bg2 HB.out GE223.out GE232.out⟩⟩
   subst c23
   have H1 : (if ((rd_T43 ((rd_T31 l0_0 t229).f0) x9_1).f1.f0) = 1 then (if x5_1.length < 2199023255552 then (spec_l12Room.l0 k1 (x5_1 ++ [(⟨1, (rd_T43 ((rd_T31 l0_0 t229).f0) x9_1).f1.f2, (rd_T43 ((rd_T31 l0_0 t229).f0) x9_1).f1.f3, 0, (⟨0, 0, 0, 0⟩ : S41)⟩ : S74)]) t229 (wrap64 (x9_1 + 1)) l0_0 l0_1) else (none)) else (spec_l12Room.l0 k1 x5_1 t229 (wrap64 (x9_1 + 1)) l0_0 l0_1)) = some (r1, r2, r3) := by rw [if_pos rfl] at H; exact H
   clear H
   have H := H1
   clear H1
   by_cases c24 : ((rd_T43 ((rd_T31 l0_0 t229).f0) x9_1).f1.f0) = 1
   rotate_left
   · rw [if_neg c24] at H
     have c24b0 : (((rd_T43 ((rd_T31 l0_0 t229).f0) x9_1).f1.f0) == 1) = false := beq_eq_false_iff_ne.mpr c24
     have c24b1 : (((rd_T43 ((rd_T31 l0_0 t229).f0) x9_1).f1.f0) != 1) = true := bne_iff_ne.mpr c24
     have H' := am H
     clear H
     obtain ⟨hcz34_0, hcz34_1⟩ := b2 BK223.out
     obtain ⟨hfz34_0, hfz34_1⟩ := f2 BK223.out
     have p230 : 0 ≤ (t229 : Int) := ofb
     have q230 : t229 < (l0_0.length : Int) := ofb
     obtain ⟨ad230, A230_0, c230_0, e230, hx230_0, hx230_1, hl230_0, hi230_0⟩ := at_T31 HR0_0.out t229 p230 q230
     cases e230
     replace hx230_0 := up HB.out hx230_0
     replace hx230_1 := up HB.out hx230_1
     have HR230_0 := am hi230_0
     have HC230_0 := am hl230_0
     clear hi230_0 hl230_0
     replace p230 := eq_true p230
     replace q230 := eq_true q230
     have p231 : 0 ≤ (x9_1 : Int) := ofb
     have q231 : x9_1 < (((rd_T31 l0_0 t229).f0).length : Int) := ofb
     obtain ⟨ad231, e231, hx231_0, hx231_1, hx231_2, hx231_3, hx231_4⟩ := at_T43 HR230_0.out x9_1 p231 q231
     cases e231
     replace hx231_0 := up HB.out hx231_0
     replace hx231_1 := up HB.out hx231_1
     replace hx231_2 := up HB.out hx231_2
     replace hx231_3 := up HB.out hx231_3
     replace hx231_4 := up HB.out hx231_4
     replace p231 := eq_true p231
     replace q231 := eq_true q231
     go_wp2_with (first | (refine bx 10 #[.int .i64 0, .int .i64 0, .int .i64 0, .int .i64 0, .int .i64 0] 43 rfl ?_; intro gb232 hg w35 hbox hb; replace HO_5 := am (Kd.R_below (pr HO_5.out) hb); have BK232 := am (hbox); have GW232 := am ((by rw [hg]; exact (below_size (bg1 HB.out GE223.out)) : w.heap.size ≤ gb232)); have GE232 := GW232; replace HB := am (below_step (bg1 HB.out GE223.out) hb); have NB223_232 := am ((by rw [hg]; exact Nat.ne_of_lt (blk_lt (pb BK223.out)) : gb223 ≠ gb232)); have NB232_223 := am (Ne.symm NB223_232.out); replace BK223 := am (blk_below (pb BK223.out) hb); clear hb hbox hg; have hnb36 := NB232_223.out; have hnc36 := NB223_232.out; obtain ⟨hcz37_0, hcz37_1, hcz37_2, hcz37_3, hcz37_4⟩ := b5 BK232.out; obtain ⟨hfz37_0, hfz37_1, hfz37_2, hfz37_3, hfz37_4⟩ := f5 BK232.out; obtain ⟨hcz38_0, hcz38_1⟩ := b2 BK223.out; obtain ⟨hfz38_0, hfz38_1⟩ := f2 BK223.out) | (refine gl 40 Try.func50 #[.slice (some ad230) l0_0.length c0_0, .agg #[.int .i64 ((rd_T43 ((rd_T31 l0_0 t229).f0) x9_1).f0), .int .i64 ((rd_T43 ((rd_T31 l0_0 t229).f0) x9_1).f1.f0), .int .i64 ((rd_T43 ((rd_T31 l0_0 t229).f0) x9_1).f1.f1), .int .i64 ((rd_T43 ((rd_T31 l0_0 t229).f0) x9_1).f1.f2), .int .i64 ((rd_T43 ((rd_T31 l0_0 t229).f0) x9_1).f1.f3)]] rfl ?_; (with_reducible refine (spec_l3Live.calls k1 _ _ l0_0 ((rd_T43 ((rd_T31 l0_0 t229).f0) x9_1).f0) ((rd_T43 ((rd_T31 l0_0 t229).f0) x9_1).f1.f0) ((rd_T43 ((rd_T31 l0_0 t229).f0) x9_1).f1.f1) ((rd_T43 ((rd_T31 l0_0 t229).f0) x9_1).f1.f2) ((rd_T43 ((rd_T31 l0_0 t229).f0) x9_1).f1.f3) true _ ?side1 ?side2 A22.out).mono ?_); (case side1 => exact Kd.C_below HR0_0.out (bg2 HB.out GE223.out GE232.out)); (case side2 => exact HC0_0.out); rintro e w39 ⟨rfl, hb⟩; refine ⟨_, rfl, ?_⟩; replace HO_5 := am (Kd.R_below (by (with_reducible repeat (first | apply Kd.R_alloc | apply Kd.R_drewN | apply Kd.R_drew)); exact (Kd.R_mono (Kd.R_far (p := ⟨gb232, 4, none⟩) (Kd.R_far (p := ⟨gb232, 3, none⟩) (Kd.R_far (p := ⟨gb232, 2, none⟩) (Kd.R_far (p := ⟨gb232, 1, none⟩) (Kd.R_far (p := ⟨gb232, 0, none⟩) (Kd.R_types HO_5.out BK232.out (by decide)) (fun _ hk => hk.2) (.int .i64 ((rd_T43 ((rd_T31 l0_0 t229).f0) x9_1).f0))) (fun _ hk => hk.2) (.int .i64 ((rd_T43 ((rd_T31 l0_0 t229).f0) x9_1).f1.f0))) (fun _ hk => hk.2) (.int .i64 ((rd_T43 ((rd_T31 l0_0 t229).f0) x9_1).f1.f1))) (fun _ hk => hk.2) (.int .i64 ((rd_T43 ((rd_T31 l0_0 t229).f0) x9_1).f1.f2))) (fun _ hk => hk.2) (.int .i64 ((rd_T43 ((rd_T31 l0_0 t229).f0) x9_1).f1.f3))) (fun _ h_ => h_.1))) hb); replace BK223 := am (blk_below (g := gb223) (o := .cells #[.slice (some ad230) l0_0.length c0_0, .slice A0_1 l0_1.length c0_1] 49 (0, 0)) (by (with_reducible repeat (first | refine blk_drewN ?_ _ | refine blk_drew ?_ | refine blk_alloc ?_ _)); refine blk_far ?_ NB223_232.out _; (with_reducible repeat (first | refine blk_drewN ?_ _ | refine blk_drew ?_ | refine blk_alloc ?_ _)); refine blk_far ?_ NB223_232.out _; (with_reducible repeat (first | refine blk_drewN ?_ _ | refine blk_drew ?_ | refine blk_alloc ?_ _)); refine blk_far ?_ NB223_232.out _; (with_reducible repeat (first | refine blk_drewN ?_ _ | refine blk_drew ?_ | refine blk_alloc ?_ _)); refine blk_far ?_ NB223_232.out _; (with_reducible repeat (first | refine blk_drewN ?_ _ | refine blk_drew ?_ | refine blk_alloc ?_ _)); refine blk_far ?_ NB223_232.out _; (with_reducible repeat (first | refine blk_drewN ?_ _ | refine blk_drew ?_ | refine blk_alloc ?_ _)); exact BK223.out) hb); replace BK232 := am (blk_below (g := gb232) (o := .cells #[.int .i64 ((rd_T43 ((rd_T31 l0_0 t229).f0) x9_1).f0), .int .i64 ((rd_T43 ((rd_T31 l0_0 t229).f0) x9_1).f1.f0), .int .i64 ((rd_T43 ((rd_T31 l0_0 t229).f0) x9_1).f1.f1), .int .i64 ((rd_T43 ((rd_T31 l0_0 t229).f0) x9_1).f1.f2), .int .i64 ((rd_T43 ((rd_T31 l0_0 t229).f0) x9_1).f1.f3)] 43 (0, 0)) (by (with_reducible repeat (first | refine blk_drewN ?_ _ | refine blk_drew ?_ | refine blk_alloc ?_ _)); refine blk_put (cs := #[.int .i64 ((rd_T43 ((rd_T31 l0_0 t229).f0) x9_1).f0), .int .i64 ((rd_T43 ((rd_T31 l0_0 t229).f0) x9_1).f1.f0), .int .i64 ((rd_T43 ((rd_T31 l0_0 t229).f0) x9_1).f1.f1), .int .i64 ((rd_T43 ((rd_T31 l0_0 t229).f0) x9_1).f1.f2), .int .i64 0]) ?_ 4 _ rfl; (with_reducible repeat (first | refine blk_drewN ?_ _ | refine blk_drew ?_ | refine blk_alloc ?_ _)); refine blk_put (cs := #[.int .i64 ((rd_T43 ((rd_T31 l0_0 t229).f0) x9_1).f0), .int .i64 ((rd_T43 ((rd_T31 l0_0 t229).f0) x9_1).f1.f0), .int .i64 ((rd_T43 ((rd_T31 l0_0 t229).f0) x9_1).f1.f1), .int .i64 0, .int .i64 0]) ?_ 3 _ rfl; (with_reducible repeat (first | refine blk_drewN ?_ _ | refine blk_drew ?_ | refine blk_alloc ?_ _)); refine blk_put (cs := #[.int .i64 ((rd_T43 ((rd_T31 l0_0 t229).f0) x9_1).f0), .int .i64 ((rd_T43 ((rd_T31 l0_0 t229).f0) x9_1).f1.f0), .int .i64 0, .int .i64 0, .int .i64 0]) ?_ 2 _ rfl; (with_reducible repeat (first | refine blk_drewN ?_ _ | refine blk_drew ?_ | refine blk_alloc ?_ _)); refine blk_put (cs := #[.int .i64 ((rd_T43 ((rd_T31 l0_0 t229).f0) x9_1).f0), .int .i64 0, .int .i64 0, .int .i64 0, .int .i64 0]) ?_ 1 _ rfl; (with_reducible repeat (first | refine blk_drewN ?_ _ | refine blk_drew ?_ | refine blk_alloc ?_ _)); refine blk_put (cs := #[.int .i64 0, .int .i64 0, .int .i64 0, .int .i64 0, .int .i64 0]) ?_ 0 _ rfl; (with_reducible repeat (first | refine blk_drewN ?_ _ | refine blk_drew ?_ | refine blk_alloc ?_ _)); exact BK232.out) hb); replace HB := am (below_step (bg2 HB.out GE223.out GE232.out) hb); (try clear hb); (try clear hb2); (try clear hk); (try clear hi); have hcz40_0 : w39.cell? ⟨gb232, 0, none⟩ = some (.int .i64 ((rd_T43 ((rd_T31 l0_0 t229).f0) x9_1).f0)) := (blk_cell BK232.out 0).trans rfl; have hcz40_1 : w39.cell? ⟨gb232, 1, none⟩ = some (.int .i64 ((rd_T43 ((rd_T31 l0_0 t229).f0) x9_1).f1.f0)) := (blk_cell BK232.out 1).trans rfl; have hcz40_2 : w39.cell? ⟨gb232, 2, none⟩ = some (.int .i64 ((rd_T43 ((rd_T31 l0_0 t229).f0) x9_1).f1.f1)) := (blk_cell BK232.out 2).trans rfl; have hcz40_3 : w39.cell? ⟨gb232, 3, none⟩ = some (.int .i64 ((rd_T43 ((rd_T31 l0_0 t229).f0) x9_1).f1.f2)) := (blk_cell BK232.out 3).trans rfl; have hcz40_4 : w39.cell? ⟨gb232, 4, none⟩ = some (.int .i64 ((rd_T43 ((rd_T31 l0_0 t229).f0) x9_1).f1.f3)) := (blk_cell BK232.out 4).trans rfl; obtain ⟨hfz40_0, hfz40_1, hfz40_2, hfz40_3, hfz40_4⟩ := f5 BK232.out))
     go_roundg k1
     case measure => have := HK1.out; omega
     case rel => exact ⟨(x5_1), (wrap64 (x9_1 + 1)), rf, H', ⟨by have := HK1.out; omega⟩, ⟨pr HO_5.out⟩, ⟨pb BK223.out⟩, ⟨bg2 HB.out GE223.out GE232.out⟩⟩
   rw [if_pos c24] at H
   have c24b0 : (((rd_T43 ((rd_T31 l0_0 t229).f0) x9_1).f1.f0) == 1) = true := beq_iff_eq.mpr c24
   have c24b1 : (((rd_T43 ((rd_T31 l0_0 t229).f0) x9_1).f1.f0) != 1) = false := bne_eq_false_iff_eq.mpr c24
   clear c24
   by_cases c25 : x5_1.length < 2199023255552
   rotate_left
   · rw [if_neg c25] at H
     exact absurd H (by simp)
   rw [if_pos c25] at H
   have LMc25 := am c25
   clear c25
   obtain ⟨y234, hy234⟩ : ∃ y_ : List (S74), y_ = (x5_1 ++ [(⟨1, (rd_T43 ((rd_T31 l0_0 t229).f0) x9_1).f1.f2, (rd_T43 ((rd_T31 l0_0 t229).f0) x9_1).f1.f3, 0, (⟨0, 0, 0, 0⟩ : S41)⟩ : S74)]) := ⟨_, rfl⟩
   replace H : (spec_l12Room.l0 k1 y234 t229 (wrap64 (x9_1 + 1)) l0_0 l0_1) = some (r1, r2, r3) := by first | (rw [hy234]; with_reducible exact H) | (have H2_ := (Option.bind_some _ _).symm.trans H; rw [hy234]; with_reducible exact H2_) | (have H2_ := (Option.bind_some _ _).symm.trans H; with_reducible exact H2_) | with_reducible exact H | (rw [hy234]; exact H) | exact H
   have Ny234 := am hy234
   clear hy234
   have H' := am H
   clear H
   obtain ⟨hcz26_0, hcz26_1⟩ := b2 BK223.out
   obtain ⟨hfz26_0, hfz26_1⟩ := f2 BK223.out
   have p230 : 0 ≤ (t229 : Int) := ofb
   have q230 : t229 < (l0_0.length : Int) := ofb
   obtain ⟨ad230, A230_0, c230_0, e230, hx230_0, hx230_1, hl230_0, hi230_0⟩ := at_T31 HR0_0.out t229 p230 q230
   cases e230
   replace hx230_0 := up HB.out hx230_0
   replace hx230_1 := up HB.out hx230_1
   have HR230_0 := am hi230_0
   have HC230_0 := am hl230_0
   clear hi230_0 hl230_0
   replace p230 := eq_true p230
   replace q230 := eq_true q230
   have p231 : 0 ≤ (x9_1 : Int) := ofb
   have q231 : x9_1 < (((rd_T31 l0_0 t229).f0).length : Int) := ofb
   obtain ⟨ad231, e231, hx231_0, hx231_1, hx231_2, hx231_3, hx231_4⟩ := at_T43 HR230_0.out x9_1 p231 q231
   cases e231
   replace hx231_0 := up HB.out hx231_0
   replace hx231_1 := up HB.out hx231_1
   replace hx231_2 := up HB.out hx231_2
   replace hx231_3 := up HB.out hx231_3
   replace hx231_4 := up HB.out hx231_4
   replace p231 := eq_true p231
   replace q231 := eq_true q231
   go_wp2_with (first | (refine bx 10 #[.int .i64 0, .int .i64 0, .int .i64 0, .int .i64 0, .int .i64 0] 43 rfl ?_; intro gb232 hg w27 hbox hb; replace HO_5 := am (Kd.R_below (pr HO_5.out) hb); have BK232 := am (hbox); have GW232 := am ((by rw [hg]; exact (below_size (bg1 HB.out GE223.out)) : w.heap.size ≤ gb232)); have GE232 := GW232; replace HB := am (below_step (bg1 HB.out GE223.out) hb); have NB223_232 := am ((by rw [hg]; exact Nat.ne_of_lt (blk_lt (pb BK223.out)) : gb223 ≠ gb232)); have NB232_223 := am (Ne.symm NB223_232.out); replace BK223 := am (blk_below (pb BK223.out) hb); clear hb hbox hg; have hnb28 := NB232_223.out; have hnc28 := NB223_232.out; obtain ⟨hcz29_0, hcz29_1, hcz29_2, hcz29_3, hcz29_4⟩ := b5 BK232.out; obtain ⟨hfz29_0, hfz29_1, hfz29_2, hfz29_3, hfz29_4⟩ := f5 BK232.out; obtain ⟨hcz30_0, hcz30_1⟩ := b2 BK223.out; obtain ⟨hfz30_0, hfz30_1⟩ := f2 BK223.out) | (refine gl 40 Try.func50 #[.slice (some ad230) l0_0.length c0_0, .agg #[.int .i64 ((rd_T43 ((rd_T31 l0_0 t229).f0) x9_1).f0), .int .i64 ((rd_T43 ((rd_T31 l0_0 t229).f0) x9_1).f1.f0), .int .i64 ((rd_T43 ((rd_T31 l0_0 t229).f0) x9_1).f1.f1), .int .i64 ((rd_T43 ((rd_T31 l0_0 t229).f0) x9_1).f1.f2), .int .i64 ((rd_T43 ((rd_T31 l0_0 t229).f0) x9_1).f1.f3)]] rfl ?_; (with_reducible refine (spec_l3Live.calls k1 _ _ l0_0 ((rd_T43 ((rd_T31 l0_0 t229).f0) x9_1).f0) ((rd_T43 ((rd_T31 l0_0 t229).f0) x9_1).f1.f0) ((rd_T43 ((rd_T31 l0_0 t229).f0) x9_1).f1.f1) ((rd_T43 ((rd_T31 l0_0 t229).f0) x9_1).f1.f2) ((rd_T43 ((rd_T31 l0_0 t229).f0) x9_1).f1.f3) true _ ?side1 ?side2 A22.out).mono ?_); (case side1 => exact Kd.C_below HR0_0.out (bg2 HB.out GE223.out GE232.out)); (case side2 => exact HC0_0.out); rintro e w31 ⟨rfl, hb⟩; refine ⟨_, rfl, ?_⟩; replace HO_5 := am (Kd.R_below (by (with_reducible repeat (first | apply Kd.R_alloc | apply Kd.R_drewN | apply Kd.R_drew)); exact (Kd.R_mono (Kd.R_far (p := ⟨gb232, 4, none⟩) (Kd.R_far (p := ⟨gb232, 3, none⟩) (Kd.R_far (p := ⟨gb232, 2, none⟩) (Kd.R_far (p := ⟨gb232, 1, none⟩) (Kd.R_far (p := ⟨gb232, 0, none⟩) (Kd.R_types HO_5.out BK232.out (by decide)) (fun _ hk => hk.2) (.int .i64 ((rd_T43 ((rd_T31 l0_0 t229).f0) x9_1).f0))) (fun _ hk => hk.2) (.int .i64 ((rd_T43 ((rd_T31 l0_0 t229).f0) x9_1).f1.f0))) (fun _ hk => hk.2) (.int .i64 ((rd_T43 ((rd_T31 l0_0 t229).f0) x9_1).f1.f1))) (fun _ hk => hk.2) (.int .i64 ((rd_T43 ((rd_T31 l0_0 t229).f0) x9_1).f1.f2))) (fun _ hk => hk.2) (.int .i64 ((rd_T43 ((rd_T31 l0_0 t229).f0) x9_1).f1.f3))) (fun _ h_ => h_.1))) hb); replace BK223 := am (blk_below (g := gb223) (o := .cells #[.slice (some ad230) l0_0.length c0_0, .slice A0_1 l0_1.length c0_1] 49 (0, 0)) (by (with_reducible repeat (first | refine blk_drewN ?_ _ | refine blk_drew ?_ | refine blk_alloc ?_ _)); refine blk_far ?_ NB223_232.out _; (with_reducible repeat (first | refine blk_drewN ?_ _ | refine blk_drew ?_ | refine blk_alloc ?_ _)); refine blk_far ?_ NB223_232.out _; (with_reducible repeat (first | refine blk_drewN ?_ _ | refine blk_drew ?_ | refine blk_alloc ?_ _)); refine blk_far ?_ NB223_232.out _; (with_reducible repeat (first | refine blk_drewN ?_ _ | refine blk_drew ?_ | refine blk_alloc ?_ _)); refine blk_far ?_ NB223_232.out _; (with_reducible repeat (first | refine blk_drewN ?_ _ | refine blk_drew ?_ | refine blk_alloc ?_ _)); refine blk_far ?_ NB223_232.out _; (with_reducible repeat (first | refine blk_drewN ?_ _ | refine blk_drew ?_ | refine blk_alloc ?_ _)); exact BK223.out) hb); replace BK232 := am (blk_below (g := gb232) (o := .cells #[.int .i64 ((rd_T43 ((rd_T31 l0_0 t229).f0) x9_1).f0), .int .i64 ((rd_T43 ((rd_T31 l0_0 t229).f0) x9_1).f1.f0), .int .i64 ((rd_T43 ((rd_T31 l0_0 t229).f0) x9_1).f1.f1), .int .i64 ((rd_T43 ((rd_T31 l0_0 t229).f0) x9_1).f1.f2), .int .i64 ((rd_T43 ((rd_T31 l0_0 t229).f0) x9_1).f1.f3)] 43 (0, 0)) (by (with_reducible repeat (first | refine blk_drewN ?_ _ | refine blk_drew ?_ | refine blk_alloc ?_ _)); refine blk_put (cs := #[.int .i64 ((rd_T43 ((rd_T31 l0_0 t229).f0) x9_1).f0), .int .i64 ((rd_T43 ((rd_T31 l0_0 t229).f0) x9_1).f1.f0), .int .i64 ((rd_T43 ((rd_T31 l0_0 t229).f0) x9_1).f1.f1), .int .i64 ((rd_T43 ((rd_T31 l0_0 t229).f0) x9_1).f1.f2), .int .i64 0]) ?_ 4 _ rfl; (with_reducible repeat (first | refine blk_drewN ?_ _ | refine blk_drew ?_ | refine blk_alloc ?_ _)); refine blk_put (cs := #[.int .i64 ((rd_T43 ((rd_T31 l0_0 t229).f0) x9_1).f0), .int .i64 ((rd_T43 ((rd_T31 l0_0 t229).f0) x9_1).f1.f0), .int .i64 ((rd_T43 ((rd_T31 l0_0 t229).f0) x9_1).f1.f1), .int .i64 0, .int .i64 0]) ?_ 3 _ rfl; (with_reducible repeat (first | refine blk_drewN ?_ _ | refine blk_drew ?_ | refine blk_alloc ?_ _)); refine blk_put (cs := #[.int .i64 ((rd_T43 ((rd_T31 l0_0 t229).f0) x9_1).f0), .int .i64 ((rd_T43 ((rd_T31 l0_0 t229).f0) x9_1).f1.f0), .int .i64 0, .int .i64 0, .int .i64 0]) ?_ 2 _ rfl; (with_reducible repeat (first | refine blk_drewN ?_ _ | refine blk_drew ?_ | refine blk_alloc ?_ _)); refine blk_put (cs := #[.int .i64 ((rd_T43 ((rd_T31 l0_0 t229).f0) x9_1).f0), .int .i64 0, .int .i64 0, .int .i64 0, .int .i64 0]) ?_ 1 _ rfl; (with_reducible repeat (first | refine blk_drewN ?_ _ | refine blk_drew ?_ | refine blk_alloc ?_ _)); refine blk_put (cs := #[.int .i64 0, .int .i64 0, .int .i64 0, .int .i64 0, .int .i64 0]) ?_ 0 _ rfl; (with_reducible repeat (first | refine blk_drewN ?_ _ | refine blk_drew ?_ | refine blk_alloc ?_ _)); exact BK232.out) hb); replace HB := am (below_step (bg2 HB.out GE223.out GE232.out) hb); (try clear hb); (try clear hb2); (try clear hk); (try clear hi); have hcz32_0 : w31.cell? ⟨gb232, 0, none⟩ = some (.int .i64 ((rd_T43 ((rd_T31 l0_0 t229).f0) x9_1).f0)) := (blk_cell BK232.out 0).trans rfl; have hcz32_1 : w31.cell? ⟨gb232, 1, none⟩ = some (.int .i64 ((rd_T43 ((rd_T31 l0_0 t229).f0) x9_1).f1.f0)) := (blk_cell BK232.out 1).trans rfl; have hcz32_2 : w31.cell? ⟨gb232, 2, none⟩ = some (.int .i64 ((rd_T43 ((rd_T31 l0_0 t229).f0) x9_1).f1.f1)) := (blk_cell BK232.out 2).trans rfl; have hcz32_3 : w31.cell? ⟨gb232, 3, none⟩ = some (.int .i64 ((rd_T43 ((rd_T31 l0_0 t229).f0) x9_1).f1.f2)) := (blk_cell BK232.out 3).trans rfl; have hcz32_4 : w31.cell? ⟨gb232, 4, none⟩ = some (.int .i64 ((rd_T43 ((rd_T31 l0_0 t229).f0) x9_1).f1.f3)) := (blk_cell BK232.out 4).trans rfl; obtain ⟨hfz32_0, hfz32_1, hfz32_2, hfz32_3, hfz32_4⟩ := f5 BK232.out) | ((with_reducible refine gate_builtin (b := .append) (xs := #[.tmp 47, .tmp 55]) rfl ?_); at_builtin; refine Kd.R_append k74 (w0 := w) w.heap.size rfl (.tmp 47) (.tmp 55) 66 74 (.agg #[(.int .i64 0), (.int .i64 0), (.int .i64 0), (.int .i64 0), (.int .i64 0), (.int .i64 0), (.int .i64 0), (.int .i64 0)]) 64 rfl Try.underlying66 info74 rfl (by decide) (by omega) u5 x5_1 (⟨1, (rd_T43 ((rd_T31 l0_0 t229).f0) x9_1).f1.f2, (rd_T43 ((rd_T31 l0_0 t229).f0) x9_1).f1.f3, 0, (⟨0, 0, 0, 0⟩ : S41)⟩ : S74) [.int .i64 1, .int .i64 ((rd_T43 ((rd_T31 l0_0 t229).f0) x9_1).f1.f2), .int .i64 ((rd_T43 ((rd_T31 l0_0 t229).f0) x9_1).f1.f3), .int .i64 0, .int .i64 0, .int .i64 0, .int .i64 0, .int .i64 0] (fun _ => True) (fun _ => False) rfl rfl ?aP (fun _ hk => hk.elim) ?aF ?aO ?aB ?aS ?aL ?_; (case aP => exact k74_mkM _ _ _ (⟨1, (rd_T43 ((rd_T31 l0_0 t229).f0) x9_1).f1.f2, (rd_T43 ((rd_T31 l0_0 t229).f0) x9_1).f1.f3, 0, (⟨0, 0, 0, 0⟩ : S41)⟩ : S74)); (case aB => exact (bg2 HB.out GE223.out GE232.out)); (case aF => exact (fun _ _ => trivial)); (case aO => exact (pr HO_5.out)); (case aS => exact (below_size (bg2 HB.out GE223.out GE232.out))); (case aL => have := LMc25.out; omega); intro v235 w33 ho hb hg hat; rw [← Ny234.out] at ho; replace BK223 := am (blk_grown (g := gb223) (o := .cells #[.slice (some ad230) l0_0.length c0_0, .slice A0_1 l0_1.length c0_1] 49 (0, 0)) (pb BK223.out) hg (Kd.R_ne HO_5.out BK223.out (by decide))); replace BK232 := am (blk_grown (g := gb232) (o := .cells #[.int .i64 ((rd_T43 ((rd_T31 l0_0 t229).f0) x9_1).f0), .int .i64 ((rd_T43 ((rd_T31 l0_0 t229).f0) x9_1).f1.f0), .int .i64 ((rd_T43 ((rd_T31 l0_0 t229).f0) x9_1).f1.f1), .int .i64 ((rd_T43 ((rd_T31 l0_0 t229).f0) x9_1).f1.f2), .int .i64 ((rd_T43 ((rd_T31 l0_0 t229).f0) x9_1).f1.f3)] 43 (0, 0)) (pb BK232.out) hg (Kd.R_ne HO_5.out BK232.out (by decide))); replace HB := am (hb); have HO236 := am (ho); clear HO_5; clear ho hb hg hat))
   go_roundg k1
   case measure => have := HK1.out; omega
   case rel => exact ⟨(y234), (wrap64 (x9_1 + 1)), rf, H', ⟨by have := HK1.out; omega⟩, ⟨pr HO236.out⟩, ⟨pb BK223.out⟩, ⟨bg2 HB.out GE223.out GE232.out⟩⟩
end Go.Proofs.Ytpdelojhomfakaa.Ro
