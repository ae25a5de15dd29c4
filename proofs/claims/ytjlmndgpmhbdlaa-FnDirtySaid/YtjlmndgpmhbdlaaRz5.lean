-- printed by wip/pp/pp.py
import Derived.Test.YtjlmndgpmhbdlaaRz0
import Derived.Test.YtjlmndgpmhbdlaaRz4
namespace Go.Proofs.Ytjlmndgpmhbdlaa.Rz
open Go.RowKit Go.Proofs.YtjlmndgpmhbdlaaW.PrintWords Go.Proofs.YtjlmndgpmhbdlaaW.PrintLast Go.Proofs.YtjlmndgpmhbdlaaW.PrintMore
attribute [local go_sem] max2_int min2_int max_two min_two max_three min_three max_four min_four
set_option linter.unusedVariables false
set_option linter.unusedSimpArgs false
def spec_l12Room.l0 : Nat → List (S93) → Int → Int → List (S62) → List Int → Option ((List (S93)) × Int × Bool)
 | 0, _, _, _, _, _ => none
 | k + 1, x5, x8, x9, x203000, x203001 => if x9 < 4 then (if 0 ≤ x8 then (if x8 < (x203000.length : Int) then (if 0 ≤ x9 then (if x9 < (((rd_T62 x203000 x8).f0).length : Int) then ((spec_l3Live.f k x203000 ((rd_T54 ((rd_T62 x203000 x8).f0) x9).f0) ((rd_T54 ((rd_T62 x203000 x8).f0) x9).f1.f0) ((rd_T54 ((rd_T62 x203000 x8).f0) x9).f1.f1) ((rd_T54 ((rd_T62 x203000 x8).f0) x9).f1.f2) ((rd_T54 ((rd_T62 x203000 x8).f0) x9).f1.f3)).bind fun t212 => (if t212 = true then (if ((rd_T54 ((rd_T62 x203000 x8).f0) x9).f1.f0) = 1 then (if x5.length < 2199023255552 then (spec_l12Room.l0 k (x5 ++ [(⟨1, (rd_T54 ((rd_T62 x203000 x8).f0) x9).f1.f2, (rd_T54 ((rd_T62 x203000 x8).f0) x9).f1.f3, 0, (⟨0, 0, 0, 0⟩ : S32)⟩ : S93)]) x8 (wrap64 (x9 + 1)) x203000 x203001) else (none)) else (spec_l12Room.l0 k x5 x8 (wrap64 (x9 + 1)) x203000 x203001)) else (spec_l12Room.l0 k x5 x8 (wrap64 (x9 + 1)) x203000 x203001))) else (none)) else (none)) else (none)) else (none)) else (if x5.length < 2199023255552 then (if 0 ≤ x8 then (if x8 < (x203000.length : Int) then (some ((x5 ++ [(⟨2, 0, 0, x8, (⟨0, 0, 0, 0⟩ : S32)⟩ : S93)]), x8, decide (((rd_T62 x203000 x8).f1) < 200))) else (none)) else (none)) else (none))
def spec_l12Room.f (k : Nat) (l0_0 : List (S62)) (l0_1 : List Int) : Option ((List (S93)) × Int × Bool) := (some (([] : List (S93)) : List (S93))).bind fun y203 => ((spec_l3Open.f k l0_0).bind fun bt206 => (if bt206.2 = true then (some (y203, bt206.1, true)) else ((spec_l3Old.f k l0_0).bind fun t208 => (spec_l12Room.l0 k y203 t208 0 l0_0 l0_1))))
theorem spec_l12Room.mono_l : ∀ k, (∀ y0 y1 y2 y3 y4, LeO (spec_l12Room.l0 k y0 y1 y2 y3 y4) (spec_l12Room.l0 (k + 1) y0 y1 y2 y3 y4))
 | 0 => fun _ _ _ _ _ r h => by simp [spec_l12Room.l0] at h
 | k + 1 => by
  have ih0 := spec_l12Room.mono_l k
  · intro y0 y1 y2 y3 y4
    unfold spec_l12Room.l0
    with_reducible repeat' first | exact ih0 _ _ _ _ _ | exact spec_l3Live.mono _ _ _ _ _ _ _ | exact spec_l3Old.mono _ _ | exact spec_l3Open.mono _ _ | exact LeO.refl _ | exact LeO.none _ | refine LeO.ite ?_ ?_ | refine LeO.bind ?_ (fun _ => ?_)
theorem spec_l12Room.mono : ∀ a0 a1 k, LeO (spec_l12Room.f k a0 a1) (spec_l12Room.f (k + 1) a0 a1) := by
 intro a0 a1 k
 have ih0 := spec_l12Room.mono_l k
 unfold spec_l12Room.f
 with_reducible repeat' first | exact ih0 _ _ _ _ _ | exact spec_l3Live.mono _ _ _ _ _ _ _ | exact spec_l3Old.mono _ _ | exact spec_l3Open.mono _ _ | exact LeO.refl _ | exact LeO.none _ | refine LeO.ite ?_ ?_ | refine LeO.bind ?_ (fun _ => ?_)
def spec_l12Room.T12 : Bool × List (List Nat × List Nat) := (true, [([], []), ([], []), ([1], [1]), ([2], [2]), ([0, 3], [0, 3]), ([], []), ([], []), ([6], [6]), ([], []), ([7, 8], [7, 8]), ([9], [9]), ([10], [10]), ([11], [11]), ([4, 4, 0, 1, 2, 3, 4], [4]), ([5, 13, 0, 1, 2, 3, 4, 5, 13], [5]), ([12, 14, 0, 1, 2, 3, 4, 5, 6, 7, 8, 9, 10, 11, 12, 13, 14], [12])])
def spec_l12Room.B12 : List Nat := [0, 0, 2, 6, 15, 0, 0, 64, 0, 448, 960, 1984, 4032, 31, 8255, 32767]
theorem spec_l12Room.tab12 : rtab .any (opsOf Try.f58 12) = spec_l12Room.T12 := by kernel_rfl
theorem spec_l12Room.bits12 : waitsOk spec_l12Room.T12.2 spec_l12Room.B12 = true := by kernel_rfl
set_option maxHeartbeats 8000000 in
set_option maxRecDepth 100000 in
theorem spec_l12Room.calls (k : Nat) (A0_0 : Option Addr) (c0_0 : Nat) (l0_0 : List (S62)) (A0_1 : Option Addr) (c0_1 : Nat) (l0_1 : List Int) (r1 : List (S93)) (r2 : Int) (r3 : Bool) (w : World) (hr0_0 : Kd.C k62 w A0_0 l0_0.length l0_0) (hc0_0 : l0_0.length ≤ c0_0) (hr0_1 : Kd.C (Kd.int .i64) w A0_1 l0_1.length l0_1) (hc0_1 : l0_1.length ≤ c0_1) (h : spec_l12Room.f k l0_0 l0_1 = some (r1, r2, r3)) :
 Calls Try.prog 58 #[.agg #[.slice A0_0 l0_0.length c0_0, .slice A0_1 l0_1.length c0_1]] w fun e w' => ∃ v0_ : Value, e = .returned (.tuple #[v0_, .int .i64 r2, .bool r3]) ∧ Kd.R k93 93 w' w.heap.size (fun _ => True) v0_ r1 ∧ Below w.heap.size w w' := by
 have hu26 := Try.underlying26
 have hu54 := Try.underlying54
 have hu93 := Try.underlying93
 have HR0_0 := am hr0_0
 have HC0_0 := am hc0_0
 clear hr0_0 hc0_0
 have HR0_1 := am hr0_1
 have HC0_1 := am hc0_1
 clear hr0_1 hc0_1
 have HB := am (Below.refl w.heap.size w)
 have H : ((some (([] : List (S93)) : List (S93))).bind fun y203 => ((spec_l3Open.f k l0_0).bind fun bt206 => (if bt206.2 = true then (some (y203, bt206.1, true)) else ((spec_l3Old.f k l0_0).bind fun t208 => (spec_l12Room.l0 k y203 t208 0 l0_0 l0_1))))) = some (r1, r2, r3) := h
 clear h
 obtain ⟨y203, hy203⟩ : ∃ y_ : List (S93), y_ = (([] : List (S93))) := ⟨_, rfl⟩
 replace H : ((spec_l3Open.f k l0_0).bind fun bt206 => (if bt206.2 = true then (some (y203, bt206.1, true)) else ((spec_l3Old.f k l0_0).bind fun t208 => (spec_l12Room.l0 k y203 t208 0 l0_0 l0_1)))) = some (r1, r2, r3) := by first | (rw [hy203]; with_reducible exact H) | (have H2_ := (Option.bind_some _ _).symm.trans H; rw [hy203]; with_reducible exact H2_) | (have H2_ := (Option.bind_some _ _).symm.trans H; with_reducible exact H2_) | with_reducible exact H | (rw [hy203]; exact H) | exact H
 have Ny203 := am hy203
 clear hy203
 replace H := Option.bind_eq_some_iff.mp H
 obtain ⟨⟨t206, t207⟩, A20, H⟩ := H
 have A2 := am A20
 clear A20
 by_cases c3 : t207 = true
 · subst c3
   rw [if_pos rfl] at H
   simp only [Option.some.injEq, Prod.mk.injEq] at H
   obtain ⟨rfl, rfl, rfl⟩ := H
   go_enter Try.func58, Try.ntmps58
   go_wp2_with (first | (refine bx 1 #[.slice A0_0 l0_0.length c0_0, .slice A0_1 l0_1.length c0_1] 26 rfl ?_; intro gb202 hg w4 hbox hb; have BK202 := am (hbox); have GW202 := am (ge hg (ph HB.out)); have GE202 := GW202; replace HB := am (below_step (ph HB.out) hb); clear hb hbox hg) | ((with_reducible refine gate_dst (N := 11) rfl ?_); refine Kd.R_lit k93 _ 93 ?hg (N := 11) ?hd (xs := ([] : List (S93))) (inner := []) (ok := fun _ => True) (okp := fun _ => True) ?hr ?hp (fun _ hk => hk) trivial (Below.refl _ _) (Nat.le_refl _) (by simp) ?_; (case hd => rfl); (case hg => rfl); (case hr => first | (go_simp; done) | (go_simp; rfl)); (case hp => exact (Reps.none _ _)); intro v204 w5 ho6 hb hg_ hnew_; clear hg_ hnew_; (first | rw [← Ny203.out] at ho6 | (simp only [Int.reduceToNat] at ho6; rw [← Ny203.out] at ho6)); have HO205 := am (Kd.R_lower ho6 (below_size (bg1 HB.out GE202.out))); replace BK202 := am (blk_below (pb BK202.out) hb); replace HB := am (below_step (bg1 HB.out GE202.out) hb); clear hb ho6; obtain ⟨hcz7_0, hcz7_1⟩ := b2 BK202.out; obtain ⟨hfz7_0, hfz7_1⟩ := f2 BK202.out) | (refine gl 15 Try.func60 #[.slice A0_0 l0_0.length c0_0] rfl ?_; (with_reducible refine (spec_l3Open.calls k _ _ l0_0 t206 true _ ?side1 ?side2 A2.out).mono ?_); (case side1 => exact pc (Kd.C_below HR0_0.out HB.out)); (case side2 => exact HC0_0.out); rintro e w8 ⟨rfl, hb⟩; refine ⟨_, rfl, ?_⟩; replace HO205 := am (Kd.R_below (pr HO205.out) hb); replace BK202 := am (blk_below (pb BK202.out) hb); replace HB := am (below_step (bg1 HB.out GE202.out) hb); (try clear hb); (try clear hb2); (try clear hk); (try clear hi)))
   go_ret3
   exact ⟨_, rq ⟨pr HO205.out, bg1 HB.out GE202.out⟩⟩
 replace c3 := Bool.eq_false_iff.mpr c3
 subst c3
 rw [if_neg (show ¬ (false = true) by decide)] at H
 replace H := Option.bind_eq_some_iff.mp H
 obtain ⟨t208, A90, H⟩ := H
 have A9 := am A90
 clear A90
 have H' := am H
 clear H
 go_enter Try.func58, Try.ntmps58
 go_wp2_with (first | (refine bx 1 #[.slice A0_0 l0_0.length c0_0, .slice A0_1 l0_1.length c0_1] 26 rfl ?_; intro gb202 hg w10 hbox hb; have BK202 := am (hbox); have GW202 := am (ge hg (ph HB.out)); have GE202 := GW202; replace HB := am (below_step (ph HB.out) hb); clear hb hbox hg) | ((with_reducible refine gate_dst (N := 11) rfl ?_); refine Kd.R_lit k93 _ 93 ?hg (N := 11) ?hd (xs := ([] : List (S93))) (inner := []) (ok := fun _ => True) (okp := fun _ => True) ?hr ?hp (fun _ hk => hk) trivial (Below.refl _ _) (Nat.le_refl _) (by simp) ?_; (case hd => rfl); (case hg => rfl); (case hr => first | (go_simp; done) | (go_simp; rfl)); (case hp => exact (Reps.none _ _)); intro v204 w11 ho12 hb hg_ hnew_; clear hg_ hnew_; (first | rw [← Ny203.out] at ho12 | (simp only [Int.reduceToNat] at ho12; rw [← Ny203.out] at ho12)); have HO205 := am (Kd.R_lower ho12 (below_size (bg1 HB.out GE202.out))); replace BK202 := am (blk_below (pb BK202.out) hb); replace HB := am (below_step (bg1 HB.out GE202.out) hb); clear hb ho12; obtain ⟨hcz13_0, hcz13_1⟩ := b2 BK202.out; obtain ⟨hfz13_0, hfz13_1⟩ := f2 BK202.out) | (refine gl 15 Try.func60 #[.slice A0_0 l0_0.length c0_0] rfl ?_; (with_reducible refine (spec_l3Open.calls k _ _ l0_0 t206 false _ ?side1 ?side2 A2.out).mono ?_); (case side1 => exact pc (Kd.C_below HR0_0.out HB.out)); (case side2 => exact HC0_0.out); rintro e w14 ⟨rfl, hb⟩; refine ⟨_, rfl, ?_⟩; replace HO205 := am (Kd.R_below (pr HO205.out) hb); replace BK202 := am (blk_below (pb BK202.out) hb); replace HB := am (below_step (bg1 HB.out GE202.out) hb); (try clear hb); (try clear hb2); (try clear hk); (try clear hi); obtain ⟨hcz15_0, hcz15_1⟩ := b2 BK202.out; obtain ⟨hfz15_0, hfz15_1⟩ := f2 BK202.out) | (refine gl 23 Try.func61 #[.slice A0_0 l0_0.length c0_0] rfl ?_; (with_reducible refine (spec_l3Old.calls k _ _ l0_0 t208 _ ?side1 ?side2 A9.out).mono ?_); (case side1 => exact pc (Kd.C_below HR0_0.out HB.out)); (case side2 => exact HC0_0.out); rintro e w16 ⟨rfl, hb⟩; refine ⟨_, rfl, ?_⟩; replace HO205 := am (Kd.R_below (pr HO205.out) hb); replace BK202 := am (blk_below (pb BK202.out) hb); replace HB := am (below_step (bg1 HB.out GE202.out) hb); (try clear hb); (try clear hb2); (try clear hk); (try clear hi)))
 go_loopg [5, 9] k (fun kq v5 v9 w' => ∃ (x5_1 : List (S93)) (x9_1 : Int), v9 = .int .i64 x9_1 ∧ Aside0 (spec_l12Room.l0 kq x5_1 t208 x9_1 l0_0 l0_1 = some (r1, r2, r3)) ∧ Aside0 (kq ≤ k) ∧ Aside0 (Kd.R k93 93 w' w.heap.size (fun _ => True) v5 x5_1) ∧ Aside0 (w'.heap[gb202]? = some (.cells #[(.slice A0_0 l0_0.length c0_0), (.slice A0_1 l0_1.length c0_1)] 26 (0, 0))) ∧ Aside0 (Below w.heap.size w w'))
 case atStart => exact ⟨(y203), (0), rf, H', ⟨Nat.le_refl _⟩, ⟨pr HO205.out⟩, ⟨pb BK202.out⟩, ⟨bg1 HB.out GE202.out⟩⟩
 case round =>
  clear H'
  obtain ⟨x5_1, x9_1, rfl, HA, HK1, HO_5, BK202, HB⟩ := hrel
  cases gk with
  | zero => exact absurd HA.out (by simp [spec_l12Room.l0])
  | succ k1 =>
   have H := HA.out
   clear HA
   simp only [spec_l12Room.l0] at H
   by_cases c17 : x9_1 < 4
   rotate_left
   · rw [if_neg c17] at H
     have c17b0 := decide_eq_false c17
     clear c17
     by_cases c47 : x5_1.length < 2199023255552
     rotate_left
     · rw [if_neg c47] at H
       exact absurd H (by simp)
     rw [if_pos c47] at H
     have LMc47 := am c47
     clear c47
     obtain ⟨y216, hy216⟩ : ∃ y_ : List (S93), y_ = (x5_1 ++ [(⟨2, 0, 0, t208, (⟨0, 0, 0, 0⟩ : S32)⟩ : S93)]) := ⟨_, rfl⟩
     replace H : (if 0 ≤ t208 then (if t208 < (l0_0.length : Int) then (some (y216, t208, decide (((rd_T62 l0_0 t208).f1) < 200))) else (none)) else (none)) = some (r1, r2, r3) := by first | (rw [hy216]; with_reducible exact H) | (have H2_ := (Option.bind_some _ _).symm.trans H; rw [hy216]; with_reducible exact H2_) | (have H2_ := (Option.bind_some _ _).symm.trans H; with_reducible exact H2_) | with_reducible exact H | (rw [hy216]; exact H) | exact H
     have Ny216 := am hy216
     clear hy216
     by_cases c48 : 0 ≤ t208
     rotate_left
     · rw [if_neg c48] at H
       exact absurd H (by simp)
     rw [if_pos c48] at H
     have c48b0 := decide_eq_true c48
     clear c48
     by_cases c49 : t208 < (l0_0.length : Int)
     rotate_left
     · rw [if_neg c49] at H
       exact absurd H (by simp)
     rw [if_pos c49] at H
     have c49b0 := decide_eq_true c49
     clear c49
     simp only [Option.some.injEq, Prod.mk.injEq] at H
     obtain ⟨rfl, rfl, rfl⟩ := H
     try go_wp2
     replace HO_5 := am (Kd.R_drew HO_5.out)
     replace BK202 := am (blk_drew BK202.out)
     replace HB := am (below_drew1 HB.out)
     have p219 : 0 ≤ (t208 : Int) := ofb
     have q219 : t208 < (l0_0.length : Int) := ofb
     obtain ⟨ad219, A219_0, c219_0, e219, hx219_0, hx219_1, hl219_0, hi219_0⟩ := at_T62 HR0_0.out t208 p219 q219
     have hw219_1 := hx219_1
     have hw219_0 := hx219_0
     cases e219
     replace hx219_0 := up HB.out hx219_0
     replace hx219_1 := up HB.out hx219_1
     have HR219_0 := am hi219_0
     have HC219_0 := am hl219_0
     clear hi219_0 hl219_0
     replace p219 := eq_true p219
     replace q219 := eq_true q219
     refine start_ (n := 16) (S := fun w' => w'.cell? ⟨gb202, 0, none⟩ = some (.slice (some ad219) l0_0.length c0_0) ∧ w'.cell? ⟨gb202, 1, none⟩ = some (.slice A0_1 l0_1.length c0_1) ∧ w'.cell? (ad219.add ((t208).toNat * 2)) = some (.slice A219_0 ((rd_T62 l0_0 t208).f0).length c219_0) ∧ w'.cell? ⟨(ad219.add ((t208).toNat * 2)).block, (ad219.add ((t208).toNat * 2)).off + 1, none⟩ = some (.int .i64 ((rd_T62 l0_0 t208).f1))) (ds := []) (bt 16 0) (by kernel_rfl) rfl rfl ⟨(blk_cell BK202.out 0).trans rfl, (blk_cell BK202.out 1).trans rfl, ((HB.out.cell (World.block_lt_of_cell? w _ hw219_0)).trans hw219_0), ((HB.out.cell (World.block_lt_of_cell? w _ hw219_1)).trans hw219_1)⟩ (fun hHeld => ?_); refine with_tabW spec_l12Room.tab12 spec_l12Room.bits12 (fun HT_ HW_ => ?_)
     generalize wr.drew = w50 at HO_5 BK202 HB HR219_0 hx219_0 hx219_1 hHeld ⊢
     refine qj 0 57 (bt 16 1) rfl rfl HT_.out ?_
     refine qj 1 58 (bt 16 3) rfl rfl HT_.out ?_
     refine qj 2 59 (bt 16 7) rfl rfl HT_.out ?_
     refine qj 5 62 (bt 16 39) rfl rfl HT_.out ?_
     refine qj 6 63 (bt 16 103) rfl rfl HT_.out ?_
     refine qj 8 65 (bt 16 359) rfl rfl HT_.out ?_
     refine qm 7 64 (bt 16 487) rfl rfl HT_.out HW_.out hHeld ?_
     refine qj 9 66 (bt 16 999) rfl rfl HT_.out ?_
     refine qj 10 67 (bt 16 2023) rfl rfl HT_.out ?_
     refine qm 11 68 (bt 16 4071) rfl rfl HT_.out HW_.out hHeld ?_
     refine qj 12 69 (bt 16 8167) rfl rfl HT_.out ?_
     refine qo 3 (some 60) (bt 16 8175) rfl rfl HT_.out fun K hK => ?_
     refine value_ (w1 := ?_) (v := ?_) (by rfl) rfl ?_ ?_
     rotate_left 2
     · go_simp
       constructor
       · rfl
       · rfl
     refine hK.out _ _ ⟨(blk_cell (blk_alloc BK202.out _) 0).trans rfl, (blk_cell (blk_alloc BK202.out _) 1).trans rfl, (World.cell?_alloc_lt _ _ _ (World.block_lt_of_cell? _ _ (((HB.out.cell (World.block_lt_of_cell? w _ hw219_0)).trans hw219_0)))).trans (((HB.out.cell (World.block_lt_of_cell? w _ hw219_0)).trans hw219_0)), (World.cell?_alloc_lt _ _ _ (World.block_lt_of_cell? _ _ (((HB.out.cell (World.block_lt_of_cell? w _ hw219_1)).trans hw219_1)))).trans (((HB.out.cell (World.block_lt_of_cell? w _ hw219_1)).trans hw219_1))⟩ (fun hHeld => ?_)
     clear hK K
     refine qn (some 60) ?_
     refine qo 4 (some 61) (bt 16 8191) rfl rfl HT_.out fun K hK => ?_
     refine Kd.R_append_step k93 (w0 := w) w.heap.size (by rfl) (.tmp 57) (.tmp 60) 84 93 (.agg #[(.int .i64 0), (.int .i64 0), (.int .i64 0), (.int .i64 0), (.int .i64 0), (.int .i64 0), (.int .i64 0), (.int .i64 0)]) 64 rfl Try.underlying84 info93 rfl (by decide) (by omega) u5 x5_1 (⟨2, 0, 0, t208, (⟨0, 0, 0, 0⟩ : S32)⟩ : S93) [.int .i64 2, .int .i64 0, .int .i64 0, .int .i64 t208, .int .i64 0, .int .i64 0, .int .i64 0, .int .i64 0] (fun _ => True) (fun _ => False) rfl rfl ?aP (fun _ hk => hk.elim) ?aF ?aO ?aB ?aS ?aL ?_
     (case aP => exact k93_mkM _ _ _ (⟨2, 0, 0, t208, (⟨0, 0, 0, 0⟩ : S32)⟩ : S93))
     (case aB => exact (bg1 HB.out GE202.out))
     (case aF => exact (fun _ _ => trivial))
     (case aO => exact (pr HO_5.out))
     (case aS => exact (below_size (bg1 HB.out GE202.out)))
     (case aL => have := LMc47.out; omega)
     intro v217 w51 ho hb hg hat
     rw [← Ny216.out] at ho
     replace BK202 := am (blk_grown (g := gb202) (o := .cells #[.slice (some ad219) l0_0.length c0_0, .slice A0_1 l0_1.length c0_1] 26 (0, 0)) (pb BK202.out) hg (Kd.R_ne HO_5.out BK202.out (by decide)))
     replace HB := am (hb)
     have HO218 := am (ho)
     clear HO_5 ho hb hg hat
     refine hK.out _ _ ⟨(blk_cell BK202.out 0).trans rfl, (blk_cell BK202.out 1).trans rfl, ((HB.out.cell (World.block_lt_of_cell? w _ hw219_0)).trans hw219_0), ((HB.out.cell (World.block_lt_of_cell? w _ hw219_1)).trans hw219_1)⟩ (fun hHeld => ?_)
     clear hK K
     refine qn (some 61) ?_
     refine qj 13 2 (bt 16 16383) rfl rfl HT_.out ?_
     refine qj 14 3 (bt 16 32767) rfl rfl HT_.out ?_
     refine qj 15 4 (bt 16 65535) rfl rfl HT_.out ?_
     refine done_ (done_of HT_.out (by kernel_rfl)) ?_
     try go_wp2
     go_ret3
     exact ⟨_, rq ⟨pr HO218.out, bg1 HB.out GE202.out⟩⟩
   rw [if_pos c17] at H
   have c17b0 := decide_eq_true c17
   clear c17
   by_cases c18 : 0 ≤ t208
   rotate_left
   · rw [if_neg c18] at H
     exact absurd H (by simp)
   rw [if_pos c18] at H
   have c18b0 := decide_eq_true c18
   clear c18
   by_cases c19 : t208 < (l0_0.length : Int)
   rotate_left
   · rw [if_neg c19] at H
     exact absurd H (by simp)
   rw [if_pos c19] at H
   have c19b0 := decide_eq_true c19
   clear c19
   by_cases c20 : 0 ≤ x9_1
   rotate_left
   · rw [if_neg c20] at H
     exact absurd H (by simp)
   rw [if_pos c20] at H
   have c20b0 := decide_eq_true c20
   clear c20
   by_cases c21 : x9_1 < (((rd_T62 l0_0 t208).f0).length : Int)
   rotate_left
   · rw [if_neg c21] at H
     exact absurd H (by simp)
   rw [if_pos c21] at H
   have c21b0 := decide_eq_true c21
   clear c21
   replace H := Option.bind_eq_some_iff.mp H
   obtain ⟨t212, A220, H⟩ := H
   have A22 := am A220
   clear A220
   by_cases c23 : t212 = true
   rotate_left
   · replace c23 := Bool.eq_false_iff.mpr c23
     subst c23
     rw [if_neg (show ¬ (false = true) by decide)] at H
     have H' := am H
     clear H
     obtain ⟨hcz41_0, hcz41_1⟩ := b2 BK202.out
     obtain ⟨hfz41_0, hfz41_1⟩ := f2 BK202.out
     have p209 : 0 ≤ (t208 : Int) := ofb
     have q209 : t208 < (l0_0.length : Int) := ofb
     obtain ⟨ad209, A209_0, c209_0, e209, hx209_0, hx209_1, hl209_0, hi209_0⟩ := at_T62 HR0_0.out t208 p209 q209
     cases e209
     replace hx209_0 := up HB.out hx209_0
     replace hx209_1 := up HB.out hx209_1
     have HR209_0 := am hi209_0
     have HC209_0 := am hl209_0
     clear hi209_0 hl209_0
     replace p209 := eq_true p209
     replace q209 := eq_true q209
     have p210 : 0 ≤ (x9_1 : Int) := ofb
     have q210 : x9_1 < (((rd_T62 l0_0 t208).f0).length : Int) := ofb
     obtain ⟨ad210, e210, hx210_0, hx210_1, hx210_2, hx210_3, hx210_4⟩ := at_T54 HR209_0.out x9_1 p210 q210
     cases e210
     replace hx210_0 := up HB.out hx210_0
     replace hx210_1 := up HB.out hx210_1
     replace hx210_2 := up HB.out hx210_2
     replace hx210_3 := up HB.out hx210_3
     replace hx210_4 := up HB.out hx210_4
     replace p210 := eq_true p210
     replace q210 := eq_true q210
     go_wp2_with (first | (refine bx 10 #[.int .i64 0, .int .i64 0, .int .i64 0, .int .i64 0, .int .i64 0] 54 rfl ?_; intro gb211 hg w42 hbox hb; replace HO_5 := am (Kd.R_below (pr HO_5.out) hb); have BK211 := am (hbox); have GW211 := am (ge hg (bg1 HB.out GE202.out)); have GE211 := GW211; replace HB := am (below_step (bg1 HB.out GE202.out) hb); have NB202_211 := am (nb hg (pb BK202.out)); have NB211_202 := am (Ne.symm NB202_211.out); replace BK202 := am (blk_below (pb BK202.out) hb); clear hb hbox hg; have hnb43 := NB211_202.out; have hnc43 := NB202_211.out; obtain ⟨hcz44_0, hcz44_1, hcz44_2, hcz44_3, hcz44_4⟩ := b5 BK211.out; obtain ⟨hfz44_0, hfz44_1, hfz44_2, hfz44_3, hfz44_4⟩ := f5 BK211.out; obtain ⟨hcz45_0, hcz45_1⟩ := b2 BK202.out; obtain ⟨hfz45_0, hfz45_1⟩ := f2 BK202.out) | (refine gl 40 Try.func62 #[.slice (some ad209) l0_0.length c0_0, .agg #[.int .i64 ((rd_T54 ((rd_T62 l0_0 t208).f0) x9_1).f0), .int .i64 ((rd_T54 ((rd_T62 l0_0 t208).f0) x9_1).f1.f0), .int .i64 ((rd_T54 ((rd_T62 l0_0 t208).f0) x9_1).f1.f1), .int .i64 ((rd_T54 ((rd_T62 l0_0 t208).f0) x9_1).f1.f2), .int .i64 ((rd_T54 ((rd_T62 l0_0 t208).f0) x9_1).f1.f3)]] rfl ?_; (with_reducible refine (spec_l3Live.calls k1 _ _ l0_0 ((rd_T54 ((rd_T62 l0_0 t208).f0) x9_1).f0) ((rd_T54 ((rd_T62 l0_0 t208).f0) x9_1).f1.f0) ((rd_T54 ((rd_T62 l0_0 t208).f0) x9_1).f1.f1) ((rd_T54 ((rd_T62 l0_0 t208).f0) x9_1).f1.f2) ((rd_T54 ((rd_T62 l0_0 t208).f0) x9_1).f1.f3) false _ ?side1 ?side2 A22.out).mono ?_); (case side1 => exact Kd.C_below HR0_0.out (bg2 HB.out GE202.out GE211.out)); (case side2 => exact HC0_0.out); rintro e w46 ⟨rfl, hb⟩; refine ⟨_, rfl, ?_⟩; replace HO_5 := am (Kd.R_below (by (with_reducible repeat (first | apply Kd.R_alloc | apply Kd.R_drewN | apply Kd.R_drew)); exact (Kd.R_mono (Kd.R_far (p := ⟨gb211, 4, none⟩) (Kd.R_far (p := ⟨gb211, 3, none⟩) (Kd.R_far (p := ⟨gb211, 2, none⟩) (Kd.R_far (p := ⟨gb211, 1, none⟩) (Kd.R_far (p := ⟨gb211, 0, none⟩) (Kd.R_types HO_5.out BK211.out (by decide)) (fun _ hk => hk.2) (.int .i64 ((rd_T54 ((rd_T62 l0_0 t208).f0) x9_1).f0))) (fun _ hk => hk.2) (.int .i64 ((rd_T54 ((rd_T62 l0_0 t208).f0) x9_1).f1.f0))) (fun _ hk => hk.2) (.int .i64 ((rd_T54 ((rd_T62 l0_0 t208).f0) x9_1).f1.f1))) (fun _ hk => hk.2) (.int .i64 ((rd_T54 ((rd_T62 l0_0 t208).f0) x9_1).f1.f2))) (fun _ hk => hk.2) (.int .i64 ((rd_T54 ((rd_T62 l0_0 t208).f0) x9_1).f1.f3))) (fun _ h_ => h_.1))) hb); replace BK202 := am (blk_below (bf5 (pb BK202.out) NB202_211.out) hb); replace BK211 := am (blk_below (bp5 (pb BK211.out)) hb); replace HB := am (below_step (bg2 HB.out GE202.out GE211.out) hb); (try clear hb); (try clear hb2); (try clear hk); (try clear hi)))
     go_roundg k1
     case measure => have := HK1.out; omega
     case rel => exact ⟨(x5_1), (wrap64 (x9_1 + 1)), rf, H', ⟨by have := HK1.out; omega⟩, ⟨pr HO_5.out⟩, ⟨pb BK202.out⟩, ⟨bg2 HB.out GE202.out GE211.out⟩⟩
   subst c23
   rw [if_pos rfl] at H
   by_cases c24 : ((rd_T54 ((rd_T62 l0_0 t208).f0) x9_1).f1.f0) = 1
   rotate_left
   · rw [if_neg c24] at H
     have c24b0 : (((rd_T54 ((rd_T62 l0_0 t208).f0) x9_1).f1.f0) == 1) = false := beq_eq_false_iff_ne.mpr c24
     have c24b1 : (((rd_T54 ((rd_T62 l0_0 t208).f0) x9_1).f1.f0) != 1) = true := bne_iff_ne.mpr c24
     have H' := am H
     clear H
     obtain ⟨hcz34_0, hcz34_1⟩ := b2 BK202.out
     obtain ⟨hfz34_0, hfz34_1⟩ := f2 BK202.out
     have p209 : 0 ≤ (t208 : Int) := ofb
     have q209 : t208 < (l0_0.length : Int) := ofb
     obtain ⟨ad209, A209_0, c209_0, e209, hx209_0, hx209_1, hl209_0, hi209_0⟩ := at_T62 HR0_0.out t208 p209 q209
     cases e209
     replace hx209_0 := up HB.out hx209_0
     replace hx209_1 := up HB.out hx209_1
     have HR209_0 := am hi209_0
     have HC209_0 := am hl209_0
     clear hi209_0 hl209_0
     replace p209 := eq_true p209
     replace q209 := eq_true q209
     have p210 : 0 ≤ (x9_1 : Int) := ofb
     have q210 : x9_1 < (((rd_T62 l0_0 t208).f0).length : Int) := ofb
     obtain ⟨ad210, e210, hx210_0, hx210_1, hx210_2, hx210_3, hx210_4⟩ := at_T54 HR209_0.out x9_1 p210 q210
     cases e210
     replace hx210_0 := up HB.out hx210_0
     replace hx210_1 := up HB.out hx210_1
     replace hx210_2 := up HB.out hx210_2
     replace hx210_3 := up HB.out hx210_3
     replace hx210_4 := up HB.out hx210_4
     replace p210 := eq_true p210
     replace q210 := eq_true q210
     go_wp2_with (first | (refine bx 10 #[.int .i64 0, .int .i64 0, .int .i64 0, .int .i64 0, .int .i64 0] 54 rfl ?_; intro gb211 hg w35 hbox hb; replace HO_5 := am (Kd.R_below (pr HO_5.out) hb); have BK211 := am (hbox); have GW211 := am (ge hg (bg1 HB.out GE202.out)); have GE211 := GW211; replace HB := am (below_step (bg1 HB.out GE202.out) hb); have NB202_211 := am (nb hg (pb BK202.out)); have NB211_202 := am (Ne.symm NB202_211.out); replace BK202 := am (blk_below (pb BK202.out) hb); clear hb hbox hg; have hnb36 := NB211_202.out; have hnc36 := NB202_211.out; obtain ⟨hcz37_0, hcz37_1, hcz37_2, hcz37_3, hcz37_4⟩ := b5 BK211.out; obtain ⟨hfz37_0, hfz37_1, hfz37_2, hfz37_3, hfz37_4⟩ := f5 BK211.out; obtain ⟨hcz38_0, hcz38_1⟩ := b2 BK202.out; obtain ⟨hfz38_0, hfz38_1⟩ := f2 BK202.out) | (refine gl 40 Try.func62 #[.slice (some ad209) l0_0.length c0_0, .agg #[.int .i64 ((rd_T54 ((rd_T62 l0_0 t208).f0) x9_1).f0), .int .i64 ((rd_T54 ((rd_T62 l0_0 t208).f0) x9_1).f1.f0), .int .i64 ((rd_T54 ((rd_T62 l0_0 t208).f0) x9_1).f1.f1), .int .i64 ((rd_T54 ((rd_T62 l0_0 t208).f0) x9_1).f1.f2), .int .i64 ((rd_T54 ((rd_T62 l0_0 t208).f0) x9_1).f1.f3)]] rfl ?_; (with_reducible refine (spec_l3Live.calls k1 _ _ l0_0 ((rd_T54 ((rd_T62 l0_0 t208).f0) x9_1).f0) ((rd_T54 ((rd_T62 l0_0 t208).f0) x9_1).f1.f0) ((rd_T54 ((rd_T62 l0_0 t208).f0) x9_1).f1.f1) ((rd_T54 ((rd_T62 l0_0 t208).f0) x9_1).f1.f2) ((rd_T54 ((rd_T62 l0_0 t208).f0) x9_1).f1.f3) true _ ?side1 ?side2 A22.out).mono ?_); (case side1 => exact Kd.C_below HR0_0.out (bg2 HB.out GE202.out GE211.out)); (case side2 => exact HC0_0.out); rintro e w39 ⟨rfl, hb⟩; refine ⟨_, rfl, ?_⟩; replace HO_5 := am (Kd.R_below (by (with_reducible repeat (first | apply Kd.R_alloc | apply Kd.R_drewN | apply Kd.R_drew)); exact (Kd.R_mono (Kd.R_far (p := ⟨gb211, 4, none⟩) (Kd.R_far (p := ⟨gb211, 3, none⟩) (Kd.R_far (p := ⟨gb211, 2, none⟩) (Kd.R_far (p := ⟨gb211, 1, none⟩) (Kd.R_far (p := ⟨gb211, 0, none⟩) (Kd.R_types HO_5.out BK211.out (by decide)) (fun _ hk => hk.2) (.int .i64 ((rd_T54 ((rd_T62 l0_0 t208).f0) x9_1).f0))) (fun _ hk => hk.2) (.int .i64 ((rd_T54 ((rd_T62 l0_0 t208).f0) x9_1).f1.f0))) (fun _ hk => hk.2) (.int .i64 ((rd_T54 ((rd_T62 l0_0 t208).f0) x9_1).f1.f1))) (fun _ hk => hk.2) (.int .i64 ((rd_T54 ((rd_T62 l0_0 t208).f0) x9_1).f1.f2))) (fun _ hk => hk.2) (.int .i64 ((rd_T54 ((rd_T62 l0_0 t208).f0) x9_1).f1.f3))) (fun _ h_ => h_.1))) hb); replace BK202 := am (blk_below (bf5 (pb BK202.out) NB202_211.out) hb); replace BK211 := am (blk_below (bp5 (pb BK211.out)) hb); replace HB := am (below_step (bg2 HB.out GE202.out GE211.out) hb); (try clear hb); (try clear hb2); (try clear hk); (try clear hi); have hcz40_0 : w39.cell? ⟨gb211, 0, none⟩ = some (.int .i64 ((rd_T54 ((rd_T62 l0_0 t208).f0) x9_1).f0)) := (blk_cell BK211.out 0).trans rfl; have hcz40_1 : w39.cell? ⟨gb211, 1, none⟩ = some (.int .i64 ((rd_T54 ((rd_T62 l0_0 t208).f0) x9_1).f1.f0)) := (blk_cell BK211.out 1).trans rfl; have hcz40_2 : w39.cell? ⟨gb211, 2, none⟩ = some (.int .i64 ((rd_T54 ((rd_T62 l0_0 t208).f0) x9_1).f1.f1)) := (blk_cell BK211.out 2).trans rfl; have hcz40_3 : w39.cell? ⟨gb211, 3, none⟩ = some (.int .i64 ((rd_T54 ((rd_T62 l0_0 t208).f0) x9_1).f1.f2)) := (blk_cell BK211.out 3).trans rfl; have hcz40_4 : w39.cell? ⟨gb211, 4, none⟩ = some (.int .i64 ((rd_T54 ((rd_T62 l0_0 t208).f0) x9_1).f1.f3)) := (blk_cell BK211.out 4).trans rfl; obtain ⟨hfz40_0, hfz40_1, hfz40_2, hfz40_3, hfz40_4⟩ := f5 BK211.out))
     go_roundg k1
     case measure => have := HK1.out; omega
     case rel => exact ⟨(x5_1), (wrap64 (x9_1 + 1)), rf, H', ⟨by have := HK1.out; omega⟩, ⟨pr HO_5.out⟩, ⟨pb BK202.out⟩, ⟨bg2 HB.out GE202.out GE211.out⟩⟩
   rw [if_pos c24] at H
   have c24b0 : (((rd_T54 ((rd_T62 l0_0 t208).f0) x9_1).f1.f0) == 1) = true := beq_iff_eq.mpr c24
   have c24b1 : (((rd_T54 ((rd_T62 l0_0 t208).f0) x9_1).f1.f0) != 1) = false := bne_eq_false_iff_eq.mpr c24
   clear c24
   by_cases c25 : x5_1.length < 2199023255552
   rotate_left
   · rw [if_neg c25] at H
     exact absurd H (by simp)
   rw [if_pos c25] at H
   have LMc25 := am c25
   clear c25
   obtain ⟨y213, hy213⟩ : ∃ y_ : List (S93), y_ = (x5_1 ++ [(⟨1, (rd_T54 ((rd_T62 l0_0 t208).f0) x9_1).f1.f2, (rd_T54 ((rd_T62 l0_0 t208).f0) x9_1).f1.f3, 0, (⟨0, 0, 0, 0⟩ : S32)⟩ : S93)]) := ⟨_, rfl⟩
   replace H : (spec_l12Room.l0 k1 y213 t208 (wrap64 (x9_1 + 1)) l0_0 l0_1) = some (r1, r2, r3) := by first | (rw [hy213]; with_reducible exact H) | (have H2_ := (Option.bind_some _ _).symm.trans H; rw [hy213]; with_reducible exact H2_) | (have H2_ := (Option.bind_some _ _).symm.trans H; with_reducible exact H2_) | with_reducible exact H | (rw [hy213]; exact H) | exact H
   have Ny213 := am hy213
   clear hy213
   have H' := am H
   clear H
   obtain ⟨hcz26_0, hcz26_1⟩ := b2 BK202.out
   obtain ⟨hfz26_0, hfz26_1⟩ := f2 BK202.out
   have p209 : 0 ≤ (t208 : Int) := ofb
   have q209 : t208 < (l0_0.length : Int) := ofb
   obtain ⟨ad209, A209_0, c209_0, e209, hx209_0, hx209_1, hl209_0, hi209_0⟩ := at_T62 HR0_0.out t208 p209 q209
   cases e209
   replace hx209_0 := up HB.out hx209_0
   replace hx209_1 := up HB.out hx209_1
   have HR209_0 := am hi209_0
   have HC209_0 := am hl209_0
   clear hi209_0 hl209_0
   replace p209 := eq_true p209
   replace q209 := eq_true q209
   have p210 : 0 ≤ (x9_1 : Int) := ofb
   have q210 : x9_1 < (((rd_T62 l0_0 t208).f0).length : Int) := ofb
   obtain ⟨ad210, e210, hx210_0, hx210_1, hx210_2, hx210_3, hx210_4⟩ := at_T54 HR209_0.out x9_1 p210 q210
   cases e210
   replace hx210_0 := up HB.out hx210_0
   replace hx210_1 := up HB.out hx210_1
   replace hx210_2 := up HB.out hx210_2
   replace hx210_3 := up HB.out hx210_3
   replace hx210_4 := up HB.out hx210_4
   replace p210 := eq_true p210
   replace q210 := eq_true q210
   go_wp2_with (first | (refine bx 10 #[.int .i64 0, .int .i64 0, .int .i64 0, .int .i64 0, .int .i64 0] 54 rfl ?_; intro gb211 hg w27 hbox hb; replace HO_5 := am (Kd.R_below (pr HO_5.out) hb); have BK211 := am (hbox); have GW211 := am (ge hg (bg1 HB.out GE202.out)); have GE211 := GW211; replace HB := am (below_step (bg1 HB.out GE202.out) hb); have NB202_211 := am (nb hg (pb BK202.out)); have NB211_202 := am (Ne.symm NB202_211.out); replace BK202 := am (blk_below (pb BK202.out) hb); clear hb hbox hg; have hnb28 := NB211_202.out; have hnc28 := NB202_211.out; obtain ⟨hcz29_0, hcz29_1, hcz29_2, hcz29_3, hcz29_4⟩ := b5 BK211.out; obtain ⟨hfz29_0, hfz29_1, hfz29_2, hfz29_3, hfz29_4⟩ := f5 BK211.out; obtain ⟨hcz30_0, hcz30_1⟩ := b2 BK202.out; obtain ⟨hfz30_0, hfz30_1⟩ := f2 BK202.out) | (refine gl 40 Try.func62 #[.slice (some ad209) l0_0.length c0_0, .agg #[.int .i64 ((rd_T54 ((rd_T62 l0_0 t208).f0) x9_1).f0), .int .i64 ((rd_T54 ((rd_T62 l0_0 t208).f0) x9_1).f1.f0), .int .i64 ((rd_T54 ((rd_T62 l0_0 t208).f0) x9_1).f1.f1), .int .i64 ((rd_T54 ((rd_T62 l0_0 t208).f0) x9_1).f1.f2), .int .i64 ((rd_T54 ((rd_T62 l0_0 t208).f0) x9_1).f1.f3)]] rfl ?_; (with_reducible refine (spec_l3Live.calls k1 _ _ l0_0 ((rd_T54 ((rd_T62 l0_0 t208).f0) x9_1).f0) ((rd_T54 ((rd_T62 l0_0 t208).f0) x9_1).f1.f0) ((rd_T54 ((rd_T62 l0_0 t208).f0) x9_1).f1.f1) ((rd_T54 ((rd_T62 l0_0 t208).f0) x9_1).f1.f2) ((rd_T54 ((rd_T62 l0_0 t208).f0) x9_1).f1.f3) true _ ?side1 ?side2 A22.out).mono ?_); (case side1 => exact Kd.C_below HR0_0.out (bg2 HB.out GE202.out GE211.out)); (case side2 => exact HC0_0.out); rintro e w31 ⟨rfl, hb⟩; refine ⟨_, rfl, ?_⟩; replace HO_5 := am (Kd.R_below (by (with_reducible repeat (first | apply Kd.R_alloc | apply Kd.R_drewN | apply Kd.R_drew)); exact (Kd.R_mono (Kd.R_far (p := ⟨gb211, 4, none⟩) (Kd.R_far (p := ⟨gb211, 3, none⟩) (Kd.R_far (p := ⟨gb211, 2, none⟩) (Kd.R_far (p := ⟨gb211, 1, none⟩) (Kd.R_far (p := ⟨gb211, 0, none⟩) (Kd.R_types HO_5.out BK211.out (by decide)) (fun _ hk => hk.2) (.int .i64 ((rd_T54 ((rd_T62 l0_0 t208).f0) x9_1).f0))) (fun _ hk => hk.2) (.int .i64 ((rd_T54 ((rd_T62 l0_0 t208).f0) x9_1).f1.f0))) (fun _ hk => hk.2) (.int .i64 ((rd_T54 ((rd_T62 l0_0 t208).f0) x9_1).f1.f1))) (fun _ hk => hk.2) (.int .i64 ((rd_T54 ((rd_T62 l0_0 t208).f0) x9_1).f1.f2))) (fun _ hk => hk.2) (.int .i64 ((rd_T54 ((rd_T62 l0_0 t208).f0) x9_1).f1.f3))) (fun _ h_ => h_.1))) hb); replace BK202 := am (blk_below (bf5 (pb BK202.out) NB202_211.out) hb); replace BK211 := am (blk_below (bp5 (pb BK211.out)) hb); replace HB := am (below_step (bg2 HB.out GE202.out GE211.out) hb); (try clear hb); (try clear hb2); (try clear hk); (try clear hi); have hcz32_0 : w31.cell? ⟨gb211, 0, none⟩ = some (.int .i64 ((rd_T54 ((rd_T62 l0_0 t208).f0) x9_1).f0)) := (blk_cell BK211.out 0).trans rfl; have hcz32_1 : w31.cell? ⟨gb211, 1, none⟩ = some (.int .i64 ((rd_T54 ((rd_T62 l0_0 t208).f0) x9_1).f1.f0)) := (blk_cell BK211.out 1).trans rfl; have hcz32_2 : w31.cell? ⟨gb211, 2, none⟩ = some (.int .i64 ((rd_T54 ((rd_T62 l0_0 t208).f0) x9_1).f1.f1)) := (blk_cell BK211.out 2).trans rfl; have hcz32_3 : w31.cell? ⟨gb211, 3, none⟩ = some (.int .i64 ((rd_T54 ((rd_T62 l0_0 t208).f0) x9_1).f1.f2)) := (blk_cell BK211.out 3).trans rfl; have hcz32_4 : w31.cell? ⟨gb211, 4, none⟩ = some (.int .i64 ((rd_T54 ((rd_T62 l0_0 t208).f0) x9_1).f1.f3)) := (blk_cell BK211.out 4).trans rfl; obtain ⟨hfz32_0, hfz32_1, hfz32_2, hfz32_3, hfz32_4⟩ := f5 BK211.out) | ((with_reducible refine gate_builtin (b := .append) (xs := #[.tmp 47, .tmp 55]) rfl ?_); at_builtin; refine Kd.R_append k93 (w0 := w) w.heap.size rfl (.tmp 47) (.tmp 55) 84 93 (.agg #[(.int .i64 0), (.int .i64 0), (.int .i64 0), (.int .i64 0), (.int .i64 0), (.int .i64 0), (.int .i64 0), (.int .i64 0)]) 64 rfl Try.underlying84 info93 rfl (by decide) (by omega) u5 x5_1 (⟨1, (rd_T54 ((rd_T62 l0_0 t208).f0) x9_1).f1.f2, (rd_T54 ((rd_T62 l0_0 t208).f0) x9_1).f1.f3, 0, (⟨0, 0, 0, 0⟩ : S32)⟩ : S93) [.int .i64 1, .int .i64 ((rd_T54 ((rd_T62 l0_0 t208).f0) x9_1).f1.f2), .int .i64 ((rd_T54 ((rd_T62 l0_0 t208).f0) x9_1).f1.f3), .int .i64 0, .int .i64 0, .int .i64 0, .int .i64 0, .int .i64 0] (fun _ => True) (fun _ => False) rfl rfl ?aP (fun _ hk => hk.elim) ?aF ?aO ?aB ?aS ?aL ?_; (case aP => exact k93_mkM _ _ _ (⟨1, (rd_T54 ((rd_T62 l0_0 t208).f0) x9_1).f1.f2, (rd_T54 ((rd_T62 l0_0 t208).f0) x9_1).f1.f3, 0, (⟨0, 0, 0, 0⟩ : S32)⟩ : S93)); (case aB => exact (bg2 HB.out GE202.out GE211.out)); (case aF => exact (fun _ _ => trivial)); (case aO => exact (pr HO_5.out)); (case aS => exact (below_size (bg2 HB.out GE202.out GE211.out))); (case aL => have := LMc25.out; omega); intro v214 w33 ho hb hg hat; rw [← Ny213.out] at ho; replace BK202 := am (blk_grown (g := gb202) (o := .cells #[.slice (some ad209) l0_0.length c0_0, .slice A0_1 l0_1.length c0_1] 26 (0, 0)) (pb BK202.out) hg (Kd.R_ne HO_5.out BK202.out (by decide))); replace BK211 := am (blk_grown (g := gb211) (o := .cells #[.int .i64 ((rd_T54 ((rd_T62 l0_0 t208).f0) x9_1).f0), .int .i64 ((rd_T54 ((rd_T62 l0_0 t208).f0) x9_1).f1.f0), .int .i64 ((rd_T54 ((rd_T62 l0_0 t208).f0) x9_1).f1.f1), .int .i64 ((rd_T54 ((rd_T62 l0_0 t208).f0) x9_1).f1.f2), .int .i64 ((rd_T54 ((rd_T62 l0_0 t208).f0) x9_1).f1.f3)] 54 (0, 0)) (pb BK211.out) hg (Kd.R_ne HO_5.out BK211.out (by decide))); replace HB := am (hb); have HO215 := am (ho); clear HO_5; clear ho hb hg hat))
   go_roundg k1
   case measure => have := HK1.out; omega
   case rel => exact ⟨(y213), (wrap64 (x9_1 + 1)), rf, H', ⟨by have := HK1.out; omega⟩, ⟨pr HO215.out⟩, ⟨pb BK202.out⟩, ⟨bg2 HB.out GE202.out GE211.out⟩⟩
end Go.Proofs.Ytjlmndgpmhbdlaa.Rz
