-- printed by wip/pp/pp.py
import Derived.Test.YtbhchamohldehaaP40
import Derived.Test.YtbhchamohldehaaP43
namespace Go.Proofs.Ytbhchamohldehaa.P4
set_option maxHeartbeats 8000000
set_option maxRecDepth 100000
open Go.RowKit Go.Proofs.YtbhchamohldehaaW.PrintWords Go.Proofs.YtbhchamohldehaaW.PrintLast Go.Proofs.YtbhchamohldehaaW.PrintMore
attribute [local go_sem] max2_int min2_int max_two min_two max_three min_three max_four min_four
set_option linter.unusedVariables false
set_option linter.unusedSimpArgs false
def spec_l12Room.l0 : Nat → List (S38) → Int → Int → List (S73) → List Int → Option ((List (S38)) × Int × Bool)
 | 0, _, _, _, _, _ => none
 | k + 1, x5, x8, x9, x159000, x159001 => if x9 < 4 then (if 0 ≤ x8 then (if x8 < (x159000.length : Int) then (if 0 ≤ x9 then (if x9 < (((rd_T73 x159000 x8).f0).length : Int) then ((spec_l3Live.f k x159000 ((rd_T69 ((rd_T73 x159000 x8).f0) x9).f0) ((rd_T69 ((rd_T73 x159000 x8).f0) x9).f1.f0) ((rd_T69 ((rd_T73 x159000 x8).f0) x9).f1.f1) ((rd_T69 ((rd_T73 x159000 x8).f0) x9).f1.f2) ((rd_T69 ((rd_T73 x159000 x8).f0) x9).f1.f3)).bind fun t168 => (if t168 = true then (if ((rd_T69 ((rd_T73 x159000 x8).f0) x9).f1.f0) = 1 then (if x5.length < 2199023255552 then (spec_l12Room.l0 k (x5 ++ [(⟨1, (rd_T69 ((rd_T73 x159000 x8).f0) x9).f1.f2, (rd_T69 ((rd_T73 x159000 x8).f0) x9).f1.f3, 0, (⟨0, 0, 0, 0⟩ : S36)⟩ : S38)]) x8 (wrap64 (x9 + 1)) x159000 x159001) else (none)) else (spec_l12Room.l0 k x5 x8 (wrap64 (x9 + 1)) x159000 x159001)) else (spec_l12Room.l0 k x5 x8 (wrap64 (x9 + 1)) x159000 x159001))) else (none)) else (none)) else (none)) else (none)) else (if x5.length < 2199023255552 then (if 0 ≤ x8 then (if x8 < (x159000.length : Int) then (some ((x5 ++ [(⟨2, 0, 0, x8, (⟨0, 0, 0, 0⟩ : S36)⟩ : S38)]), x8, decide (((rd_T73 x159000 x8).f1) < 200))) else (none)) else (none)) else (none))
def spec_l12Room.f (k : Nat) (l0_0 : List (S73)) (l0_1 : List Int) : Option ((List (S38)) × Int × Bool) := (some (([] : List (S38)) : List (S38))).bind fun y159 => ((spec_l3Open.f k l0_0).bind fun bt162 => (if bt162.2 = true then (some (y159, bt162.1, true)) else ((spec_l3Old.f k l0_0).bind fun t164 => (spec_l12Room.l0 k y159 t164 0 l0_0 l0_1))))
def spec_l12Room.T12 : Bool × List (List Nat × List Nat) := (true, [([], []), ([], []), ([1], [1]), ([2], [2]), ([0, 3], [0, 3]), ([], []), ([], []), ([6], [6]), ([], []), ([7, 8], [7, 8]), ([9], [9]), ([10], [10]), ([11], [11]), ([4, 4, 0, 1, 2, 3, 4], [4]), ([5, 13, 0, 1, 2, 3, 4, 5, 13], [5]), ([12, 14, 0, 1, 2, 3, 4, 5, 6, 7, 8, 9, 10, 11, 12, 13, 14], [12])])
def spec_l12Room.B12 : List Nat := [0, 0, 2, 6, 15, 0, 0, 64, 0, 448, 960, 1984, 4032, 31, 8255, 32767]
theorem spec_l12Room.tab12 : rtab .any (opsOf Try.f59 12) = spec_l12Room.T12 := by kernel_rfl
theorem spec_l12Room.bits12 : waitsOk spec_l12Room.T12.2 spec_l12Room.B12 = true := by kernel_rfl
theorem spec_l12Room.calls (k : Nat) (A0_0 : Option Addr) (c0_0 : Nat) (l0_0 : List (S73)) (A0_1 : Option Addr) (c0_1 : Nat) (l0_1 : List Int) (r1 : List (S38)) (r2 : Int) (r3 : Bool) (w : World) (hr0_0 : Kd.C k73 w A0_0 l0_0.length l0_0) (hc0_0 : l0_0.length ≤ c0_0) (hr0_1 : Kd.C (Kd.int .i64) w A0_1 l0_1.length l0_1) (hc0_1 : l0_1.length ≤ c0_1) (h : spec_l12Room.f k l0_0 l0_1 = some (r1, r2, r3)) :
 Calls Try.prog 59 #[.agg #[.slice A0_0 l0_0.length c0_0, .slice A0_1 l0_1.length c0_1]] w fun e w' => ∃ v0_ : Value, e = .returned (.tuple #[v0_, .int .i64 r2, .bool r3]) ∧ Kd.R k38 38 w' w.heap.size (fun _ => True) v0_ r1 ∧ Below w.heap.size w w' := by
 have hu26 := Try.underlying26
 have hu69 := Try.underlying69
 have hu38 := Try.underlying38
 have HR0_0 := am hr0_0
 have HC0_0 := am hc0_0
 clear hr0_0 hc0_0
 have HR0_1 := am hr0_1
 have HC0_1 := am hc0_1
 clear hr0_1 hc0_1
 have HB := am (Below.refl w.heap.size w)
 have H : ((some (([] : List (S38)) : List (S38))).bind fun y159 => ((spec_l3Open.f k l0_0).bind fun bt162 => (if bt162.2 = true then (some (y159, bt162.1, true)) else ((spec_l3Old.f k l0_0).bind fun t164 => (spec_l12Room.l0 k y159 t164 0 l0_0 l0_1))))) = some (r1, r2, r3) := h
 clear h
 obtain ⟨y159, hy159⟩ : ∃ y_ : List (S38), y_ = (([] : List (S38))) := ⟨_, rfl⟩
 replace H : ((spec_l3Open.f k l0_0).bind fun bt162 => (if bt162.2 = true then (some (y159, bt162.1, true)) else ((spec_l3Old.f k l0_0).bind fun t164 => (spec_l12Room.l0 k y159 t164 0 l0_0 l0_1)))) = some (r1, r2, r3) := yy hy159 H
 have Ny159 := am hy159
 clear hy159
 replace H := Option.bind_eq_some_iff.mp H
 obtain ⟨⟨t162, t163⟩, A20, H⟩ := H
 have A2 := am A20
 clear A20
 by_cases c3 : t163 = true
 · subst c3
   rw [if_pos rfl] at H
   simp only [Option.some.injEq, Prod.mk.injEq] at H
   obtain ⟨rfl, rfl, rfl⟩ := H
   go_enter Try.func59, Try.ntmps59
   go_wp2_with (first | (refine bx 1 #[.slice A0_0 l0_0.length c0_0, .slice A0_1 l0_1.length c0_1] 26 rfl ?_; intro gb158 hg w4 hbox hb; have BK158 := am (hbox); have GW158 := am (ge hg (ph HB.out)); have GE158 := GW158; replace HB := am (below_step (ph HB.out) hb); clear hb hbox hg) | ((with_reducible refine gate_dst (N := 11) rfl ?_); refine Kd.R_lit k38 _ 38 ?hg (N := 11) ?hd (xs := ([] : List (S38))) (inner := []) (ok := fun _ => True) (okp := fun _ => True) ?hr ?hp (fun _ hk => hk) trivial (Below.refl _ _) (Nat.le_refl _) (by simp) ?_; (case hd => rfl); (case hg => rfl); (case hr => first | (go_simp; done) | (go_simp; rfl)); (case hp => exact (Reps.none _ _)); intro v160 w5 ho6 hb hg_ hnew_; clear hg_ hnew_; (first | rw [← Ny159.out] at ho6 | (simp only [Int.reduceToNat] at ho6; rw [← Ny159.out] at ho6)); have HO161 := am (Kd.R_lower ho6 (below_size (bg1 HB.out GE158.out))); replace BK158 := am (blk_below (pb BK158.out) hb); replace HB := am (below_step (bg1 HB.out GE158.out) hb); clear hb ho6; obtain ⟨hcz7_0, hcz7_1⟩ := b2 BK158.out; obtain ⟨hfz7_0, hfz7_1⟩ := f2 BK158.out) | (refine gl 15 Try.func27 #[.slice A0_0 l0_0.length c0_0] rfl ?_; (with_reducible refine (spec_l3Open.calls k _ _ l0_0 t162 true _ ?side1 ?side2 A2.out).mono ?_); (case side1 => exact pc (Kd.C_below HR0_0.out HB.out)); (case side2 => exact HC0_0.out); rintro e w8 ⟨rfl, hb⟩; refine ⟨_, rfl, ?_⟩; replace HO161 := am (Kd.R_below (pr HO161.out) hb); replace BK158 := am (blk_below (pb BK158.out) hb); replace HB := am (below_step (bg1 HB.out GE158.out) hb); clear hb))
   go_ret3
   exact ⟨_, rq ⟨pr HO161.out, bg1 HB.out GE158.out⟩⟩
 replace c3 := Bool.eq_false_iff.mpr c3
 subst c3
 rw [if_neg (show ¬ (false = true) by decide)] at H
 replace H := Option.bind_eq_some_iff.mp H
 obtain ⟨t164, A90, H⟩ := H
 have A9 := am A90
 clear A90
 have H' := am H
 clear H
 go_enter Try.func59, Try.ntmps59
 go_wp2_with (first | (refine bx 1 #[.slice A0_0 l0_0.length c0_0, .slice A0_1 l0_1.length c0_1] 26 rfl ?_; intro gb158 hg w10 hbox hb; have BK158 := am (hbox); have GW158 := am (ge hg (ph HB.out)); have GE158 := GW158; replace HB := am (below_step (ph HB.out) hb); clear hb hbox hg) | ((with_reducible refine gate_dst (N := 11) rfl ?_); refine Kd.R_lit k38 _ 38 ?hg (N := 11) ?hd (xs := ([] : List (S38))) (inner := []) (ok := fun _ => True) (okp := fun _ => True) ?hr ?hp (fun _ hk => hk) trivial (Below.refl _ _) (Nat.le_refl _) (by simp) ?_; (case hd => rfl); (case hg => rfl); (case hr => first | (go_simp; done) | (go_simp; rfl)); (case hp => exact (Reps.none _ _)); intro v160 w11 ho12 hb hg_ hnew_; clear hg_ hnew_; (first | rw [← Ny159.out] at ho12 | (simp only [Int.reduceToNat] at ho12; rw [← Ny159.out] at ho12)); have HO161 := am (Kd.R_lower ho12 (below_size (bg1 HB.out GE158.out))); replace BK158 := am (blk_below (pb BK158.out) hb); replace HB := am (below_step (bg1 HB.out GE158.out) hb); clear hb ho12; obtain ⟨hcz13_0, hcz13_1⟩ := b2 BK158.out; obtain ⟨hfz13_0, hfz13_1⟩ := f2 BK158.out) | (refine gl 15 Try.func27 #[.slice A0_0 l0_0.length c0_0] rfl ?_; (with_reducible refine (spec_l3Open.calls k _ _ l0_0 t162 false _ ?side1 ?side2 A2.out).mono ?_); (case side1 => exact pc (Kd.C_below HR0_0.out HB.out)); (case side2 => exact HC0_0.out); rintro e w14 ⟨rfl, hb⟩; refine ⟨_, rfl, ?_⟩; replace HO161 := am (Kd.R_below (pr HO161.out) hb); replace BK158 := am (blk_below (pb BK158.out) hb); replace HB := am (below_step (bg1 HB.out GE158.out) hb); clear hb; obtain ⟨hcz15_0, hcz15_1⟩ := b2 BK158.out; obtain ⟨hfz15_0, hfz15_1⟩ := f2 BK158.out) | (refine gl 23 Try.func67 #[.slice A0_0 l0_0.length c0_0] rfl ?_; (with_reducible refine (spec_l3Old.calls k _ _ l0_0 t164 _ ?side1 ?side2 A9.out).mono ?_); (case side1 => exact pc (Kd.C_below HR0_0.out HB.out)); (case side2 => exact HC0_0.out); rintro e w16 ⟨rfl, hb⟩; refine ⟨_, rfl, ?_⟩; replace HO161 := am (Kd.R_below (pr HO161.out) hb); replace BK158 := am (blk_below (pb BK158.out) hb); replace HB := am (below_step (bg1 HB.out GE158.out) hb); clear hb))
 go_loopg [5, 9] k (fun kq v5 v9 w' => ∃ (x5_1 : List (S38)) (x9_1 : Int), v9 = .int .i64 x9_1 ∧ Aside0 (spec_l12Room.l0 kq x5_1 t164 x9_1 l0_0 l0_1 = some (r1, r2, r3)) ∧ Aside0 (kq ≤ k) ∧ Aside0 (Kd.R k38 38 w' w.heap.size (fun _ => True) v5 x5_1) ∧ Aside0 (w'.heap[gb158]? = some (.cells #[(.slice A0_0 l0_0.length c0_0), (.slice A0_1 l0_1.length c0_1)] 26 (0, 0))) ∧ Aside0 (Below w.heap.size w w'))
 case atStart => exact ⟨(y159), (0), rf, H', ⟨Nat.le_refl _⟩, ⟨pr HO161.out⟩, ⟨pb BK158.out⟩, ⟨bg1 HB.out GE158.out⟩⟩
 case round =>
  clear H'
  obtain ⟨x5_1, x9_1, rfl, HA, HK1, HO_5, BK158, HB⟩ := hrel
  cases gk with
  | zero => exact absurd HA.out (by simp [spec_l12Room.l0])
  | succ k1 =>
   have H := HA.out
   clear HA
   simp only [spec_l12Room.l0] at H
   by_cases c17 : x9_1 < 4
   rotate_left
   · rw [if_neg c17] at H
     have c17b0 := decide_eq_false c17
     clear c17
     by_cases c47 : x5_1.length < 2199023255552
     rotate_left
     · rw [if_neg c47] at H
       exact absurd H (by simp)
     rw [if_pos c47] at H
     have LMc47 := am c47
     clear c47
     obtain ⟨y172, hy172⟩ : ∃ y_ : List (S38), y_ = (x5_1 ++ [(⟨2, 0, 0, t164, (⟨0, 0, 0, 0⟩ : S36)⟩ : S38)]) := ⟨_, rfl⟩
     replace H : (if 0 ≤ t164 then (if t164 < (l0_0.length : Int) then (some (y172, t164, decide (((rd_T73 l0_0 t164).f1) < 200))) else (none)) else (none)) = some (r1, r2, r3) := yy hy172 H
     have Ny172 := am hy172
     clear hy172
     obtain ⟨c48b0, H⟩ := ifd H
     obtain ⟨c49b0, H⟩ := ifd H
     simp only [Option.some.injEq, Prod.mk.injEq] at H
     obtain ⟨rfl, rfl, rfl⟩ := H
     try go_wp2
     replace HO_5 := am (Kd.R_drew HO_5.out)
     replace BK158 := am (blk_drew BK158.out)
     replace HB := am (below_drew1 HB.out)
     have p175 : 0 ≤ (t164 : Int) := ofb
     have q175 : t164 < (l0_0.length : Int) := ofb
     obtain ⟨ad175, A175_0, c175_0, e175, hx175_0, hx175_1, hl175_0, hi175_0⟩ := at_T73 HR0_0.out t164 p175 q175
     have hw175_1 := hx175_1
     have hw175_0 := hx175_0
     cases e175
     replace hx175_0 := up HB.out hx175_0
     replace hx175_1 := up HB.out hx175_1
     have HR175_0 := am hi175_0
     have HC175_0 := am hl175_0
     clear hi175_0 hl175_0
     replace p175 := eq_true p175
     replace q175 := eq_true q175
     refine start_ (n := 16) (S := fun w' => w'.cell? ⟨gb158, 0, none⟩ = some (.slice (some ad175) l0_0.length c0_0) ∧ w'.cell? ⟨gb158, 1, none⟩ = some (.slice A0_1 l0_1.length c0_1) ∧ w'.cell? (ad175.add ((t164).toNat * 2)) = some (.slice A175_0 ((rd_T73 l0_0 t164).f0).length c175_0) ∧ w'.cell? ⟨(ad175.add ((t164).toNat * 2)).block, (ad175.add ((t164).toNat * 2)).off + 1, none⟩ = some (.int .i64 ((rd_T73 l0_0 t164).f1))) (ds := []) (bt 16 0) (by kernel_rfl) rfl rfl ⟨(blk_cell BK158.out 0).trans rfl, (blk_cell BK158.out 1).trans rfl, ((HB.out.cell (World.block_lt_of_cell? w _ hw175_0)).trans hw175_0), ((HB.out.cell (World.block_lt_of_cell? w _ hw175_1)).trans hw175_1)⟩ (fun hHeld => ?_); refine with_tabW spec_l12Room.tab12 spec_l12Room.bits12 (fun HT_ HW_ => ?_)
     generalize wr.drew = w50 at HO_5 BK158 HB HR175_0 hx175_0 hx175_1 hHeld ⊢
     refine qj 0 57 (bt 16 1) rfl rfl HT_.out ?_
     refine qj 1 58 (bt 16 3) rfl rfl HT_.out ?_
     refine qj 2 59 (bt 16 7) rfl rfl HT_.out ?_
     refine qj 5 62 (bt 16 39) rfl rfl HT_.out ?_
     refine qj 6 63 (bt 16 103) rfl rfl HT_.out ?_
     refine qj 8 65 (bt 16 359) rfl rfl HT_.out ?_
     refine qm 7 64 (bt 16 487) rfl rfl HT_.out HW_.out hHeld ?_
     refine qj 9 66 (bt 16 999) rfl rfl HT_.out ?_
     refine qj 10 67 (bt 16 2023) rfl rfl HT_.out ?_
     refine qm 11 68 (bt 16 4071) rfl rfl HT_.out HW_.out hHeld ?_
     refine qj 12 69 (bt 16 8167) rfl rfl HT_.out ?_
     refine qo 3 (some 60) (bt 16 8175) rfl rfl HT_.out fun K hK => ?_
     refine value_ (w1 := ?_) (v := ?_) (by rfl) rfl ?_ ?_
     rotate_left 2
     · go_simp
       constructor
       · rfl
       · rfl
     refine hK.out _ _ ⟨(blk_cell (blk_alloc BK158.out _) 0).trans rfl, (blk_cell (blk_alloc BK158.out _) 1).trans rfl, (World.cell?_alloc_lt _ _ _ (World.block_lt_of_cell? _ _ (((HB.out.cell (World.block_lt_of_cell? w _ hw175_0)).trans hw175_0)))).trans (((HB.out.cell (World.block_lt_of_cell? w _ hw175_0)).trans hw175_0)), (World.cell?_alloc_lt _ _ _ (World.block_lt_of_cell? _ _ (((HB.out.cell (World.block_lt_of_cell? w _ hw175_1)).trans hw175_1)))).trans (((HB.out.cell (World.block_lt_of_cell? w _ hw175_1)).trans hw175_1))⟩ (fun hHeld => ?_)
     clear hK K
     refine qn (some 60) ?_
     refine qo 4 (some 61) (bt 16 8191) rfl rfl HT_.out fun K hK => ?_
     refine Kd.R_append_step k38 (w0 := w) w.heap.size (by rfl) (.tmp 57) (.tmp 60) 29 38 (.agg #[(.int .i64 0), (.int .i64 0), (.int .i64 0), (.int .i64 0), (.int .i64 0), (.int .i64 0), (.int .i64 0), (.int .i64 0)]) 64 rfl Try.underlying29 info38 rfl (by decide) (by omega) u5 x5_1 (⟨2, 0, 0, t164, (⟨0, 0, 0, 0⟩ : S36)⟩ : S38) [.int .i64 2, .int .i64 0, .int .i64 0, .int .i64 t164, .int .i64 0, .int .i64 0, .int .i64 0, .int .i64 0] (fun _ => True) (fun _ => False) rfl rfl ?aP (fun _ hk => hk.elim) ?aF ?aO ?aB ?aS ?aL ?_
     (case aP => exact k38_mkM _ _ _ (⟨2, 0, 0, t164, (⟨0, 0, 0, 0⟩ : S36)⟩ : S38))
     (case aB => exact (bg1 HB.out GE158.out))
     (case aF => exact (fun _ _ => trivial))
     (case aO => exact (pr HO_5.out))
     (case aS => exact (below_size (bg1 HB.out GE158.out)))
     (case aL => have := LMc47.out; omega)
     intro v173 w51 ho hb hg hat
     rw [← Ny172.out] at ho
     replace BK158 := am (blk_grown (g := gb158) (o := .cells #[.slice (some ad175) l0_0.length c0_0, .slice A0_1 l0_1.length c0_1] 26 (0, 0)) (pb BK158.out) hg (Kd.R_ne HO_5.out BK158.out (by decide)))
     replace HB := am (hb)
     have HO174 := am (ho)
     clear HO_5 ho hb hg hat
     refine hK.out _ _ ⟨(blk_cell BK158.out 0).trans rfl, (blk_cell BK158.out 1).trans rfl, ((HB.out.cell (World.block_lt_of_cell? w _ hw175_0)).trans hw175_0), ((HB.out.cell (World.block_lt_of_cell? w _ hw175_1)).trans hw175_1)⟩ (fun hHeld => ?_)
     clear hK K
     refine qn (some 61) ?_
     refine qj 13 2 (bt 16 16383) rfl rfl HT_.out ?_
     refine qj 14 3 (bt 16 32767) rfl rfl HT_.out ?_
     refine qj 15 4 (bt 16 65535) rfl rfl HT_.out ?_
     refine done_ (done_of HT_.out (by kernel_rfl)) ?_
     try go_wp2
     go_ret3
     exact ⟨_, rq ⟨pr HO174.out, bg1 HB.out GE158.out⟩⟩
   rw [if_pos c17] at H
   have c17b0 := decide_eq_true c17
   clear c17
   obtain ⟨c18b0, H⟩ := ifd H
   obtain ⟨c19b0, H⟩ := ifd H
   obtain ⟨c20b0, H⟩ := ifd H
   obtain ⟨c21b0, H⟩ := ifd H
   replace H := Option.bind_eq_some_iff.mp H
   obtain ⟨t168, A220, H⟩ := H
   have A22 := am A220
   clear A220
   by_cases c23 : t168 = true
   rotate_left
   · replace c23 := Bool.eq_false_iff.mpr c23
     subst c23
     rw [if_neg (show ¬ (false = true) by decide)] at H
     have H' := am H
     clear H
     obtain ⟨hcz41_0, hcz41_1⟩ := b2 BK158.out
     obtain ⟨hfz41_0, hfz41_1⟩ := f2 BK158.out
     have p165 : 0 ≤ (t164 : Int) := ofb
     have q165 : t164 < (l0_0.length : Int) := ofb
     obtain ⟨ad165, A165_0, c165_0, e165, hx165_0, hx165_1, hl165_0, hi165_0⟩ := at_T73 HR0_0.out t164 p165 q165
     cases e165
     replace hx165_0 := up HB.out hx165_0
     replace hx165_1 := up HB.out hx165_1
     have HR165_0 := am hi165_0
     have HC165_0 := am hl165_0
     clear hi165_0 hl165_0
     replace p165 := eq_true p165
     replace q165 := eq_true q165
     have p166 : 0 ≤ (x9_1 : Int) := ofb
     have q166 : x9_1 < (((rd_T73 l0_0 t164).f0).length : Int) := ofb
     obtain ⟨ad166, e166, hx166_0, hx166_1, hx166_2, hx166_3, hx166_4⟩ := at_T69 HR165_0.out x9_1 p166 q166
     cases e166
     replace hx166_0 := up HB.out hx166_0
     replace hx166_1 := up HB.out hx166_1
     replace hx166_2 := up HB.out hx166_2
     replace hx166_3 := up HB.out hx166_3
     replace hx166_4 := up HB.out hx166_4
     replace p166 := eq_true p166
     replace q166 := eq_true q166
     go_wp2_with (first | (refine bx 10 #[.int .i64 0, .int .i64 0, .int .i64 0, .int .i64 0, .int .i64 0] 69 rfl ?_; intro gb167 hg w42 hbox hb; replace HO_5 := am (Kd.R_below (pr HO_5.out) hb); have BK167 := am (hbox); have GW167 := am (ge hg (bg1 HB.out GE158.out)); have GE167 := GW167; replace HB := am (below_step (bg1 HB.out GE158.out) hb); have NB158_167 := am (nb hg (pb BK158.out)); have NB167_158 := am (Ne.symm NB158_167.out); replace BK158 := am (blk_below (pb BK158.out) hb); clear hb hbox hg; have hnb43 := NB167_158.out; have hnc43 := NB158_167.out; obtain ⟨hcz44_0, hcz44_1, hcz44_2, hcz44_3, hcz44_4⟩ := b5 BK167.out; obtain ⟨hfz44_0, hfz44_1, hfz44_2, hfz44_3, hfz44_4⟩ := f5 BK167.out; obtain ⟨hcz45_0, hcz45_1⟩ := b2 BK158.out; obtain ⟨hfz45_0, hfz45_1⟩ := f2 BK158.out) | (refine gl 40 Try.func68 #[.slice (some ad165) l0_0.length c0_0, .agg #[.int .i64 ((rd_T69 ((rd_T73 l0_0 t164).f0) x9_1).f0), .int .i64 ((rd_T69 ((rd_T73 l0_0 t164).f0) x9_1).f1.f0), .int .i64 ((rd_T69 ((rd_T73 l0_0 t164).f0) x9_1).f1.f1), .int .i64 ((rd_T69 ((rd_T73 l0_0 t164).f0) x9_1).f1.f2), .int .i64 ((rd_T69 ((rd_T73 l0_0 t164).f0) x9_1).f1.f3)]] rfl ?_; (with_reducible refine (spec_l3Live.calls k1 _ _ l0_0 ((rd_T69 ((rd_T73 l0_0 t164).f0) x9_1).f0) ((rd_T69 ((rd_T73 l0_0 t164).f0) x9_1).f1.f0) ((rd_T69 ((rd_T73 l0_0 t164).f0) x9_1).f1.f1) ((rd_T69 ((rd_T73 l0_0 t164).f0) x9_1).f1.f2) ((rd_T69 ((rd_T73 l0_0 t164).f0) x9_1).f1.f3) false _ ?side1 ?side2 A22.out).mono ?_); (case side1 => exact Kd.C_below HR0_0.out (bg2 HB.out GE158.out GE167.out)); (case side2 => exact HC0_0.out); rintro e w46 ⟨rfl, hb⟩; refine ⟨_, rfl, ?_⟩; replace HO_5 := am (Kd.R_below (pr ((Kd.R_mono (Kd.R_far (p := ⟨gb167, 4, none⟩) (Kd.R_far (p := ⟨gb167, 3, none⟩) (Kd.R_far (p := ⟨gb167, 2, none⟩) (Kd.R_far (p := ⟨gb167, 1, none⟩) (Kd.R_far (p := ⟨gb167, 0, none⟩) (Kd.R_types HO_5.out BK167.out (by decide)) (fun _ hk => hk.2) (.int .i64 ((rd_T69 ((rd_T73 l0_0 t164).f0) x9_1).f0))) (fun _ hk => hk.2) (.int .i64 ((rd_T69 ((rd_T73 l0_0 t164).f0) x9_1).f1.f0))) (fun _ hk => hk.2) (.int .i64 ((rd_T69 ((rd_T73 l0_0 t164).f0) x9_1).f1.f1))) (fun _ hk => hk.2) (.int .i64 ((rd_T69 ((rd_T73 l0_0 t164).f0) x9_1).f1.f2))) (fun _ hk => hk.2) (.int .i64 ((rd_T69 ((rd_T73 l0_0 t164).f0) x9_1).f1.f3))) (fun _ h_ => h_.1)))) hb); replace BK158 := am (blk_below (bf5 (pb BK158.out) NB158_167.out) hb); replace BK167 := am (blk_below (bp5 (pb BK167.out)) hb); replace HB := am (below_step (bg2 HB.out GE158.out GE167.out) hb); clear hb))
     go_roundg k1
     case measure => have := HK1.out; omega
     case rel => exact ⟨(x5_1), (wrap64 (x9_1 + 1)), rf, H', ⟨by have := HK1.out; omega⟩, ⟨pr HO_5.out⟩, ⟨pb BK158.out⟩, ⟨bg2 HB.out GE158.out GE167.out⟩⟩
   subst c23
   rw [if_pos rfl] at H
   by_cases c24 : ((rd_T69 ((rd_T73 l0_0 t164).f0) x9_1).f1.f0) = 1
   rotate_left
   · rw [if_neg c24] at H
     have c24b0 : (((rd_T69 ((rd_T73 l0_0 t164).f0) x9_1).f1.f0) == 1) = false := beq_eq_false_iff_ne.mpr c24
     have c24b1 : (((rd_T69 ((rd_T73 l0_0 t164).f0) x9_1).f1.f0) != 1) = true := bne_iff_ne.mpr c24
     have H' := am H
     clear H
     obtain ⟨hcz34_0, hcz34_1⟩ := b2 BK158.out
     obtain ⟨hfz34_0, hfz34_1⟩ := f2 BK158.out
     have p165 : 0 ≤ (t164 : Int) := ofb
     have q165 : t164 < (l0_0.length : Int) := ofb
     obtain ⟨ad165, A165_0, c165_0, e165, hx165_0, hx165_1, hl165_0, hi165_0⟩ := at_T73 HR0_0.out t164 p165 q165
     cases e165
     replace hx165_0 := up HB.out hx165_0
     replace hx165_1 := up HB.out hx165_1
     have HR165_0 := am hi165_0
     have HC165_0 := am hl165_0
     clear hi165_0 hl165_0
     replace p165 := eq_true p165
     replace q165 := eq_true q165
     have p166 : 0 ≤ (x9_1 : Int) := ofb
     have q166 : x9_1 < (((rd_T73 l0_0 t164).f0).length : Int) := ofb
     obtain ⟨ad166, e166, hx166_0, hx166_1, hx166_2, hx166_3, hx166_4⟩ := at_T69 HR165_0.out x9_1 p166 q166
     cases e166
     replace hx166_0 := up HB.out hx166_0
     replace hx166_1 := up HB.out hx166_1
     replace hx166_2 := up HB.out hx166_2
     replace hx166_3 := up HB.out hx166_3
     replace hx166_4 := up HB.out hx166_4
     replace p166 := eq_true p166
     replace q166 := eq_true q166
     go_wp2_with (first | (refine bx 10 #[.int .i64 0, .int .i64 0, .int .i64 0, .int .i64 0, .int .i64 0] 69 rfl ?_; intro gb167 hg w35 hbox hb; replace HO_5 := am (Kd.R_below (pr HO_5.out) hb); have BK167 := am (hbox); have GW167 := am (ge hg (bg1 HB.out GE158.out)); have GE167 := GW167; replace HB := am (below_step (bg1 HB.out GE158.out) hb); have NB158_167 := am (nb hg (pb BK158.out)); have NB167_158 := am (Ne.symm NB158_167.out); replace BK158 := am (blk_below (pb BK158.out) hb); clear hb hbox hg; have hnb36 := NB167_158.out; have hnc36 := NB158_167.out; obtain ⟨hcz37_0, hcz37_1, hcz37_2, hcz37_3, hcz37_4⟩ := b5 BK167.out; obtain ⟨hfz37_0, hfz37_1, hfz37_2, hfz37_3, hfz37_4⟩ := f5 BK167.out; obtain ⟨hcz38_0, hcz38_1⟩ := b2 BK158.out; obtain ⟨hfz38_0, hfz38_1⟩ := f2 BK158.out) | (refine gl 40 Try.func68 #[.slice (some ad165) l0_0.length c0_0, .agg #[.int .i64 ((rd_T69 ((rd_T73 l0_0 t164).f0) x9_1).f0), .int .i64 ((rd_T69 ((rd_T73 l0_0 t164).f0) x9_1).f1.f0), .int .i64 ((rd_T69 ((rd_T73 l0_0 t164).f0) x9_1).f1.f1), .int .i64 ((rd_T69 ((rd_T73 l0_0 t164).f0) x9_1).f1.f2), .int .i64 ((rd_T69 ((rd_T73 l0_0 t164).f0) x9_1).f1.f3)]] rfl ?_; (with_reducible refine (spec_l3Live.calls k1 _ _ l0_0 ((rd_T69 ((rd_T73 l0_0 t164).f0) x9_1).f0) ((rd_T69 ((rd_T73 l0_0 t164).f0) x9_1).f1.f0) ((rd_T69 ((rd_T73 l0_0 t164).f0) x9_1).f1.f1) ((rd_T69 ((rd_T73 l0_0 t164).f0) x9_1).f1.f2) ((rd_T69 ((rd_T73 l0_0 t164).f0) x9_1).f1.f3) true _ ?side1 ?side2 A22.out).mono ?_); (case side1 => exact Kd.C_below HR0_0.out (bg2 HB.out GE158.out GE167.out)); (case side2 => exact HC0_0.out); rintro e w39 ⟨rfl, hb⟩; refine ⟨_, rfl, ?_⟩; replace HO_5 := am (Kd.R_below (pr ((Kd.R_mono (Kd.R_far (p := ⟨gb167, 4, none⟩) (Kd.R_far (p := ⟨gb167, 3, none⟩) (Kd.R_far (p := ⟨gb167, 2, none⟩) (Kd.R_far (p := ⟨gb167, 1, none⟩) (Kd.R_far (p := ⟨gb167, 0, none⟩) (Kd.R_types HO_5.out BK167.out (by decide)) (fun _ hk => hk.2) (.int .i64 ((rd_T69 ((rd_T73 l0_0 t164).f0) x9_1).f0))) (fun _ hk => hk.2) (.int .i64 ((rd_T69 ((rd_T73 l0_0 t164).f0) x9_1).f1.f0))) (fun _ hk => hk.2) (.int .i64 ((rd_T69 ((rd_T73 l0_0 t164).f0) x9_1).f1.f1))) (fun _ hk => hk.2) (.int .i64 ((rd_T69 ((rd_T73 l0_0 t164).f0) x9_1).f1.f2))) (fun _ hk => hk.2) (.int .i64 ((rd_T69 ((rd_T73 l0_0 t164).f0) x9_1).f1.f3))) (fun _ h_ => h_.1)))) hb); replace BK158 := am (blk_below (bf5 (pb BK158.out) NB158_167.out) hb); replace BK167 := am (blk_below (bp5 (pb BK167.out)) hb); replace HB := am (below_step (bg2 HB.out GE158.out GE167.out) hb); clear hb; have hcz40_0 : w39.cell? ⟨gb167, 0, none⟩ = some (.int .i64 ((rd_T69 ((rd_T73 l0_0 t164).f0) x9_1).f0)) := (blk_cell BK167.out 0).trans rfl; have hcz40_1 : w39.cell? ⟨gb167, 1, none⟩ = some (.int .i64 ((rd_T69 ((rd_T73 l0_0 t164).f0) x9_1).f1.f0)) := (blk_cell BK167.out 1).trans rfl; have hcz40_2 : w39.cell? ⟨gb167, 2, none⟩ = some (.int .i64 ((rd_T69 ((rd_T73 l0_0 t164).f0) x9_1).f1.f1)) := (blk_cell BK167.out 2).trans rfl; have hcz40_3 : w39.cell? ⟨gb167, 3, none⟩ = some (.int .i64 ((rd_T69 ((rd_T73 l0_0 t164).f0) x9_1).f1.f2)) := (blk_cell BK167.out 3).trans rfl; have hcz40_4 : w39.cell? ⟨gb167, 4, none⟩ = some (.int .i64 ((rd_T69 ((rd_T73 l0_0 t164).f0) x9_1).f1.f3)) := (blk_cell BK167.out 4).trans rfl; obtain ⟨hfz40_0, hfz40_1, hfz40_2, hfz40_3, hfz40_4⟩ := f5 BK167.out))
     go_roundg k1
     case measure => have := HK1.out; omega
     case rel => exact ⟨(x5_1), (wrap64 (x9_1 + 1)), rf, H', ⟨by have := HK1.out; omega⟩, ⟨pr HO_5.out⟩, ⟨pb BK158.out⟩, ⟨bg2 HB.out GE158.out GE167.out⟩⟩
   rw [if_pos c24] at H
   have c24b0 : (((rd_T69 ((rd_T73 l0_0 t164).f0) x9_1).f1.f0) == 1) = true := beq_iff_eq.mpr c24
   have c24b1 : (((rd_T69 ((rd_T73 l0_0 t164).f0) x9_1).f1.f0) != 1) = false := bne_eq_false_iff_eq.mpr c24
   clear c24
   by_cases c25 : x5_1.length < 2199023255552
   rotate_left
   · rw [if_neg c25] at H
     exact absurd H (by simp)
   rw [if_pos c25] at H
   have LMc25 := am c25
   clear c25
   obtain ⟨y169, hy169⟩ : ∃ y_ : List (S38), y_ = (x5_1 ++ [(⟨1, (rd_T69 ((rd_T73 l0_0 t164).f0) x9_1).f1.f2, (rd_T69 ((rd_T73 l0_0 t164).f0) x9_1).f1.f3, 0, (⟨0, 0, 0, 0⟩ : S36)⟩ : S38)]) := ⟨_, rfl⟩
   replace H : (spec_l12Room.l0 k1 y169 t164 (wrap64 (x9_1 + 1)) l0_0 l0_1) = some (r1, r2, r3) := yy hy169 H
   have Ny169 := am hy169
   clear hy169
   have H' := am H
   clear H
   obtain ⟨hcz26_0, hcz26_1⟩ := b2 BK158.out
   obtain ⟨hfz26_0, hfz26_1⟩ := f2 BK158.out
   have p165 : 0 ≤ (t164 : Int) := ofb
   have q165 : t164 < (l0_0.length : Int) := ofb
   obtain ⟨ad165, A165_0, c165_0, e165, hx165_0, hx165_1, hl165_0, hi165_0⟩ := at_T73 HR0_0.out t164 p165 q165
   cases e165
   replace hx165_0 := up HB.out hx165_0
   replace hx165_1 := up HB.out hx165_1
   have HR165_0 := am hi165_0
   have HC165_0 := am hl165_0
   clear hi165_0 hl165_0
   replace p165 := eq_true p165
   replace q165 := eq_true q165
   have p166 : 0 ≤ (x9_1 : Int) := ofb
   have q166 : x9_1 < (((rd_T73 l0_0 t164).f0).length : Int) := ofb
   obtain ⟨ad166, e166, hx166_0, hx166_1, hx166_2, hx166_3, hx166_4⟩ := at_T69 HR165_0.out x9_1 p166 q166
   cases e166
   replace hx166_0 := up HB.out hx166_0
   replace hx166_1 := up HB.out hx166_1
   replace hx166_2 := up HB.out hx166_2
   replace hx166_3 := up HB.out hx166_3
   replace hx166_4 := up HB.out hx166_4
   replace p166 := eq_true p166
   replace q166 := eq_true q166
   go_wp2_with (first | (refine bx 10 #[.int .i64 0, .int .i64 0, .int .i64 0, .int .i64 0, .int .i64 0] 69 rfl ?_; intro gb167 hg w27 hbox hb; replace HO_5 := am (Kd.R_below (pr HO_5.out) hb); have BK167 := am (hbox); have GW167 := am (ge hg (bg1 HB.out GE158.out)); have GE167 := GW167; replace HB := am (below_step (bg1 HB.out GE158.out) hb); have NB158_167 := am (nb hg (pb BK158.out)); have NB167_158 := am (Ne.symm NB158_167.out); replace BK158 := am (blk_below (pb BK158.out) hb); clear hb hbox hg; have hnb28 := NB167_158.out; have hnc28 := NB158_167.out; obtain ⟨hcz29_0, hcz29_1, hcz29_2, hcz29_3, hcz29_4⟩ := b5 BK167.out; obtain ⟨hfz29_0, hfz29_1, hfz29_2, hfz29_3, hfz29_4⟩ := f5 BK167.out; obtain ⟨hcz30_0, hcz30_1⟩ := b2 BK158.out; obtain ⟨hfz30_0, hfz30_1⟩ := f2 BK158.out) | (refine gl 40 Try.func68 #[.slice (some ad165) l0_0.length c0_0, .agg #[.int .i64 ((rd_T69 ((rd_T73 l0_0 t164).f0) x9_1).f0), .int .i64 ((rd_T69 ((rd_T73 l0_0 t164).f0) x9_1).f1.f0), .int .i64 ((rd_T69 ((rd_T73 l0_0 t164).f0) x9_1).f1.f1), .int .i64 ((rd_T69 ((rd_T73 l0_0 t164).f0) x9_1).f1.f2), .int .i64 ((rd_T69 ((rd_T73 l0_0 t164).f0) x9_1).f1.f3)]] rfl ?_; (with_reducible refine (spec_l3Live.calls k1 _ _ l0_0 ((rd_T69 ((rd_T73 l0_0 t164).f0) x9_1).f0) ((rd_T69 ((rd_T73 l0_0 t164).f0) x9_1).f1.f0) ((rd_T69 ((rd_T73 l0_0 t164).f0) x9_1).f1.f1) ((rd_T69 ((rd_T73 l0_0 t164).f0) x9_1).f1.f2) ((rd_T69 ((rd_T73 l0_0 t164).f0) x9_1).f1.f3) true _ ?side1 ?side2 A22.out).mono ?_); (case side1 => exact Kd.C_below HR0_0.out (bg2 HB.out GE158.out GE167.out)); (case side2 => exact HC0_0.out); rintro e w31 ⟨rfl, hb⟩; refine ⟨_, rfl, ?_⟩; replace HO_5 := am (Kd.R_below (pr ((Kd.R_mono (Kd.R_far (p := ⟨gb167, 4, none⟩) (Kd.R_far (p := ⟨gb167, 3, none⟩) (Kd.R_far (p := ⟨gb167, 2, none⟩) (Kd.R_far (p := ⟨gb167, 1, none⟩) (Kd.R_far (p := ⟨gb167, 0, none⟩) (Kd.R_types HO_5.out BK167.out (by decide)) (fun _ hk => hk.2) (.int .i64 ((rd_T69 ((rd_T73 l0_0 t164).f0) x9_1).f0))) (fun _ hk => hk.2) (.int .i64 ((rd_T69 ((rd_T73 l0_0 t164).f0) x9_1).f1.f0))) (fun _ hk => hk.2) (.int .i64 ((rd_T69 ((rd_T73 l0_0 t164).f0) x9_1).f1.f1))) (fun _ hk => hk.2) (.int .i64 ((rd_T69 ((rd_T73 l0_0 t164).f0) x9_1).f1.f2))) (fun _ hk => hk.2) (.int .i64 ((rd_T69 ((rd_T73 l0_0 t164).f0) x9_1).f1.f3))) (fun _ h_ => h_.1)))) hb); replace BK158 := am (blk_below (bf5 (pb BK158.out) NB158_167.out) hb); replace BK167 := am (blk_below (bp5 (pb BK167.out)) hb); replace HB := am (below_step (bg2 HB.out GE158.out GE167.out) hb); clear hb; have hcz32_0 : w31.cell? ⟨gb167, 0, none⟩ = some (.int .i64 ((rd_T69 ((rd_T73 l0_0 t164).f0) x9_1).f0)) := (blk_cell BK167.out 0).trans rfl; have hcz32_1 : w31.cell? ⟨gb167, 1, none⟩ = some (.int .i64 ((rd_T69 ((rd_T73 l0_0 t164).f0) x9_1).f1.f0)) := (blk_cell BK167.out 1).trans rfl; have hcz32_2 : w31.cell? ⟨gb167, 2, none⟩ = some (.int .i64 ((rd_T69 ((rd_T73 l0_0 t164).f0) x9_1).f1.f1)) := (blk_cell BK167.out 2).trans rfl; have hcz32_3 : w31.cell? ⟨gb167, 3, none⟩ = some (.int .i64 ((rd_T69 ((rd_T73 l0_0 t164).f0) x9_1).f1.f2)) := (blk_cell BK167.out 3).trans rfl; have hcz32_4 : w31.cell? ⟨gb167, 4, none⟩ = some (.int .i64 ((rd_T69 ((rd_T73 l0_0 t164).f0) x9_1).f1.f3)) := (blk_cell BK167.out 4).trans rfl; obtain ⟨hfz32_0, hfz32_1, hfz32_2, hfz32_3, hfz32_4⟩ := f5 BK167.out) | ((with_reducible refine gate_builtin (b := .append) (xs := #[.tmp 47, .tmp 55]) rfl ?_); at_builtin; refine Kd.R_append k38 (w0 := w) w.heap.size rfl (.tmp 47) (.tmp 55) 29 38 (.agg #[(.int .i64 0), (.int .i64 0), (.int .i64 0), (.int .i64 0), (.int .i64 0), (.int .i64 0), (.int .i64 0), (.int .i64 0)]) 64 rfl Try.underlying29 info38 rfl (by decide) (by omega) u5 x5_1 (⟨1, (rd_T69 ((rd_T73 l0_0 t164).f0) x9_1).f1.f2, (rd_T69 ((rd_T73 l0_0 t164).f0) x9_1).f1.f3, 0, (⟨0, 0, 0, 0⟩ : S36)⟩ : S38) [.int .i64 1, .int .i64 ((rd_T69 ((rd_T73 l0_0 t164).f0) x9_1).f1.f2), .int .i64 ((rd_T69 ((rd_T73 l0_0 t164).f0) x9_1).f1.f3), .int .i64 0, .int .i64 0, .int .i64 0, .int .i64 0, .int .i64 0] (fun _ => True) (fun _ => False) rfl rfl ?aP (fun _ hk => hk.elim) ?aF ?aO ?aB ?aS ?aL ?_; (case aP => exact k38_mkM _ _ _ (⟨1, (rd_T69 ((rd_T73 l0_0 t164).f0) x9_1).f1.f2, (rd_T69 ((rd_T73 l0_0 t164).f0) x9_1).f1.f3, 0, (⟨0, 0, 0, 0⟩ : S36)⟩ : S38)); (case aB => exact (bg2 HB.out GE158.out GE167.out)); (case aF => exact (fun _ _ => trivial)); (case aO => exact (pr HO_5.out)); (case aS => exact (below_size (bg2 HB.out GE158.out GE167.out))); (case aL => have := LMc25.out; omega); intro v170 w33 ho hb hg hat; rw [← Ny169.out] at ho; replace BK158 := am (blk_grown (g := gb158) (o := .cells #[.slice (some ad165) l0_0.length c0_0, .slice A0_1 l0_1.length c0_1] 26 (0, 0)) (pb BK158.out) hg (Kd.R_ne HO_5.out BK158.out (by decide))); replace BK167 := am (blk_grown (g := gb167) (o := .cells #[.int .i64 ((rd_T69 ((rd_T73 l0_0 t164).f0) x9_1).f0), .int .i64 ((rd_T69 ((rd_T73 l0_0 t164).f0) x9_1).f1.f0), .int .i64 ((rd_T69 ((rd_T73 l0_0 t164).f0) x9_1).f1.f1), .int .i64 ((rd_T69 ((rd_T73 l0_0 t164).f0) x9_1).f1.f2), .int .i64 ((rd_T69 ((rd_T73 l0_0 t164).f0) x9_1).f1.f3)] 69 (0, 0)) (pb BK167.out) hg (Kd.R_ne HO_5.out BK167.out (by decide))); replace HB := am (hb); have HO171 := am (ho); clear HO_5; clear ho hb hg hat))
   go_roundg k1
   case measure => have := HK1.out; omega
   case rel => exact ⟨(y169), (wrap64 (x9_1 + 1)), rf, H', ⟨by have := HK1.out; omega⟩, ⟨pr HO171.out⟩, ⟨pb BK158.out⟩, ⟨bg2 HB.out GE158.out GE167.out⟩⟩
def spec_l12Write.f (k : Nat) (l0_0 : List (S73)) (l0_1 : List Int) (a1 : Int) (a2 : Int) (a3 : Int) : Option ((List (S38))) := (spec_l3Next.f k l0_0).bind fun t177 => ((spec_l12Room.f k l0_0 l0_1).bind fun bt179 => (if bt179.2.2 = true then ((spec_RecOk.f a1 t177 a2 a3).bind fun t184 => (if t184 = true then (if bt179.1.length < 2199023255552 then (some (bt179.1 ++ [(⟨3, 0, 0, bt179.2.1, (⟨a1, t177, a2, a3⟩ : S36)⟩ : S38)])) else (none)) else (some (([] : List (S38)))))) else (some (([] : List (S38))))))
theorem spec_l12Write.calls (k : Nat) (A0_0 : Option Addr) (c0_0 : Nat) (l0_0 : List (S73)) (A0_1 : Option Addr) (c0_1 : Nat) (l0_1 : List Int) (a1 : Int) (a2 : Int) (a3 : Int) (r : List (S38)) (w : World) (hr0_0 : Kd.C k73 w A0_0 l0_0.length l0_0) (hc0_0 : l0_0.length ≤ c0_0) (hr0_1 : Kd.C (Kd.int .i64) w A0_1 l0_1.length l0_1) (hc0_1 : l0_1.length ≤ c0_1) (h : spec_l12Write.f k l0_0 l0_1 a1 a2 a3 = some r) :
 Calls Try.prog 40 #[.agg #[.slice A0_0 l0_0.length c0_0, .slice A0_1 l0_1.length c0_1], .int .i64 a1, .int .i64 a2, .int .i64 a3] w fun e w' => ∃ v0_ : Value, e = .returned (v0_) ∧ Kd.R k38 38 w' w.heap.size (fun _ => True) v0_ r ∧ Below w.heap.size w w' := by
 have hu26 := Try.underlying26
 have hu36 := Try.underlying36
 have hu38 := Try.underlying38
 have HR0_0 := am hr0_0
 have HC0_0 := am hc0_0
 clear hr0_0 hc0_0
 have HR0_1 := am hr0_1
 have HC0_1 := am hc0_1
 clear hr0_1 hc0_1
 have HB := am (Below.refl w.heap.size w)
 have H : ((spec_l3Next.f k l0_0).bind fun t177 => ((spec_l12Room.f k l0_0 l0_1).bind fun bt179 => (if bt179.2.2 = true then ((spec_RecOk.f a1 t177 a2 a3).bind fun t184 => (if t184 = true then (if bt179.1.length < 2199023255552 then (some (bt179.1 ++ [(⟨3, 0, 0, bt179.2.1, (⟨a1, t177, a2, a3⟩ : S36)⟩ : S38)])) else (none)) else (some (([] : List (S38)))))) else (some (([] : List (S38))))))) = some r := h
 clear h
 replace H := Option.bind_eq_some_iff.mp H
 obtain ⟨t177, A50, H⟩ := H
 have A5 := am A50
 clear A50
 replace H := Option.bind_eq_some_iff.mp H
 obtain ⟨⟨t179, t182, t183⟩, A60, H⟩ := H
 have A6 := am A60
 clear A60
 by_cases c7 : t183 = true
 rotate_left
 · replace c7 := Bool.eq_false_iff.mpr c7
   subst c7
   rw [if_neg (show ¬ (false = true) by decide)] at H
   obtain ⟨y191, hy191⟩ : ∃ y_ : List (S38), y_ = (([] : List (S38))) := ⟨_, rfl⟩
   replace H : (some y191) = some r := yy hy191 H
   have Ny191 := am hy191
   clear hy191
   obtain rfl := Option.some.inj H
   go_enter Try.func40, Try.ntmps40
   go_wp2_with (first | (refine bx 4 #[.slice A0_0 l0_0.length c0_0, .slice A0_1 l0_1.length c0_1] 26 rfl ?_; intro gb176 hg w35 hbox hb; have BK176 := am (hbox); have GW176 := am (ge hg (ph HB.out)); have GE176 := GW176; replace HB := am (below_step (ph HB.out) hb); clear hb hbox hg; obtain ⟨hcz36_0, hcz36_1⟩ := b2 BK176.out; obtain ⟨hfz36_0, hfz36_1⟩ := f2 BK176.out) | (refine gl 16 Try.func58 #[.slice A0_0 l0_0.length c0_0] rfl ?_; (with_reducible refine (spec_l3Next.calls k _ _ l0_0 t177 _ ?side1 ?side2 A5.out).mono ?_); (case side1 => exact pc (Kd.C_below HR0_0.out HB.out)); (case side2 => exact HC0_0.out); rintro e w37 ⟨rfl, hb⟩; refine ⟨_, rfl, ?_⟩; replace BK176 := am (blk_below (pb BK176.out) hb); replace HB := am (below_step (bg1 HB.out GE176.out) hb); clear hb) | (refine bx 9 #[.int .i64 0, .int .i64 0, .int .i64 0, .int .i64 0] 36 rfl ?_; intro gb178 hg w38 hbox hb; have BK178 := am (hbox); have GW178 := am (ge hg (bg1 HB.out GE176.out)); have GE178 := GW178; replace HB := am (below_step (bg1 HB.out GE176.out) hb); have NB176_178 := am (nb hg (pb BK176.out)); have NB178_176 := am (Ne.symm NB176_178.out); replace BK176 := am (blk_below (pb BK176.out) hb); clear hb hbox hg; have hnb39 := NB178_176.out; have hnc39 := NB176_178.out; obtain ⟨hcz40_0, hcz40_1, hcz40_2, hcz40_3⟩ := b4 BK178.out; obtain ⟨hfz40_0, hfz40_1, hfz40_2, hfz40_3⟩ := f4 BK178.out; obtain ⟨hcz41_0, hcz41_1⟩ := b2 BK176.out; obtain ⟨hfz41_0, hfz41_1⟩ := f2 BK176.out) | (refine gl 22 Try.func59 #[.agg #[.slice A0_0 l0_0.length c0_0, .slice A0_1 l0_1.length c0_1]] rfl ?_; (with_reducible refine (spec_l12Room.calls k _ _ l0_0 _ _ l0_1 t179 t182 false _ ?side1 ?side2 ?side3 ?side4 A6.out).mono ?_); (case side1 => exact Kd.C_below HR0_0.out (bg2 HB.out GE176.out GE178.out)); (case side2 => exact HC0_0.out); (case side3 => exact Kd.C_below HR0_1.out (bg2 HB.out GE176.out GE178.out)); (case side4 => exact HC0_1.out); rintro e w42 ⟨v180, rfl, ho0, hb⟩; refine ⟨_, rfl, ?_⟩; have HO181 := am (Kd.R_lower ho0 (below_size (bg2 HB.out GE176.out GE178.out))); replace BK176 := am (blk_below (bf4 (pb BK176.out) NB176_178.out) hb); replace BK178 := am (blk_below (bp4 (pb BK178.out)) hb); replace HB := am (below_step (bg2 HB.out GE176.out GE178.out) hb); clear hb ho0) | ((with_reducible refine gate_dst (N := 33) rfl ?_); refine Kd.R_lit k38 _ 38 ?hg (N := 33) ?hd (xs := ([] : List (S38))) (inner := []) (ok := fun _ => True) (okp := fun _ => True) ?hr ?hp (fun _ hk => hk) trivial (Below.refl _ _) (Nat.le_refl _) (by simp) ?_; (case hd => rfl); (case hg => rfl); (case hr => first | (go_simp; done) | (go_simp; rfl)); (case hp => exact (Reps.none _ _)); intro v192 w43 ho44 hb hg_ hnew_; clear hg_ hnew_; (first | rw [← Ny191.out] at ho44 | (simp only [Int.reduceToNat] at ho44; rw [← Ny191.out] at ho44)); have HO193 := am (Kd.R_lower (Kd.R_new' ho44 (Kd.R_lt (pr HO181.out))) (below_size (bg2 HB.out GE176.out GE178.out))); replace HO181 := am (Kd.R_elder' (pr HO181.out) (Kd.R_base ho44) hb); replace BK176 := am (blk_below (pb BK176.out) hb); replace BK178 := am (blk_below (pb BK178.out) hb); replace HB := am (below_step (bg2 HB.out GE176.out GE178.out) hb); clear hb ho44))
   go_ret
   exact ⟨_, rq ⟨pr (Kd.R_mono HO193.out (fun _ hk => trivial)), bg2 HB.out GE176.out GE178.out⟩⟩
 subst c7
 rw [if_pos rfl] at H
 replace H := Option.bind_eq_some_iff.mp H
 obtain ⟨t184, A80, H⟩ := H
 have A8 := am A80
 clear A80
 by_cases c9 : t184 = true
 rotate_left
 · replace c9 := Bool.eq_false_iff.mpr c9
   subst c9
   rw [if_neg (show ¬ (false = true) by decide)] at H
   obtain ⟨y188, hy188⟩ : ∃ y_ : List (S38), y_ = (([] : List (S38))) := ⟨_, rfl⟩
   replace H : (some y188) = some r := yy hy188 H
   have Ny188 := am hy188
   clear hy188
   obtain rfl := Option.some.inj H
   go_enter Try.func40, Try.ntmps40
   go_wp2_with (first | (refine bx 4 #[.slice A0_0 l0_0.length c0_0, .slice A0_1 l0_1.length c0_1] 26 rfl ?_; intro gb176 hg w23 hbox hb; have BK176 := am (hbox); have GW176 := am (ge hg (ph HB.out)); have GE176 := GW176; replace HB := am (below_step (ph HB.out) hb); clear hb hbox hg; obtain ⟨hcz24_0, hcz24_1⟩ := b2 BK176.out; obtain ⟨hfz24_0, hfz24_1⟩ := f2 BK176.out) | (refine gl 16 Try.func58 #[.slice A0_0 l0_0.length c0_0] rfl ?_; (with_reducible refine (spec_l3Next.calls k _ _ l0_0 t177 _ ?side1 ?side2 A5.out).mono ?_); (case side1 => exact pc (Kd.C_below HR0_0.out HB.out)); (case side2 => exact HC0_0.out); rintro e w25 ⟨rfl, hb⟩; refine ⟨_, rfl, ?_⟩; replace BK176 := am (blk_below (pb BK176.out) hb); replace HB := am (below_step (bg1 HB.out GE176.out) hb); clear hb) | (refine bx 9 #[.int .i64 0, .int .i64 0, .int .i64 0, .int .i64 0] 36 rfl ?_; intro gb178 hg w26 hbox hb; have BK178 := am (hbox); have GW178 := am (ge hg (bg1 HB.out GE176.out)); have GE178 := GW178; replace HB := am (below_step (bg1 HB.out GE176.out) hb); have NB176_178 := am (nb hg (pb BK176.out)); have NB178_176 := am (Ne.symm NB176_178.out); replace BK176 := am (blk_below (pb BK176.out) hb); clear hb hbox hg; have hnb27 := NB178_176.out; have hnc27 := NB176_178.out; obtain ⟨hcz28_0, hcz28_1, hcz28_2, hcz28_3⟩ := b4 BK178.out; obtain ⟨hfz28_0, hfz28_1, hfz28_2, hfz28_3⟩ := f4 BK178.out; obtain ⟨hcz29_0, hcz29_1⟩ := b2 BK176.out; obtain ⟨hfz29_0, hfz29_1⟩ := f2 BK176.out) | (refine gl 22 Try.func59 #[.agg #[.slice A0_0 l0_0.length c0_0, .slice A0_1 l0_1.length c0_1]] rfl ?_; (with_reducible refine (spec_l12Room.calls k _ _ l0_0 _ _ l0_1 t179 t182 true _ ?side1 ?side2 ?side3 ?side4 A6.out).mono ?_); (case side1 => exact Kd.C_below HR0_0.out (bg2 HB.out GE176.out GE178.out)); (case side2 => exact HC0_0.out); (case side3 => exact Kd.C_below HR0_1.out (bg2 HB.out GE176.out GE178.out)); (case side4 => exact HC0_1.out); rintro e w30 ⟨v180, rfl, ho0, hb⟩; refine ⟨_, rfl, ?_⟩; have HO181 := am (Kd.R_lower ho0 (below_size (bg2 HB.out GE176.out GE178.out))); replace BK176 := am (blk_below (bf4 (pb BK176.out) NB176_178.out) hb); replace BK178 := am (blk_below (bp4 (pb BK178.out)) hb); replace HB := am (below_step (bg2 HB.out GE176.out GE178.out) hb); clear hb ho0; obtain ⟨hcz31_0, hcz31_1, hcz31_2, hcz31_3⟩ := b4 BK178.out; obtain ⟨hfz31_0, hfz31_1, hfz31_2, hfz31_3⟩ := f4 BK178.out) | (go_at_call 60; (with_reducible refine (spec_RecOk.calls a1 t177 a2 a3 false _ A8.out).mono ?_); rintro e w32 ⟨rfl, hb⟩; replace HO181 := am (Kd.R_below (pr HO181.out) hb); replace BK176 := am (blk_below (pb BK176.out) hb); replace BK178 := am (blk_below (pb BK178.out) hb); replace HB := am (below_step (bg2 HB.out GE176.out GE178.out) hb); clear hb) | ((with_reducible refine gate_dst (N := 33) rfl ?_); refine Kd.R_lit k38 _ 38 ?hg (N := 33) ?hd (xs := ([] : List (S38))) (inner := []) (ok := fun _ => True) (okp := fun _ => True) ?hr ?hp (fun _ hk => hk) trivial (Below.refl _ _) (Nat.le_refl _) (by simp) ?_; (case hd => rfl); (case hg => rfl); (case hr => first | (go_simp; done) | (go_simp; rfl)); (case hp => exact (Reps.none _ _)); intro v189 w33 ho34 hb hg_ hnew_; clear hg_ hnew_; (first | rw [← Ny188.out] at ho34 | (simp only [Int.reduceToNat] at ho34; rw [← Ny188.out] at ho34)); have HO190 := am (Kd.R_lower (Kd.R_new' ho34 (Kd.R_lt (pr HO181.out))) (below_size (bg2 HB.out GE176.out GE178.out))); replace HO181 := am (Kd.R_elder' (pr HO181.out) (Kd.R_base ho34) hb); replace BK176 := am (blk_below (pb BK176.out) hb); replace BK178 := am (blk_below (pb BK178.out) hb); replace HB := am (below_step (bg2 HB.out GE176.out GE178.out) hb); clear hb ho34))
   go_ret
   exact ⟨_, rq ⟨pr (Kd.R_mono HO190.out (fun _ hk => trivial)), bg2 HB.out GE176.out GE178.out⟩⟩
 subst c9
 rw [if_pos rfl] at H
 by_cases c10 : t179.length < 2199023255552
 rotate_left
 · rw [if_neg c10] at H
   exact absurd H (by simp)
 rw [if_pos c10] at H
 have LMc10 := am c10
 clear c10
 obtain ⟨y185, hy185⟩ : ∃ y_ : List (S38), y_ = (t179 ++ [(⟨3, 0, 0, t182, (⟨a1, t177, a2, a3⟩ : S36)⟩ : S38)]) := ⟨_, rfl⟩
 replace H : (some y185) = some r := yy hy185 H
 have Ny185 := am hy185
 clear hy185
 obtain rfl := Option.some.inj H
 go_enter Try.func40, Try.ntmps40
 go_wp2_with (first | (refine bx 4 #[.slice A0_0 l0_0.length c0_0, .slice A0_1 l0_1.length c0_1] 26 rfl ?_; intro gb176 hg w11 hbox hb; have BK176 := am (hbox); have GW176 := am (ge hg (ph HB.out)); have GE176 := GW176; replace HB := am (below_step (ph HB.out) hb); clear hb hbox hg; obtain ⟨hcz12_0, hcz12_1⟩ := b2 BK176.out; obtain ⟨hfz12_0, hfz12_1⟩ := f2 BK176.out) | (refine gl 16 Try.func58 #[.slice A0_0 l0_0.length c0_0] rfl ?_; (with_reducible refine (spec_l3Next.calls k _ _ l0_0 t177 _ ?side1 ?side2 A5.out).mono ?_); (case side1 => exact pc (Kd.C_below HR0_0.out HB.out)); (case side2 => exact HC0_0.out); rintro e w13 ⟨rfl, hb⟩; refine ⟨_, rfl, ?_⟩; replace BK176 := am (blk_below (pb BK176.out) hb); replace HB := am (below_step (bg1 HB.out GE176.out) hb); clear hb) | (refine bx 9 #[.int .i64 0, .int .i64 0, .int .i64 0, .int .i64 0] 36 rfl ?_; intro gb178 hg w14 hbox hb; have BK178 := am (hbox); have GW178 := am (ge hg (bg1 HB.out GE176.out)); have GE178 := GW178; replace HB := am (below_step (bg1 HB.out GE176.out) hb); have NB176_178 := am (nb hg (pb BK176.out)); have NB178_176 := am (Ne.symm NB176_178.out); replace BK176 := am (blk_below (pb BK176.out) hb); clear hb hbox hg; have hnb15 := NB178_176.out; have hnc15 := NB176_178.out; obtain ⟨hcz16_0, hcz16_1, hcz16_2, hcz16_3⟩ := b4 BK178.out; obtain ⟨hfz16_0, hfz16_1, hfz16_2, hfz16_3⟩ := f4 BK178.out; obtain ⟨hcz17_0, hcz17_1⟩ := b2 BK176.out; obtain ⟨hfz17_0, hfz17_1⟩ := f2 BK176.out) | (refine gl 22 Try.func59 #[.agg #[.slice A0_0 l0_0.length c0_0, .slice A0_1 l0_1.length c0_1]] rfl ?_; (with_reducible refine (spec_l12Room.calls k _ _ l0_0 _ _ l0_1 t179 t182 true _ ?side1 ?side2 ?side3 ?side4 A6.out).mono ?_); (case side1 => exact Kd.C_below HR0_0.out (bg2 HB.out GE176.out GE178.out)); (case side2 => exact HC0_0.out); (case side3 => exact Kd.C_below HR0_1.out (bg2 HB.out GE176.out GE178.out)); (case side4 => exact HC0_1.out); rintro e w18 ⟨v180, rfl, ho0, hb⟩; refine ⟨_, rfl, ?_⟩; have HO181 := am (Kd.R_lower ho0 (below_size (bg2 HB.out GE176.out GE178.out))); replace BK176 := am (blk_below (bf4 (pb BK176.out) NB176_178.out) hb); replace BK178 := am (blk_below (bp4 (pb BK178.out)) hb); replace HB := am (below_step (bg2 HB.out GE176.out GE178.out) hb); clear hb ho0; obtain ⟨hcz19_0, hcz19_1, hcz19_2, hcz19_3⟩ := b4 BK178.out; obtain ⟨hfz19_0, hfz19_1, hfz19_2, hfz19_3⟩ := f4 BK178.out) | (go_at_call 60; (with_reducible refine (spec_RecOk.calls a1 t177 a2 a3 true _ A8.out).mono ?_); rintro e w20 ⟨rfl, hb⟩; replace HO181 := am (Kd.R_below (pr HO181.out) hb); replace BK176 := am (blk_below (pb BK176.out) hb); replace BK178 := am (blk_below (pb BK178.out) hb); replace HB := am (below_step (bg2 HB.out GE176.out GE178.out) hb); clear hb; obtain ⟨hcz21_0, hcz21_1, hcz21_2, hcz21_3⟩ := b4 BK178.out; obtain ⟨hfz21_0, hfz21_1, hfz21_2, hfz21_3⟩ := f4 BK178.out) | ((with_reducible refine gate_builtin (b := .append) (xs := #[.tmp 34, .tmp 38]) rfl ?_); at_builtin; refine Kd.R_append k38 (w0 := w) w.heap.size rfl (.tmp 34) (.tmp 38) 29 38 (.agg #[(.int .i64 0), (.int .i64 0), (.int .i64 0), (.int .i64 0), (.int .i64 0), (.int .i64 0), (.int .i64 0), (.int .i64 0)]) 64 rfl Try.underlying29 info38 rfl (by decide) (by omega) v180 t179 (⟨3, 0, 0, t182, (⟨a1, t177, a2, a3⟩ : S36)⟩ : S38) [.int .i64 3, .int .i64 0, .int .i64 0, .int .i64 t182, .int .i64 a1, .int .i64 t177, .int .i64 a2, .int .i64 a3] (fun _ => True) (fun _ => False) rfl rfl ?aP (fun _ hk => hk.elim) ?aF ?aO ?aB ?aS ?aL ?_; (case aP => exact k38_mkM _ _ _ (⟨3, 0, 0, t182, (⟨a1, t177, a2, a3⟩ : S36)⟩ : S38)); (case aB => exact (bg2 HB.out GE176.out GE178.out)); (case aF => exact (fun _ _ => trivial)); (case aO => exact (pr HO181.out)); (case aS => exact (below_size (bg2 HB.out GE176.out GE178.out))); (case aL => have := LMc10.out; omega); intro v186 w22 ho hb hg hat; rw [← Ny185.out] at ho; replace BK176 := am (blk_grown (g := gb176) (o := .cells #[.slice A0_0 l0_0.length c0_0, .slice A0_1 l0_1.length c0_1] 26 (0, 0)) (pb BK176.out) hg (Kd.R_ne HO181.out BK176.out (by decide))); replace BK178 := am (blk_grown (g := gb178) (o := .cells #[.int .i64 a1, .int .i64 t177, .int .i64 a2, .int .i64 a3] 36 (0, 0)) (pb BK178.out) hg (Kd.R_ne HO181.out BK178.out (by decide))); replace HB := am (hb); have HO187 := am (ho); clear HO181; clear ho hb hg hat))
 go_ret
 exact ⟨_, rq ⟨pr HO187.out, bg2 HB.out GE176.out GE178.out⟩⟩
def spec_l12Flush.j0 : Nat → Int → Bool → List (S73) → List Int → Option ((List (S38)))
 | 0, _, _, _, _ => none
 | k + 1, x1, x15, x195000, x195001 => if x15 = true then (some (([] : List (S38)))) else ((spec_l11Read.f k x195000 x195001 x1).bind fun t200 => ((spec_l12Write.f k x195000 x195001 2 x1 t200).bind fun t201 => (if (t201.length : Int) = 0 then (some t201) else ((some (([(⟨1, x1, t200, 0, (⟨0, 0, 0, 0⟩ : S36)⟩ : S38)] : List (S38)) : List (S38))).bind fun y204 => (if y204.length + t201.length < 2199023255552 then (some (y204 ++ t201)) else (none))))))
def spec_l12Flush.f (k : Nat) (l0_0 : List (S73)) (l0_1 : List Int) (a1 : Int) : Option ((List (S38))) := (spec_l6In.f a1 1 6).bind fun t195 => (if t195 = true then ((spec_l11Dirty.f k l0_0 l0_1 a1).bind fun t196 => (spec_l12Flush.j0 k a1 (!t196) l0_0 l0_1)) else (spec_l12Flush.j0 k a1 true l0_0 l0_1))
theorem spec_l12Flush.calls (k : Nat) (A0_0 : Option Addr) (c0_0 : Nat) (l0_0 : List (S73)) (A0_1 : Option Addr) (c0_1 : Nat) (l0_1 : List Int) (a1 : Int) (r : List (S38)) (w : World) (hr0_0 : Kd.C k73 w A0_0 l0_0.length l0_0) (hc0_0 : l0_0.length ≤ c0_0) (hr0_1 : Kd.C (Kd.int .i64) w A0_1 l0_1.length l0_1) (hc0_1 : l0_1.length ≤ c0_1) (h : spec_l12Flush.f k l0_0 l0_1 a1 = some r) :
 Calls Try.prog 20 #[.agg #[.slice A0_0 l0_0.length c0_0, .slice A0_1 l0_1.length c0_1], .int .i64 a1] w fun e w' => ∃ v0_ : Value, e = .returned (v0_) ∧ Kd.R k38 38 w' w.heap.size (fun _ => True) v0_ r ∧ Below w.heap.size w w' := by
 have hu26 := Try.underlying26
 have hu38 := Try.underlying38
 have HR0_0 := am hr0_0
 have HC0_0 := am hc0_0
 clear hr0_0 hc0_0
 have HR0_1 := am hr0_1
 have HC0_1 := am hc0_1
 clear hr0_1 hc0_1
 have HB := am (Below.refl w.heap.size w)
 have H : ((spec_l6In.f a1 1 6).bind fun t195 => (if t195 = true then ((spec_l11Dirty.f k l0_0 l0_1 a1).bind fun t196 => (spec_l12Flush.j0 k a1 (!t196) l0_0 l0_1)) else (spec_l12Flush.j0 k a1 true l0_0 l0_1))) = some r := h
 clear h
 have HC3 := am H
 clear H
 go_enter Try.func20, Try.ntmps20
 go_upto_region 1 with (first | (refine bx 2 #[.slice A0_0 l0_0.length c0_0, .slice A0_1 l0_1.length c0_1] 26 rfl ?_; intro gb194 hg w4 hbox hb; have BK194 := am (hbox); have GW194 := am (ge hg (ph HB.out)); have GE194 := GW194; replace HB := am (below_step (ph HB.out) hb); clear hb hbox hg))
 (try simp only [Act.put, List.setIfInBounds_toArray, List.set_cons_zero, List.set_cons_succ])
 go_cut [15] (fun v15 wc => ∃ (kq : Nat) (x15_2 : Bool), v15 = .bool x15_2 ∧ Aside0 (spec_l12Flush.j0 kq a1 x15_2 l0_0 l0_1 = some r) ∧ Aside0 (kq ≤ k) ∧ Aside0 (wc.heap[gb194]? = some (.cells #[(.slice A0_0 l0_0.length c0_0), (.slice A0_1 l0_1.length c0_1)] 26 (0, 0))) ∧ Aside0 (Below w.heap.size w wc))
 case first =>
  have H := HC3.out
  clear HC3
  replace H := Option.bind_eq_some_iff.mp H
  obtain ⟨t195, A50, H⟩ := H
  have A5 := am A50
  clear A50
  by_cases c6 : t195 = true
  rotate_left
  · replace c6 := Bool.eq_false_iff.mpr c6
    subst c6
    rw [if_neg (show ¬ (false = true) by decide)] at H
    have H' := am H
    clear H
    go_wp2_with (first | (refine gl 8 Try.func23 #[.int .i64 a1, .int .i64 1, .int .i64 6] rfl ?_; (with_reducible refine (spec_l6In.calls a1 1 6 false _ A5.out).mono ?_); rintro e w' ⟨rfl, ⟨nd, rfl⟩⟩; refine ⟨_, rfl, ?_⟩))
    go_meet
    case rel => exact ⟨_, (true), rf, H', ⟨by first | omega | exact Nat.le_refl _⟩, ⟨pb BK194.out⟩, ⟨bg1 HB.out GE194.out⟩⟩
  subst c6
  rw [if_pos rfl] at H
  replace H := Option.bind_eq_some_iff.mp H
  obtain ⟨t196, A70, H⟩ := H
  have A7 := am A70
  clear A70
  have H' := am H
  clear H
  go_wp2_with (first | (refine gl 8 Try.func23 #[.int .i64 a1, .int .i64 1, .int .i64 6] rfl ?_; (with_reducible refine (spec_l6In.calls a1 1 6 true _ A5.out).mono ?_); rintro e w' ⟨rfl, ⟨nd, rfl⟩⟩; refine ⟨_, rfl, ?_⟩; obtain ⟨hcz8_0, hcz8_1⟩ := b2 BK194.out; obtain ⟨hfz8_0, hfz8_1⟩ := f2 BK194.out) | (go_at_call 29; (with_reducible refine (spec_l11Dirty.calls k _ _ l0_0 _ _ l0_1 a1 t196 _ ?side1 ?side2 ?side3 ?side4 A7.out).mono ?_); (case side1 => exact (Kd.C_below HR0_0.out (bg1 HB.out GE194.out))); (case side2 => exact HC0_0.out); (case side3 => exact (Kd.C_below HR0_1.out (bg1 HB.out GE194.out))); (case side4 => exact HC0_1.out); rintro e w9 ⟨rfl, hb⟩; replace BK194 := am (blk_below (pb BK194.out) hb); replace HB := am (below_step (bg1 HB.out GE194.out) hb); clear hb))
  go_meet
  case rel => exact ⟨_, (!t196), rf, H', ⟨by first | omega | exact Nat.le_refl _⟩, ⟨pb BK194.out⟩, ⟨bg1 HB.out GE194.out⟩⟩
 case rest =>
  clear HC3
  obtain ⟨kq, x15_2, rfl, HA, HJ2, BK194, HB⟩ := hcut
  cases kq with
  | zero => exact absurd HA.out (by simp [spec_l12Flush.j0])
  | succ kj2 =>
   have H := HA.out
   clear HA
   simp only [spec_l12Flush.j0] at H
   by_cases c10 : x15_2 = true
   · subst c10
     rw [if_pos rfl] at H
     obtain ⟨y197, hy197⟩ : ∃ y_ : List (S38), y_ = (([] : List (S38))) := ⟨_, rfl⟩
     replace H : (some y197) = some r := yy hy197 H
     have Ny197 := am hy197
     clear hy197
     obtain rfl := Option.some.inj H
     go_wp2_with (first | ((with_reducible refine gate_dst (N := 16) rfl ?_); refine Kd.R_lit k38 _ 38 ?hg (N := 16) ?hd (xs := ([] : List (S38))) (inner := []) (ok := fun _ => True) (okp := fun _ => True) ?hr ?hp (fun _ hk => hk) trivial (Below.refl _ _) (Nat.le_refl _) (by simp) ?_; (case hd => rfl); (case hg => rfl); (case hr => first | (go_simp; done) | (go_simp; rfl)); (case hp => exact (Reps.none _ _)); intro v198 w11 ho12 hb hg_ hnew_; clear hg_ hnew_; (first | rw [← Ny197.out] at ho12 | (simp only [Int.reduceToNat] at ho12; rw [← Ny197.out] at ho12)); have HO199 := am (Kd.R_lower ho12 (below_size (bg1 HB.out GE194.out))); replace BK194 := am (blk_below (pb BK194.out) hb); replace HB := am (below_step (bg1 HB.out GE194.out) hb); clear hb ho12))
     go_ret
     exact ⟨_, rq ⟨pr HO199.out, bg1 HB.out GE194.out⟩⟩
   replace c10 := Bool.eq_false_iff.mpr c10
   subst c10
   rw [if_neg (show ¬ (false = true) by decide)] at H
   replace H := Option.bind_eq_some_iff.mp H
   obtain ⟨t200, A130, H⟩ := H
   have A13 := am A130
   clear A130
   replace H := Option.bind_eq_some_iff.mp H
   obtain ⟨t201, A140, H⟩ := H
   have A14 := am A140
   clear A140
   by_cases c15 : (t201.length : Int) = 0
   · rw [if_pos c15] at H
     have c15b0 : ((t201.length : Int) == 0) = true := beq_iff_eq.mpr c15
     have c15b1 : ((t201.length : Int) != 0) = false := bne_eq_false_iff_eq.mpr c15
     clear c15
     obtain rfl := Option.some.inj H
     obtain ⟨hcz16_0, hcz16_1⟩ := b2 BK194.out
     obtain ⟨hfz16_0, hfz16_1⟩ := f2 BK194.out
     go_wp2_with (first | (refine gl 19 Try.func39 #[.agg #[.slice A0_0 l0_0.length c0_0, .slice A0_1 l0_1.length c0_1], .int .i64 a1] rfl ?_; (with_reducible refine (spec_l11Read.calls kj2 _ _ l0_0 _ _ l0_1 a1 t200 _ ?side1 ?side2 ?side3 ?side4 A13.out).mono ?_); (case side1 => exact pc (Kd.C_below HR0_0.out HB.out)); (case side2 => exact HC0_0.out); (case side3 => exact pc (Kd.C_below HR0_1.out HB.out)); (case side4 => exact HC0_1.out); rintro e w17 ⟨rfl, hb⟩; refine ⟨_, rfl, ?_⟩; replace BK194 := am (blk_below (pb BK194.out) hb); replace HB := am (below_step (bg1 HB.out GE194.out) hb); clear hb; obtain ⟨hcz18_0, hcz18_1⟩ := b2 BK194.out; obtain ⟨hfz18_0, hfz18_1⟩ := f2 BK194.out) | (refine gl 23 Try.func40 #[.agg #[.slice A0_0 l0_0.length c0_0, .slice A0_1 l0_1.length c0_1], .int .i64 2, .int .i64 a1, .int .i64 t200] rfl ?_; (with_reducible refine (spec_l12Write.calls kj2 _ _ l0_0 _ _ l0_1 2 a1 t200 t201 _ ?side1 ?side2 ?side3 ?side4 A14.out).mono ?_); (case side1 => exact pc (Kd.C_below HR0_0.out HB.out)); (case side2 => exact HC0_0.out); (case side3 => exact pc (Kd.C_below HR0_1.out HB.out)); (case side4 => exact HC0_1.out); rintro e w19 ⟨v202, rfl, ho0, hb⟩; refine ⟨_, rfl, ?_⟩; have HO203 := am (Kd.R_lower ho0 (below_size (bg1 HB.out GE194.out))); replace BK194 := am (blk_below (pb BK194.out) hb); replace HB := am (below_step (bg1 HB.out GE194.out) hb); clear hb ho0; obtain ⟨Ao20, co20, eo20⟩ := Kd.R_slice HO203.out; subst eo20))
     go_ret
     exact ⟨_, rq ⟨pr HO203.out, bg1 HB.out GE194.out⟩⟩
   rw [if_neg c15] at H
   have c15b0 : ((t201.length : Int) == 0) = false := beq_eq_false_iff_ne.mpr c15
   have c15b1 : ((t201.length : Int) != 0) = true := bne_iff_ne.mpr c15
   have c15b2 : ¬ (t201 = []) := fun h_ => c15 (by rw [h_]; rfl)
   obtain ⟨y204, hy204⟩ : ∃ y_ : List (S38), y_ = (([(⟨1, a1, t200, 0, (⟨0, 0, 0, 0⟩ : S36)⟩ : S38)] : List (S38))) := ⟨_, rfl⟩
   replace H : (if y204.length + t201.length < 2199023255552 then (some (y204 ++ t201)) else (none)) = some r := yy hy204 H
   have Ny204 := am hy204
   clear hy204
   by_cases c21 : y204.length + t201.length < 2199023255552
   rotate_left
   · rw [if_neg c21] at H
     exact absurd H (by simp)
   rw [if_pos c21] at H
   have LMc21 := am c21
   clear c21
   obtain ⟨y207, hy207⟩ : ∃ y_ : List (S38), y_ = (y204 ++ t201) := ⟨_, rfl⟩
   replace H : (some y207) = some r := yy hy207 H
   have Ny207 := am hy207
   clear hy207
   obtain rfl := Option.some.inj H
   obtain ⟨hcz22_0, hcz22_1⟩ := b2 BK194.out
   obtain ⟨hfz22_0, hfz22_1⟩ := f2 BK194.out
   go_wp2_with (first | (refine gl 19 Try.func39 #[.agg #[.slice A0_0 l0_0.length c0_0, .slice A0_1 l0_1.length c0_1], .int .i64 a1] rfl ?_; (with_reducible refine (spec_l11Read.calls kj2 _ _ l0_0 _ _ l0_1 a1 t200 _ ?side1 ?side2 ?side3 ?side4 A13.out).mono ?_); (case side1 => exact pc (Kd.C_below HR0_0.out HB.out)); (case side2 => exact HC0_0.out); (case side3 => exact pc (Kd.C_below HR0_1.out HB.out)); (case side4 => exact HC0_1.out); rintro e w23 ⟨rfl, hb⟩; refine ⟨_, rfl, ?_⟩; replace BK194 := am (blk_below (pb BK194.out) hb); replace HB := am (below_step (bg1 HB.out GE194.out) hb); clear hb; obtain ⟨hcz24_0, hcz24_1⟩ := b2 BK194.out; obtain ⟨hfz24_0, hfz24_1⟩ := f2 BK194.out) | (refine gl 23 Try.func40 #[.agg #[.slice A0_0 l0_0.length c0_0, .slice A0_1 l0_1.length c0_1], .int .i64 2, .int .i64 a1, .int .i64 t200] rfl ?_; (with_reducible refine (spec_l12Write.calls kj2 _ _ l0_0 _ _ l0_1 2 a1 t200 t201 _ ?side1 ?side2 ?side3 ?side4 A14.out).mono ?_); (case side1 => exact pc (Kd.C_below HR0_0.out HB.out)); (case side2 => exact HC0_0.out); (case side3 => exact pc (Kd.C_below HR0_1.out HB.out)); (case side4 => exact HC0_1.out); rintro e w25 ⟨v202, rfl, ho0, hb⟩; refine ⟨_, rfl, ?_⟩; have HO203 := am (Kd.R_lower ho0 (below_size (bg1 HB.out GE194.out))); replace BK194 := am (blk_below (pb BK194.out) hb); replace HB := am (below_step (bg1 HB.out GE194.out) hb); clear hb ho0; obtain ⟨Ao26, co26, eo26⟩ := Kd.R_slice HO203.out; subst eo26) | ((with_reducible refine gate_dst (N := 31) rfl ?_); refine Kd.R_lit k38 _ 38 ?hg (N := 31) ?hd (xs := ([(⟨1, a1, t200, 0, (⟨0, 0, 0, 0⟩ : S36)⟩ : S38)] : List (S38))) (inner := [.int .i64 1, .int .i64 a1, .int .i64 t200, .int .i64 0, .int .i64 0, .int .i64 0, .int .i64 0, .int .i64 0]) (ok := fun _ => True) (okp := fun _ => True) ?hr ?hp (fun _ hk => hk) trivial (Below.refl _ _) (Nat.le_refl _) (by simp) ?_; (case hd => rfl); (case hg => rfl); (case hr => first | (go_simp; done) | (go_simp; rfl)); (case hp => exact (Reps.c8 (show Kd.M k38 _ _ _ (⟨1, a1, t200, 0, (⟨0, 0, 0, 0⟩ : S36)⟩ : S38) [.int .i64 1, .int .i64 a1, .int .i64 t200, .int .i64 0, .int .i64 0, .int .i64 0, .int .i64 0, .int .i64 0] from (k38_mkM _ _ _ (⟨1, a1, t200, 0, (⟨0, 0, 0, 0⟩ : S36)⟩ : S38) )) (Reps.none _ _))); intro v205 w27 ho28 hb hg_ hnew_; clear hg_ hnew_; (first | rw [← Ny204.out] at ho28 | (simp only [Int.reduceToNat] at ho28; rw [← Ny204.out] at ho28)); have HO206 := am (Kd.R_lower (Kd.R_new' ho28 (Kd.R_lt (pr HO203.out))) (below_size (bg1 HB.out GE194.out))); replace HO203 := am (Kd.R_elder' (pr HO203.out) (Kd.R_base ho28) hb); replace BK194 := am (blk_below (pb BK194.out) hb); replace HB := am (below_step (bg1 HB.out GE194.out) hb); clear hb ho28) | ((with_reducible refine gate_builtin (b := .append) (xs := #[.tmp 31, .tmp 32]) rfl ?_); at_builtin; refine Kd.R_append_rows k38 (w0 := w) w.heap.size rfl (.tmp 31) (.tmp 32) 29 38 (.agg #[(.int .i64 0), (.int .i64 0), (.int .i64 0), (.int .i64 0), (.int .i64 0), (.int .i64 0), (.int .i64 0), (.int .i64 0)]) 64 rfl Try.underlying29 info38 rfl (by decide) (by omega) v205 y204 t201 _ _ _ (fun k_ => some k_ ≠ (.slice Ao26 t201.length co26 : Value).ownBlock) (fun _ => False) rfl rfl ?aO ?aR (fun _ _ h => h) (fun _ h => h.elim) ?aF ?aB ?aS ?aL ?_; (case aR => exact pc ((Kd.R_reads' HO203.out).2.2)); (case aB => exact (bg1 HB.out GE194.out)); (case aF => exact (fun k_ hk => Kd.fresh' (Kd.R_lt (pr HO203.out)) k_ hk)); (case aO => exact (pr (Kd.R_mono HO206.out (fun _ hk => hk.2)))); (case aS => exact (below_size (bg1 HB.out GE194.out))); (case aL => have := LMc21.out; omega); intro v208 w29 ho hb hg hat; rw [← Ny207.out] at ho; replace BK194 := am (blk_grown (g := gb194) (o := .cells #[.slice A0_0 l0_0.length c0_0, .slice A0_1 l0_1.length c0_1] 26 (0, 0)) (pb BK194.out) hg (Kd.R_ne HO206.out BK194.out (by decide))); replace HO203 := am (Kd.R_after (ok := (fun _ => True)) (pr HO203.out) hg hat); replace HB := am (hb); have HO209 := am (ho); clear HO206; clear ho hb hg hat))
   go_ret
   exact ⟨_, rq ⟨pr (Kd.R_mono HO209.out (fun _ hk => trivial)), bg1 HB.out GE194.out⟩⟩
end Go.Proofs.Ytbhchamohldehaa.P4
