-- printed by wip/pp/pp.py
import Derived.Test.YteijhllkpahbhaaRk0
import Derived.Test.YteijhllkpahbhaaRk2
import Derived.Test.YteijhllkpahbhaaRk10
import Derived.Deep.RegionHeld3
import Derived.RegionTactic
import Derived.Test.YteijhllkpahbhaaRk1
import Derived.Test.YteijhllkpahbhaaRk3
namespace Go.Proofs.Yteijhllkpahbhaa.Rk
open Go.RowKit Go.Proofs.YteijhllkpahbhaaW.PrintWords Go.Proofs.YteijhllkpahbhaaW.PrintLast Go.Proofs.YteijhllkpahbhaaW.PrintMore
attribute [local go_sem] max2_int min2_int max_two min_two max_three min_three max_four min_four
set_option linter.unusedVariables false
set_option linter.unusedSimpArgs false
theorem ite_some {α : Type} {c : Prop} [Decidable c] {x y : α} (h : (if c then some x else none) = some y) : c ∧ some x = some y := by
 by_cases hc : c
 rotate_left
 · rw [if_neg hc] at h
   cases h
 rw [if_pos hc] at h
 exact ⟨hc, h⟩
set_option maxHeartbeats 4000000 in
set_option maxRecDepth 100000 in
theorem spec_l71Flash.c4 (k g : Nat) (s0_0 : List Int) (s0_1 : Int) (ev : List S81) (fl : List S28) (dk : List Int) (p1 q p2 : Int) (w0 w : World) (hI : IsS66 w0 w g s0_0 s0_1) (hB : Below w0.heap.size w0 w)
 (h1 : spec_l71Play.f k s0_0 s0_1 = some (ev, fl, dk, p1)) (h2 : spec_l6Rd_pick.f k s0_0 p1 20 = some (q, p2)) (n0 : q ≠ 0) (n1 : q ≠ 1) (n2 : q ≠ 2) (n3 : q ≠ 3) :
 Calls Try.prog 24 #[.pointer (some ⟨g, 0, none⟩)] w fun e w' => ∃ v0_ : Value, e = .returned v0_ ∧ Kd.V k28 28 w' w.heap.size (fun k_ => w.heap.size ≤ k_) v0_ fl ∧ IsS66 w0 w' g s0_0 p2 ∧ Below w0.heap.size w0 w' ∧ KeepBut w w' g none := by
 have hu28 := Try.underlying28
 have hu32 := Try.underlying32
 have hu26 := Try.underlying26
 have hu70 := Try.underlying70
 have hgl := IsS66.lt hI
 have HL0 := am hB.size
 go_enter Try.func24, Try.ntmps24
 go_wp2_with fail
 refine (spec_l71Play.calls k g s0_0 s0_1 ev fl dk p1 w0 _ hI hB h1).mono ?_
 rintro e w1 ⟨v0, v1, v2, rfl, -, hS, hD, hI1, hB1, hK1⟩
 obtain ⟨A1, c1, rfl⟩ := Kd.S_slice hS
 obtain ⟨A2, c2, rfl⟩ := Kd.R_slice hD
 have HS := am (Kd.S_mono (Kd.S_bound hS) (fun k_ hk => (⟨hk.2.1, hk.2.2.1⟩ : w.heap.size ≤ k_ ∧ k_ < w1.heap.size)))
 have HI := am (hI1.alloc (.cells #[.slice A1 fl.length c1, .slice A2 dk.length c2] 70))
 have HB := am (below_alloc hB1 (.cells #[.slice A1 fl.length c1, .slice A2 dk.length c2] 70))
 have HK := am (keep_alloc hK1 (.cells #[.slice A1 fl.length c1, .slice A2 dk.length c2] 70))
 clear hS hD hI hB hI1 hB1 hK1
 go_wp2_with fail
 replace HS := am (Kd.S_alloc HS.out (.cells #[.slice A1 fl.length c1, .slice A2 dk.length c2] 70))
 refine (spec_l6Rd_pick.calls k g s0_0 p1 20 q p2 w0 _ HI.out HB.out h2).mono ?_
 rintro e w2 ⟨rfl, hI2, hB2, hK2⟩
 replace HS := am (Kd.S_keep HS.out hK2 (fun k_ hk => by have := hk.1; omega))
 replace HI := am hI2
 replace HB := am hB2
 replace HK := am (KeepBut.trans HK.out hK2 (.inl rfl))
 clear hI2 hB2 hK2
 have e0 : (q == 0) = false := beq_eq_false_iff_ne.mpr n0
 have e1 : (q == 1) = false := beq_eq_false_iff_ne.mpr n1
 have e2 : (q == 2) = false := beq_eq_false_iff_ne.mpr n2
 have e3 : (q == 3) = false := beq_eq_false_iff_ne.mpr n3
 go_wp2
 go_ret
 exact ⟨_, rfl, Kd.S_V (Kd.S_mono HS.out (fun _ hk => hk.1)), HI.out, HB.out, HK.out⟩
theorem blk_kb {w w' : World} {g a : Nat} {o : Obj} (h : w.heap[a]? = some o) (hk : KeepBut w w' g none) (hne : a ≠ g) : w'.heap[a]? = some o := (hk.2 a (Array.getElem?_eq_some_iff.1 h).1 hne (by simp)).trans h
theorem V_cutF {W : World} {base : Nat} {ok : Nat → Prop} {A : Option Addr} {c : Nat} {fl : List S28} (h : Kd.V k28 28 W base ok (.slice A fl.length c) fl) (hl : 1 ≤ fl.length) : Kd.V k28 28 W base ok (.slice (if c = 1 then A else A.map (fun x => ⟨x.block, x.off + 2, none⟩)) (fl.length - 1) (c - 1)) fl.tail := by
 have hF := Kd.F_cut (Kd.V_F h) hl (Kd.V_at h).2.1
 have e : (A.map (·.add (1 * (k28).sz))) = A.map (fun x => ⟨x.block, x.off + 2, none⟩) := by cases A <;> rfl
 rw [e, List.drop_one] at hF
 have h2 := Kd.V_mk (e := 28) (base := base) (c := c - 1) (by have := (Kd.V_at h).2.1; rw [List.length_tail]; omega) hF
 rw [List.length_tail] at h2
 exact h2
theorem N_worn {W : World} {base g n cap : Nat} {ok : Nat → Prop} {xs : List S28} (h : Kd.N k28 28 W base ok (.slice (some ⟨g, 0, none⟩) n cap) xs) (i : Int) (h0 : 0 ≤ i) (h1 : i < n) (x : Int) : Kd.N k28 28 (W.setCell ⟨g, i.toNat * 2 + 1, none⟩ (.int .i64 x)) base ok (.slice (some ⟨g, 0, none⟩) n cap) (xs.set i.toNat ⟨(rd_T28 xs i).f0, x⟩) := by
 obtain ⟨c, hcl, hF, hcc, hfr⟩ := Kd.N_elem h z28 i h0 h1
 obtain ⟨A0, c0, rfl, hl, hf⟩ := k28_openF hF
 exact (Kd.N_seg h i h0 h1 (seg := [.int .i64 x]) (j := 1) hcl hcc (show 1 + 1 ≤ 2 from Nat.le_refl _) (x' := (⟨(rd_T28 xs i).f0, x⟩ : S28)) (k28_mkF _ _ ⟨(rd_T28 xs i).f0, x⟩ hl hf) (fun k hk => hk)).1
theorem N_cutP {W : World} {base g n cap : Nat} {ok : Nat → Prop} {xs : List S28} (h : Kd.N k28 28 W base ok (.slice (some ⟨g, 0, none⟩) n cap) xs) (i : Int) (h0 : 0 ≤ i) (h1 : i < n) {A0 : Option Addr} {c0 : Nat} (hc : W.cell? ⟨g, i.toNat * 2, none⟩ = some (.slice A0 (rd_T28 xs i).f0.length c0)) (hl : 1 ≤ (rd_T28 xs i).f0.length) :
 Kd.N k28 28 (W.setCell ⟨g, i.toNat * 2, none⟩ (.slice (if c0 = 1 then A0 else A0.map (fun x => ⟨x.block, x.off + 5, none⟩)) ((rd_T28 xs i).f0.length - 1) (c0 - 1))) base ok (.slice (some ⟨g, 0, none⟩) n cap) (xs.set i.toNat ⟨(rd_T28 xs i).f0.tail, (rd_T28 xs i).f1⟩) := by
 obtain ⟨c, hcl, hF, hcc, hfr⟩ := Kd.N_elem h z28 i h0 h1
 obtain ⟨A1, c1, rfl, hl1, hf⟩ := k28_openF hF
 have e0 := hcc 0 _ rfl
 rw [show (k28).sz = 2 from rfl, Nat.add_zero, hc] at e0
 have e1 := Value.slice.inj (Option.some.inj e0)
 obtain ⟨rfl, -, rfl⟩ := e1
 have hF := Kd.F_cut hf hl hl1
 have e : (A0.map (·.add (1 * (k32).sz))) = A0.map (fun x => ⟨x.block, x.off + 5, none⟩) := by cases A0 <;> rfl
 rw [e, List.drop_one] at hF
 have hm := k28_mkF W _ (⟨(rd_T28 xs i).f0.tail, (rd_T28 xs i).f1⟩ : S28) (c0 := c0 - 1) (by show (rd_T28 xs i).f0.tail.length ≤ _; rw [List.length_tail]; exact Nat.sub_le_sub_right hl1 1) hF
 have e2 : (⟨(rd_T28 xs i).f0.tail, (rd_T28 xs i).f1⟩ : S28).f0.length = (rd_T28 xs i).f0.length - 1 := List.length_tail
 rw [e2] at hm
 exact (Kd.N_seg h i h0 h1 (seg := [.slice (if c0 = 1 then A0 else A0.map (fun x => ⟨x.block, x.off + 5, none⟩)) ((rd_T28 xs i).f0.length - 1) (c0 - 1)]) (j := 0) hcl hcc (show 0 + 1 ≤ 2 by decide) (x' := (⟨(rd_T28 xs i).f0.tail, (rd_T28 xs i).f1⟩ : S28)) hm (fun k hk => hk)).1
set_option maxHeartbeats 4000000 in
set_option maxRecDepth 100000 in
theorem spec_l71Flash.c2 (k g : Nat) (s0_0 : List Int) (s0_1 : Int) (ev : List S81) (fl : List S28) (dk : List Int) (p1 q p2 : Int) (w0 w : World) (hI : IsS66 w0 w g s0_0 s0_1) (hB : Below w0.heap.size w0 w)
 (h1 : spec_l71Play.f k s0_0 s0_1 = some (ev, fl, dk, p1)) (h2 : spec_l6Rd_pick.f k s0_0 p1 20 = some (q, p2)) (n0 : q = 2) (hl : 1 ≤ fl.length) :
 Calls Try.prog 24 #[.pointer (some ⟨g, 0, none⟩)] w fun e w' => ∃ v0_ : Value, e = .returned v0_ ∧ Kd.V k28 28 w' w.heap.size (fun k_ => w.heap.size ≤ k_) v0_ fl.tail ∧ IsS66 w0 w' g s0_0 p2 ∧ Below w0.heap.size w0 w' ∧ KeepBut w w' g none := by
 have hu28 := Try.underlying28
 have hu32 := Try.underlying32
 have hu26 := Try.underlying26
 have hu70 := Try.underlying70
 have hgl := IsS66.lt hI
 have HL0 := am hB.size
 go_enter Try.func24, Try.ntmps24
 go_wp2_with fail
 refine (spec_l71Play.calls k g s0_0 s0_1 ev fl dk p1 w0 _ hI hB h1).mono ?_
 rintro e w1 ⟨v0, v1, v2, rfl, -, hS, hD, hI1, hB1, hK1⟩
 obtain ⟨A1, c1, rfl⟩ := Kd.S_slice hS
 obtain ⟨A2, c2, rfl⟩ := Kd.R_slice hD
 have HS := am (Kd.S_mono (Kd.S_bound hS) (fun k_ hk => (⟨hk.2.1, hk.2.2.1⟩ : w.heap.size ≤ k_ ∧ k_ < w1.heap.size)))
 have HI := am (hI1.alloc (.cells #[.slice A1 fl.length c1, .slice A2 dk.length c2] 70))
 have HB := am (below_alloc hB1 (.cells #[.slice A1 fl.length c1, .slice A2 dk.length c2] 70))
 have HK := am (keep_alloc hK1 (.cells #[.slice A1 fl.length c1, .slice A2 dk.length c2] 70))
 clear hS hD hI hB hI1 hB1 hK1
 go_wp2_with fail
 replace HS := am (Kd.S_alloc HS.out (.cells #[.slice A1 fl.length c1, .slice A2 dk.length c2] 70))
 refine (spec_l6Rd_pick.calls k g s0_0 p1 20 q p2 w0 _ HI.out HB.out h2).mono ?_
 rintro e w2 ⟨rfl, hI2, hB2, hK2⟩
 replace HS := am (Kd.S_keep HS.out hK2 (fun k_ hk => by have := hk.1; omega))
 replace HI := am hI2
 replace HB := am hB2
 replace HK := am (KeepBut.trans HK.out hK2 (.inl rfl))
 clear hI2 hB2 hK2
 subst n0
 have hV := V_cutF (Kd.S_V (e := 28) (base' := w.heap.size) (Kd.S_mono HS.out (fun _ hk => hk.1))) hl
 have HV := am hV
 clear hV
 go_wp2
 all_goals go_ret
 · have hV := HV.out
   subst h
   rw [if_pos rfl] at hV
   exact ⟨_, rfl, hV, HI.out, HB.out, HK.out⟩
 · have hV := HV.out
   rw [if_neg h] at hV
   exact ⟨_, rfl, hV, HI.out, HB.out, HK.out⟩
set_option maxHeartbeats 4000000 in
set_option maxRecDepth 100000 in
theorem spec_l71Flash.c1 (k g : Nat) (s0_0 : List Int) (s0_1 : Int) (ev : List S81) (fl : List S28) (dk : List Int) (p1 q p2 : Int) (i p3 v p4 : Int) (w0 w : World) (hI : IsS66 w0 w g s0_0 s0_1) (hB : Below w0.heap.size w0 w)
 (h1 : spec_l71Play.f k s0_0 s0_1 = some (ev, fl, dk, p1)) (h2 : spec_l6Rd_pick.f k s0_0 p1 20 = some (q, p2)) (n0 : q = 1) (h3 : spec_l6Rd_pick.f k s0_0 p2 (fl.length : Int) = some (i, p3)) (hi0 : 0 ≤ i) (hi1 : i < (fl.length : Int)) (h4 : spec_l6Rd_pick.f k s0_0 p3 3 = some (v, p4)) (hv0 : 0 ≤ v) (hv1 : v < 3) :
 Calls Try.prog 24 #[.pointer (some ⟨g, 0, none⟩)] w fun e w' => ∃ v0_ : Value, e = .returned v0_ ∧ Kd.V k28 28 w' w.heap.size (fun k_ => w.heap.size ≤ k_) v0_ (fl.set i.toNat (⟨(rd_T28 fl i).f0, rd [-1, 200, 201] v⟩ : S28)) ∧ IsS66 w0 w' g s0_0 p4 ∧ Below w0.heap.size w0 w' ∧ KeepBut w w' g none := by
 have hu28 := Try.underlying28
 have hu32 := Try.underlying32
 have hu26 := Try.underlying26
 have hu70 := Try.underlying70
 have hgl := IsS66.lt hI
 have HL0 := am hB.size
 go_enter Try.func24, Try.ntmps24
 go_wp2_with fail
 refine (spec_l71Play.calls k g s0_0 s0_1 ev fl dk p1 w0 _ hI hB h1).mono ?_
 rintro e w1 ⟨v0, v1, v2, rfl, -, hS, hD, hI1, hB1, hK1⟩
 obtain ⟨A1, c1, rfl⟩ := Kd.S_slice hS
 obtain ⟨A2, c2, rfl⟩ := Kd.R_slice hD
 have HS := am (Kd.S_mono (Kd.S_bound hS) (fun k_ hk => (⟨hk.2.1, hk.2.2.1⟩ : w.heap.size ≤ k_ ∧ k_ < w1.heap.size)))
 have HI := am (hI1.alloc (.cells #[.slice A1 fl.length c1, .slice A2 dk.length c2] 70))
 have HB := am (below_alloc hB1 (.cells #[.slice A1 fl.length c1, .slice A2 dk.length c2] 70))
 have HK := am (keep_alloc hK1 (.cells #[.slice A1 fl.length c1, .slice A2 dk.length c2] 70))
 clear hS hD hI hB hI1 hB1 hK1
 go_wp2_with fail
 replace HS := am (Kd.S_alloc HS.out (.cells #[.slice A1 fl.length c1, .slice A2 dk.length c2] 70))
 refine (spec_l6Rd_pick.calls k g s0_0 p1 20 q p2 w0 _ HI.out HB.out h2).mono ?_
 rintro e w2 ⟨rfl, hI2, hB2, hK2⟩
 replace HS := am (Kd.S_keep HS.out hK2 (fun k_ hk => by have := hk.1; omega))
 replace HI := am hI2
 replace HB := am hB2
 replace HK := am (KeepBut.trans HK.out hK2 (.inl rfl))
 clear hI2 hB2 hK2
 subst n0
 obtain ⟨gf, cf, hA1, hgb, hgl1, cellsf, hcf⟩ := Kd.S_form HS.out (by omega)
 have ea := (Value.slice.inj hA1).1
 have ec := (Value.slice.inj hA1).2.2
 subst ea
 subst ec
 clear hA1 hcf hgl1
 go_wp2_with fail
 refine (spec_l6Rd_pick.calls k g s0_0 p2 (fl.length : Int) i p3 w0 _ HI.out HB.out h3).mono ?_
 rintro e w3 ⟨rfl, hI2, hB2, hK2⟩
 replace HS := am (Kd.S_keep HS.out hK2 (fun k_ hk => by have := hk.1; omega))
 replace HI := am hI2
 replace HB := am hB2
 replace HK := am (KeepBut.trans HK.out hK2 (.inl rfl))
 clear hI2 hB2 hK2
 go_wp2_with fail
 refine (spec_l6Rd_pick.calls k g s0_0 p3 3 v p4 w0 _ (IsS66.alloc HI.out _) (below_alloc HB.out _) h4).mono ?_
 rintro e w4 ⟨rfl, hI2, hB2, hK2⟩
 have hlt3 := IsS66.lt HI.out
 have hbx := blk_kb (blk_new w3 _) hK2 (show w3.heap.size ≠ g by omega)
 replace HS := am (Kd.S_keep (Kd.S_alloc HS.out _) hK2 (fun k_ hk => by have := hk.1; omega))
 replace HI := am hI2
 replace HB := am hB2
 replace HK := am (KeepBut.trans (keep_alloc HK.out _) hK2 (.inl rfl))
 clear hI2 hB2 hK2 hlt3
 obtain ⟨oki, c, hcl, hM, hcc, hfr, hoki, hH⟩ := Kd.S_elem HS.out z28 i hi0 hi1
 have hfz := hfr 1
 obtain ⟨vq, rfl, -⟩ := k28_openM hM
 have hcl1 := hcc 1 _ rfl
 rw [show (k28).sz = 2 from rfl] at hfz hcl1
 generalize (List.getD fl i.toNat z28).f1 = wo at hcl1
 clear hcl hM hcc hfr hoki hH
 have q0 : w4.cell? ⟨w3.heap.size, 0, none⟩ = some (.int .i64 (-1)) := (blk_cell hbx 0).trans rfl
 have q1 : w4.cell? ⟨w3.heap.size, 1, none⟩ = some (.int .i64 200) := (blk_cell hbx 1).trans rfl
 have q2 : w4.cell? ⟨w3.heap.size, 2, none⟩ = some (.int .i64 201) := (blk_cell hbx 2).trans rfl
 clear hbx
 have hib := decide_eq_true hi1
 have hiq : (i < (fl.length : Int)) = True := eq_true hi1
 have hv : v = 0 ∨ v = 1 ∨ v = 2 := by omega
 clear hv0 hv1
 have hN := fun x => N_worn (Kd.S_N HS.out) i hi0 hi1 x
 have HN := am hN
 have HF : ∀ x : Int, Aside0 (IsS66 w0 (w4.setCell ⟨gf, i.toNat * 2 + 1, none⟩ (.int .i64 x)) g s0_0 p4 ∧ Below w0.heap.size w0 (w4.setCell ⟨gf, i.toNat * 2 + 1, none⟩ (.int .i64 x)) ∧ KeepBut w (w4.setCell ⟨gf, i.toNat * 2 + 1, none⟩ (.int .i64 x)) g none) := fun x => ⟨IsS66.far HI.out (show g ≠ gf by omega) _, HB.out.setCell (p := ⟨gf, i.toNat * 2 + 1, none⟩) (Nat.le_trans HL0.out hgb) _, keep_far HK.out (p := ⟨gf, i.toNat * 2 + 1, none⟩) hgb _⟩
 clear hN
 rcases hv with rfl | rfl | rfl
 all_goals (clear h3 h4 h1 h2 hgl hgb; go_wp2; go_ret)
 · exact ⟨_, rfl, Kd.N_V (Kd.N_mono (HN.out (-1)) (fun _ hk => hk.1)), (HF (-1)).out⟩
 · exact ⟨_, rfl, Kd.N_V (Kd.N_mono (HN.out 200) (fun _ hk => hk.1)), (HF 200).out⟩
 · exact ⟨_, rfl, Kd.N_V (Kd.N_mono (HN.out 201) (fun _ hk => hk.1)), (HF 201).out⟩
set_option maxHeartbeats 4000000 in
set_option maxRecDepth 100000 in
theorem spec_l71Flash.c3 (k g : Nat) (s0_0 : List Int) (s0_1 : Int) (ev : List S81) (fl : List S28) (dk : List Int) (p1 q p2 : Int) (i p3 : Int) (w0 w : World) (hI : IsS66 w0 w g s0_0 s0_1) (hB : Below w0.heap.size w0 w)
 (h1 : spec_l71Play.f k s0_0 s0_1 = some (ev, fl, dk, p1)) (h2 : spec_l6Rd_pick.f k s0_0 p1 20 = some (q, p2)) (n0 : q = 3) (h3 : spec_l6Rd_pick.f k s0_0 p2 (fl.length : Int) = some (i, p3)) (hi0 : 0 ≤ i) (hi1 : i < (fl.length : Int)) (hp : 1 ≤ (rd_T28 fl i).f0.length) :
 Calls Try.prog 24 #[.pointer (some ⟨g, 0, none⟩)] w fun e w' => ∃ v0_ : Value, e = .returned v0_ ∧ Kd.V k28 28 w' w.heap.size (fun k_ => w.heap.size ≤ k_) v0_ (fl.set i.toNat (⟨(rd_T28 fl i).f0.tail, (rd_T28 fl i).f1⟩ : S28)) ∧ IsS66 w0 w' g s0_0 p3 ∧ Below w0.heap.size w0 w' ∧ KeepBut w w' g none := by
 have hu28 := Try.underlying28
 have hu32 := Try.underlying32
 have hu26 := Try.underlying26
 have hu70 := Try.underlying70
 have hgl := IsS66.lt hI
 have HL0 := am hB.size
 go_enter Try.func24, Try.ntmps24
 go_wp2_with fail
 refine (spec_l71Play.calls k g s0_0 s0_1 ev fl dk p1 w0 _ hI hB h1).mono ?_
 rintro e w1 ⟨v0, v1, v2, rfl, -, hS, hD, hI1, hB1, hK1⟩
 obtain ⟨A1, c1, rfl⟩ := Kd.S_slice hS
 obtain ⟨A2, c2, rfl⟩ := Kd.R_slice hD
 have HS := am (Kd.S_mono (Kd.S_bound hS) (fun k_ hk => (⟨hk.2.1, hk.2.2.1⟩ : w.heap.size ≤ k_ ∧ k_ < w1.heap.size)))
 have HI := am (hI1.alloc (.cells #[.slice A1 fl.length c1, .slice A2 dk.length c2] 70))
 have HB := am (below_alloc hB1 (.cells #[.slice A1 fl.length c1, .slice A2 dk.length c2] 70))
 have HK := am (keep_alloc hK1 (.cells #[.slice A1 fl.length c1, .slice A2 dk.length c2] 70))
 clear hS hD hI hB hI1 hB1 hK1
 go_wp2_with fail
 replace HS := am (Kd.S_alloc HS.out (.cells #[.slice A1 fl.length c1, .slice A2 dk.length c2] 70))
 refine (spec_l6Rd_pick.calls k g s0_0 p1 20 q p2 w0 _ HI.out HB.out h2).mono ?_
 rintro e w2 ⟨rfl, hI2, hB2, hK2⟩
 replace HS := am (Kd.S_keep HS.out hK2 (fun k_ hk => by have := hk.1; omega))
 replace HI := am hI2
 replace HB := am hB2
 replace HK := am (KeepBut.trans HK.out hK2 (.inl rfl))
 clear hI2 hB2 hK2
 subst n0
 obtain ⟨gf, cf, hA1, hgb, hgl1, cellsf, hcf⟩ := Kd.S_form HS.out (by omega)
 have ea := (Value.slice.inj hA1).1
 have ec := (Value.slice.inj hA1).2.2
 subst ea
 subst ec
 clear hA1 hcf hgl1
 go_wp2_with fail
 refine (spec_l6Rd_pick.calls k g s0_0 p2 (fl.length : Int) i p3 w0 _ HI.out HB.out h3).mono ?_
 rintro e w3 ⟨rfl, hI2, hB2, hK2⟩
 replace HS := am (Kd.S_keep HS.out hK2 (fun k_ hk => by have := hk.1; omega))
 replace HI := am hI2
 replace HB := am hB2
 replace HK := am (KeepBut.trans HK.out hK2 (.inl rfl))
 clear hI2 hB2 hK2
 obtain ⟨c, hcl, hF, hcc, hfr⟩ := Kd.N_elem (Kd.S_N HS.out) z28 i hi0 hi1
 obtain ⟨A0, c0, rfl, hl1, hf⟩ := k28_openF hF
 have hfz := hfr 0
 have hc := hcc 0 _ rfl
 rw [show (k28).sz = 2 from rfl, Nat.add_zero] at hfz hc
 have hN := N_cutP (Kd.S_N HS.out) i hi0 hi1 (A0 := A0) (c0 := c0) hc hp
 have HN := am hN
 have HF : ∀ x : Value, Aside0 (IsS66 w0 (w3.setCell ⟨gf, i.toNat * 2, none⟩ x) g s0_0 p3 ∧ Below w0.heap.size w0 (w3.setCell ⟨gf, i.toNat * 2, none⟩ x) ∧ KeepBut w (w3.setCell ⟨gf, i.toNat * 2, none⟩ x) g none) := fun x => ⟨IsS66.far HI.out (show g ≠ gf by omega) _, HB.out.setCell (p := ⟨gf, i.toNat * 2, none⟩) (Nat.le_trans HL0.out hgb) _, keep_far HK.out (p := ⟨gf, i.toNat * 2, none⟩) hgb _⟩
 clear hN hcl hF hcc hfr hf
 have hib := decide_eq_true hi1
 have hiq : (i < (fl.length : Int)) = True := eq_true hi1
 replace hc : w3.cell? ⟨gf, i.toNat * 2, none⟩ = some (.slice A0 (rd_T28 fl i).f0.length c0) := hc
 replace hl1 : (rd_T28 fl i).f0.length ≤ c0 := hl1
 clear h3 h1 h2 hgl hgb
 generalize hnn : (rd_T28 fl i).f0.length = nn at hc hl1 hp HN
 have HNN := am hnn
 clear hnn
 go_wp2
 all_goals go_ret
 · have hN := HN.out
   subst h
   rw [if_pos rfl] at hN
   exact ⟨_, rfl, Kd.N_V (Kd.N_mono hN (fun _ hk => hk.1)), (HF _).out⟩
 · have hN := HN.out
   rw [if_neg h] at hN
   exact ⟨_, rfl, Kd.N_V (Kd.N_mono hN (fun _ hk => hk.1)), (HF _).out⟩
theorem S_pageD {w1 : World} {base g n cap gi ni ci : Nat} {ok : Nat → Prop} {xs : List S28} (HS : Kd.S k28 28 w1 base ok (.slice (some ⟨g, 0, none⟩) n cap) xs) (b : Int) (h0 : 0 ≤ b) (h1 : b < n)
 (hc : w1.cell? ⟨g, b.toNat * 2, none⟩ = some (.slice (some ⟨gi, 0, none⟩) ni ci)) (j : Int) (hj0 : 0 ≤ j) (hj1 : j < ni) (p : S32) :
 Kd.S k28 28 (w1.setCells gi (j.toNat * 5) [.int .i64 p.f0, .int .i64 p.f1.f0, .int .i64 p.f1.f1, .int .i64 p.f1.f2, .int .i64 p.f1.f3]) base ok (.slice (some ⟨g, 0, none⟩) n cap) (xs.set b.toNat ⟨(rd_T28 xs b).f0.set j.toNat p, (rd_T28 xs b).f1⟩) := by
 obtain ⟨oki, c, hcl, hM, hcc, hfr, hoki, hH⟩ := Kd.S_elem HS z28 b h0 h1
 obtain ⟨v0, rfl, hR⟩ := k28_openM hM
 have hc0 := hcc 0 _ rfl
 have esz : (k28).sz = 2 := rfl
 rw [esz, Nat.add_zero, hc] at hc0
 obtain rfl := Option.some.inj hc0
 obtain ⟨ce, hce, hMe, hcce, hfre⟩ := Kd.R_elem hR z32 j hj0 hj1
 obtain ⟨hR2, hg2⟩ := Kd.R_seg hR j hj0 hj1 (seg := [.int .i64 p.f0, .int .i64 p.f1.f0, .int .i64 p.f1.f1, .int .i64 p.f1.f2, .int .i64 p.f1.f3]) (j := 0) (okp := fun _ => False) hce hcce (show 0 + 5 ≤ 5 from Nat.le_refl 5) (x' := p)
  (by
   rw [List.take_zero, List.nil_append, List.drop_of_length_le (by rw [hce]; exact Nat.le_refl 5), List.append_nil]
   exact k32_mkM _ _ _ p) (fun _ h => h.elim)
 have hgi : oki gi := hR.1 gi rfl
 have hk : Kept w1 (w1.setCells gi (j.toNat * 5) [.int .i64 p.f0, .int .i64 p.f1.f0, .int .i64 p.f1.f1, .int .i64 p.f1.f2, .int .i64 p.f1.f3]) (fun k => k = gi) := Kept.of_grown hg2 (Kept.refl w1 _) (fun k hk => Or.inl (Option.some.inj hk).symm)
 exact Kd.H_back (Kd.H_kept hH hk (fun k _ hn hk2 => hn (by rw [hk2]; exact hgi))) (k28_mkM _ base oki ⟨(rd_T28 xs b).f0.set j.toNat p, (rd_T28 xs b).f1⟩ hR2) (fun k hk => hk)
theorem keepD {w0 w W : World} {g n : Nat} {a : Addr} {v : Value} (h : W.cell? a = some v ∧ Below w0.heap.size w0 W ∧ KeepBut w W g none) : (W.drewN n).cell? a = some v ∧ Below w0.heap.size w0 (W.drewN n) ∧ KeepBut w (W.drewN n) g none := ⟨h.1, pw_below_drewN h.2.1 n, keep_drewN h.2.2 n⟩
theorem keepD1 {w0 w W : World} {g : Nat} {a : Addr} {v : Value} (h : W.cell? a = some v ∧ Below w0.heap.size w0 W ∧ KeepBut w W g none) : (W.drew).cell? a = some v ∧ Below w0.heap.size w0 (W.drew) ∧ KeepBut w (W.drew) g none := ⟨h.1, below_drew h.2.1, keep_drew h.2.2⟩
theorem keepW {w0 w W : World} {g gi : Nat} {a : Addr} {v : Value} (h : W.cell? a = some v ∧ Below w0.heap.size w0 W ∧ KeepBut w W g none) (hL : w0.heap.size ≤ w.heap.size) (hgi : w.heap.size ≤ gi) (hne : a.block ≠ gi) (a1 a2 a3 a4 a5 : Nat) (u1 u2 u3 u4 u5 : Value) :
 (((((W.setCell ⟨gi, a1, none⟩ u1).setCell ⟨gi, a2, none⟩ u2).setCell ⟨gi, a3, none⟩ u3).setCell ⟨gi, a4, none⟩ u4).setCell ⟨gi, a5, none⟩ u5).cell? a = some v ∧ Below w0.heap.size w0 (((((W.setCell ⟨gi, a1, none⟩ u1).setCell ⟨gi, a2, none⟩ u2).setCell ⟨gi, a3, none⟩ u3).setCell ⟨gi, a4, none⟩ u4).setCell ⟨gi, a5, none⟩ u5) ∧ KeepBut w (((((W.setCell ⟨gi, a1, none⟩ u1).setCell ⟨gi, a2, none⟩ u2).setCell ⟨gi, a3, none⟩ u3).setCell ⟨gi, a4, none⟩ u4).setCell ⟨gi, a5, none⟩ u5) g none := by
 have e : ∀ (k : Nat), (⟨gi, k, none⟩ : Addr) ≠ a := fun k he => hne (by rw [← he])
 have hb := Nat.le_trans hL hgi
 refine ⟨?_, ((((h.2.1.setCell (p := ⟨gi, a1, none⟩) hb _).setCell (p := ⟨gi, a2, none⟩) hb _).setCell (p := ⟨gi, a3, none⟩) hb _).setCell (p := ⟨gi, a4, none⟩) hb _).setCell (p := ⟨gi, a5, none⟩) hb _, keep_far (p := ⟨gi, a5, none⟩) (keep_far (p := ⟨gi, a4, none⟩) (keep_far (p := ⟨gi, a3, none⟩) (keep_far (p := ⟨gi, a2, none⟩) (keep_far (p := ⟨gi, a1, none⟩) h.2.2 hgi _) hgi _) hgi _) hgi _) hgi _⟩
 rw [World.cell?_setCell_other _ _ _ _ (e a5), World.cell?_setCell_other _ _ _ _ (e a4), World.cell?_setCell_other _ _ _ _ (e a3), World.cell?_setCell_other _ _ _ _ (e a2), World.cell?_setCell_other _ _ _ _ (e a1)]
 exact h.1
set_option maxHeartbeats 4000000 in
set_option maxRecDepth 100000 in
theorem spec_l71Flash.c0 (k g : Nat) (s0_0 : List Int) (s0_1 : Int) (ev : List S81) (fl : List S28) (dk : List Int) (p1 q p2 : Int) (i p3 j p4 st p5 r0 r1 r2 r3 p6 : Int) (w0 w : World) (hI : IsS66 w0 w g s0_0 s0_1) (hB : Below w0.heap.size w0 w)
 (h1 : spec_l71Play.f k s0_0 s0_1 = some (ev, fl, dk, p1)) (h2 : spec_l6Rd_pick.f k s0_0 p1 20 = some (q, p2)) (n0 : q = 0) (h3 : spec_l6Rd_pick.f k s0_0 p2 (fl.length : Int) = some (i, p3)) (hi0 : 0 ≤ i) (hi1 : i < (fl.length : Int)) (h4 : spec_l6Rd_pick.f k s0_0 p3 4 = some (j, p4)) (hj0 : 0 ≤ j) (hj1 : j < ((rd_T28 fl i).f0.length : Int)) (h5 : spec_l6Rd_pick.f k s0_0 p4 4 = some (st, p5)) (h6 : spec_l71Rec.f k s0_0 p5 = some (r0, r1, r2, r3, p6)) :
 Calls Try.prog 24 #[.pointer (some ⟨g, 0, none⟩)] w fun e w' => ∃ v0_ : Value, e = .returned v0_ ∧ Kd.V k28 28 w' w.heap.size (fun k_ => w.heap.size ≤ k_) v0_ (fl.set i.toNat (⟨(rd_T28 fl i).f0.set j.toNat ⟨st, ⟨r0, r1, r2, r3⟩⟩, (rd_T28 fl i).f1⟩ : S28)) ∧ IsS66 w0 w' g s0_0 p6 ∧ Below w0.heap.size w0 w' ∧ KeepBut w w' g none := by
 have hu28 := Try.underlying28
 have hu32 := Try.underlying32
 have hu26 := Try.underlying26
 have hu70 := Try.underlying70
 have hgl := IsS66.lt hI
 have HL0 := am hB.size
 go_enter Try.func24, Try.ntmps24
 go_wp2_with fail
 refine (spec_l71Play.calls k g s0_0 s0_1 ev fl dk p1 w0 _ hI hB h1).mono ?_
 rintro e w1 ⟨v0, v1, v2, rfl, -, hS, hD, hI1, hB1, hK1⟩
 obtain ⟨A1, c1, rfl⟩ := Kd.S_slice hS
 obtain ⟨A2, c2, rfl⟩ := Kd.R_slice hD
 have HS := am (Kd.S_mono (Kd.S_bound hS) (fun k_ hk => (⟨hk.2.1, hk.2.2.1⟩ : w.heap.size ≤ k_ ∧ k_ < w1.heap.size)))
 have HI := am (hI1.alloc (.cells #[.slice A1 fl.length c1, .slice A2 dk.length c2] 70))
 have HB := am (below_alloc hB1 (.cells #[.slice A1 fl.length c1, .slice A2 dk.length c2] 70))
 have HK := am (keep_alloc hK1 (.cells #[.slice A1 fl.length c1, .slice A2 dk.length c2] 70))
 clear hS hD hI hB hI1 hB1 hK1
 go_wp2_with fail
 replace HS := am (Kd.S_alloc HS.out (.cells #[.slice A1 fl.length c1, .slice A2 dk.length c2] 70))
 refine (spec_l6Rd_pick.calls k g s0_0 p1 20 q p2 w0 _ HI.out HB.out h2).mono ?_
 rintro e w2 ⟨rfl, hI2, hB2, hK2⟩
 replace HS := am (Kd.S_keep HS.out hK2 (fun k_ hk => by have := hk.1; omega))
 replace HI := am hI2
 replace HB := am hB2
 replace HK := am (KeepBut.trans HK.out hK2 (.inl rfl))
 clear hI2 hB2 hK2
 subst n0
 obtain ⟨gf, cf, hA1, hgb, hgl1, cellsf, hcf⟩ := Kd.S_form HS.out (by omega)
 have ea := (Value.slice.inj hA1).1
 have ec := (Value.slice.inj hA1).2.2
 subst ea
 subst ec
 clear hA1 hcf hgl1
 obtain ⟨oki, c, hcl, hM, hcc, hfr, hoki, hH⟩ := Kd.S_elem HS.out z28 i hi0 hi1
 obtain ⟨vq, rfl, hR⟩ := k28_openM hM
 have hc := hcc 0 _ rfl
 rw [show (k28).sz = 2 from rfl, Nat.add_zero] at hc
 replace hR : Kd.R k32 32 w2 w.heap.size oki vq (rd_T28 fl i).f0 := hR
 obtain ⟨gi, ci, rfl, hgib, hgil, cellsi, hcgi⟩ := Kd.R_form hR (by omega)
 have hgigf : gi ≠ gf := (hoki gi (hR.1 gi rfl)).2
 obtain ⟨ce, hce, hMe, hcce, hfre⟩ := Kd.R_elem hR z32 j hj0 hj1
 obtain rfl := k32_openM hMe
 rw [show (k32).sz = 5 from rfl] at hcce
 have HD := am (And.intro (hcce 0 _ rfl) (And.intro (hcce 1 _ rfl) (And.intro (hcce 2 _ rfl) (And.intro (hcce 3 _ rfl) (hcce 4 _ rfl)))))
 rw [Nat.add_zero] at HD
 have HBI := am hcgi
 clear hcl hM hcc hfr hoki hH hR hcgi hce hMe hcce hfre hgil
 generalize hpq : (List.getD (rd_T28 fl i).f0 j.toNat z32) = pq at HD
 clear hpq
 generalize hnn : (rd_T28 fl i).f0.length = nn at hc hj1
 have HNN := am hnn
 clear hnn
 have hib := decide_eq_true hi1
 have hiq : (i < (fl.length : Int)) = True := eq_true hi1
 have hjb := decide_eq_true hj1
 have hjq : (j < (nn : Int)) = True := eq_true hj1
 have hgfg : gf ≠ g := by omega
 have hgig : gi ≠ g := by omega
 have hSS : w2.cell? ⟨gf, i.toNat * 2, none⟩ = some (.slice (some ⟨gi, 0, none⟩) nn ci) ∧ Below w0.heap.size w0 w2 ∧ KeepBut w w2 g none := ⟨hc, HB.out, HK.out⟩
 have HGI := am hgib
 have HGL := am hgl
 have hd1 : ∀ (W : World) (n : Nat) (a : Addr), (W.drewN n).cell? a = W.cell? a := fun _ _ _ => rfl
 have hd3 : ∀ (W : World) (n : Nat) (a : Addr), (W.drewN n).frozen? a = W.frozen? a := fun _ _ _ => rfl
 clear hc
 go_wp2_with fail
 go_region_held3 (fun W => W.cell? ⟨gf, i.toNat * 2, none⟩ = some (.slice (some ⟨gi, 0, none⟩) nn ci) ∧ Below w0.heap.size w0 W ∧ KeepBut w W g none)
  (first | (with_reducible assumption) | (with_reducible exact keepD hSS) | (with_reducible exact keepD1 hSS) | (with_reducible exact keepD hS3) | (with_reducible exact keepD hS4) | (with_reducible exact keepD hS5) | (with_reducible exact keepD hS6) | (with_reducible exact keepW hS6 HL0.out HGI.out hgigf.symm _ _ _ _ _ _ _ _ _ _) | (with_reducible exact keepW (keepD hS6) HL0.out HGI.out hgigf.symm _ _ _ _ _ _ _ _ _ _))
  (first
   | (go_at_call 42; have _hg := HI5.out; clear _hg; refine (spec_l71Rec.calls k g s0_0 p5 r0 r1 r2 r3 p6 w0 _ (by first | (with_reducible exact HI5.out) | (with_reducible exact IsS66.drewN HI5.out _) | (with_reducible exact IsS66.drew HI5.out)) (by first | (with_reducible exact hS5.2.1) | (with_reducible exact pw_below_drewN hS5.2.1 _) | (with_reducible exact below_drew hS5.2.1)) h6).mono ?_; rintro e w6 ⟨rfl, hI6, hB6, hq6⟩; have hK6 : KeepBut w2 w6 g none := KeepBut.trans HK5.out hq6 (.inl rfl); have HI6 := am hI6; have HK6 := am hK6; have hS6 : w6.cell? ⟨gf, i.toNat * 2, none⟩ = some (.slice (some ⟨gi, 0, none⟩) nn ci) ∧ Below w0.heap.size w0 w6 ∧ KeepBut w w6 g none := ⟨keep_cell hK6 hSS.1 hgfg, hB6, KeepBut.trans HK.out hK6 (.inl rfl)⟩; clear hI6 hq6 hB6 hK6; have K6 := HK6.out; have d0 := keep_cell K6 HD.out.1 hgig; have d1 := keep_cell K6 HD.out.2.1 hgig; have d2 := keep_cell K6 HD.out.2.2.1 hgig; have d3 := keep_cell K6 HD.out.2.2.2.1 hgig; have d4 := keep_cell K6 HD.out.2.2.2.2 hgig; have bk6 := blk_kb HBI.out K6 hgig; have f0 := blk_frozen bk6 (j.toNat * 5); have f1 := blk_frozen bk6 (j.toNat * 5 + 1); have f2 := blk_frozen bk6 (j.toNat * 5 + 2); have f3 := blk_frozen bk6 (j.toNat * 5 + 3); have f4 := blk_frozen bk6 (j.toNat * 5 + 4); clear K6 bk6)
   | (go_at_call 25; have _hg := HI4.out; clear _hg; refine (spec_l6Rd_pick.calls k g s0_0 p4 4 st p5 w0 _ (by first | (with_reducible exact HI4.out) | (with_reducible exact IsS66.drewN HI4.out _) | (with_reducible exact IsS66.drew HI4.out)) (by first | (with_reducible exact hS4.2.1) | (with_reducible exact pw_below_drewN hS4.2.1 _) | (with_reducible exact below_drew hS4.2.1)) h5).mono ?_; rintro e w5 ⟨rfl, hI5, hB5, hq5⟩; have hK5 : KeepBut w2 w5 g none := KeepBut.trans HK4.out hq5 (.inl rfl); have HI5 := am hI5; have HK5 := am hK5; have hS5 : w5.cell? ⟨gf, i.toNat * 2, none⟩ = some (.slice (some ⟨gi, 0, none⟩) nn ci) ∧ Below w0.heap.size w0 w5 ∧ KeepBut w w5 g none := ⟨keep_cell hK5 hSS.1 hgfg, hB5, KeepBut.trans HK.out hK5 (.inl rfl)⟩; clear hI5 hq5 hB5 hK5)
   | (go_at_call 25; have _hg := HI3.out; clear _hg; refine (spec_l6Rd_pick.calls k g s0_0 p3 4 j p4 w0 _ (by first | (with_reducible exact HI3.out) | (with_reducible exact IsS66.drewN HI3.out _) | (with_reducible exact IsS66.drew HI3.out)) (by first | (with_reducible exact hS3.2.1) | (with_reducible exact pw_below_drewN hS3.2.1 _) | (with_reducible exact below_drew hS3.2.1)) h4).mono ?_; rintro e w4 ⟨rfl, hI4, hB4, hq4⟩; have hK4 : KeepBut w2 w4 g none := KeepBut.trans HK3.out hq4 (.inl rfl); have HI4 := am hI4; have HK4 := am hK4; have hS4 : w4.cell? ⟨gf, i.toNat * 2, none⟩ = some (.slice (some ⟨gi, 0, none⟩) nn ci) ∧ Below w0.heap.size w0 w4 ∧ KeepBut w w4 g none := ⟨keep_cell hK4 hSS.1 hgfg, hB4, KeepBut.trans HK.out hK4 (.inl rfl)⟩; clear hI4 hq4 hB4 hK4)
   | (go_at_call 25; have _hg := HI.out; clear _hg; refine (spec_l6Rd_pick.calls k g s0_0 p2 (fl.length : Int) i p3 w0 _ (by first | (with_reducible exact HI.out) | (with_reducible exact IsS66.drewN HI.out _) | (with_reducible exact IsS66.drew HI.out)) (by first | (with_reducible exact hSS.2.1) | (with_reducible exact pw_below_drewN hSS.2.1 _) | (with_reducible exact below_drew hSS.2.1)) h3).mono ?_; rintro e w3 ⟨rfl, hI3, hB3, hq3⟩; have hK3 : KeepBut w2 w3 g none := hq3; have HI3 := am hI3; have HK3 := am hK3; have hS3 : w3.cell? ⟨gf, i.toNat * 2, none⟩ = some (.slice (some ⟨gi, 0, none⟩) nn ci) ∧ Below w0.heap.size w0 w3 ∧ KeepBut w w3 g none := ⟨keep_cell hK3 hSS.1 hgfg, hB3, KeepBut.trans HK.out hK3 (.inl rfl)⟩; clear hI3 hq3 hB3 hK3)
   | fail)
 have hS6w := (show (((((w6.setCell ⟨gi, j.toNat * 5, none⟩ (.int .i64 st)).setCell ⟨gi, j.toNat * 5 + 1, none⟩ (.int .i64 r0)).setCell ⟨gi, j.toNat * 5 + 2, none⟩ (.int .i64 r1)).setCell ⟨gi, j.toNat * 5 + 3, none⟩ (.int .i64 r2)).setCell ⟨gi, j.toNat * 5 + 4, none⟩ (.int .i64 r3)).cell? ⟨gf, i.toNat * 2, none⟩ = some (.slice (some ⟨gi, 0, none⟩) nn ci) ∧ Below w0.heap.size w0 (((((w6.setCell ⟨gi, j.toNat * 5, none⟩ (.int .i64 st)).setCell ⟨gi, j.toNat * 5 + 1, none⟩ (.int .i64 r0)).setCell ⟨gi, j.toNat * 5 + 2, none⟩ (.int .i64 r1)).setCell ⟨gi, j.toNat * 5 + 3, none⟩ (.int .i64 r2)).setCell ⟨gi, j.toNat * 5 + 4, none⟩ (.int .i64 r3)) ∧ KeepBut w (((((w6.setCell ⟨gi, j.toNat * 5, none⟩ (.int .i64 st)).setCell ⟨gi, j.toNat * 5 + 1, none⟩ (.int .i64 r0)).setCell ⟨gi, j.toNat * 5 + 2, none⟩ (.int .i64 r1)).setCell ⟨gi, j.toNat * 5 + 3, none⟩ (.int .i64 r2)).setCell ⟨gi, j.toNat * 5 + 4, none⟩ (.int .i64 r3)) g none from by with_reducible assumption)
 have hst := S_pageD (Kd.S_keep HS.out HK6.out (fun k_ hk => by have := hk.1; have := HGL.out; omega)) i hi0 hi1 hS6.1 j hj0 hj1 (⟨st, ⟨r0, r1, r2, r3⟩⟩ : S32)
 have hgne : g ≠ gi := fun h => hgig h.symm
 have hI7 := IsS66.far (p := ⟨gi, j.toNat * 5 + 4, none⟩) (IsS66.far (p := ⟨gi, j.toNat * 5 + 3, none⟩) (IsS66.far (p := ⟨gi, j.toNat * 5 + 2, none⟩) (IsS66.far (p := ⟨gi, j.toNat * 5 + 1, none⟩) (IsS66.far (p := ⟨gi, j.toNat * 5, none⟩) HI6.out hgne (.int .i64 st)) hgne (.int .i64 r0)) hgne (.int .i64 r1)) hgne (.int .i64 r2)) hgne (.int .i64 r3)
 have HR := am (And.intro hS6w (And.intro hst hI7))
 clear hS6w hst hI7 hSS hS3 hS4 hS5 hS6 d0 d1 d2 d3 d4 f0 f1 f2 f3 f4 h1 h2 h3 h4 h5 h6 hd1 hd3 HS HI HI3 HI4 HI5 HI6 HK3 HK4 HK5 HK6 HD HBI
 go_wp2
 go_ret
 exact ⟨_, rfl, Kd.S_V (Kd.S_mono HR.out.2.1 (fun _ hk => hk.1)), HR.out.2.2, HR.out.1.2⟩
def spec_l71Flash.g (k : Nat) (s0_0 : List Int) (fl : List S28) (q p2 : Int) : Option (List S28 × Int) :=
 if q = 0 then (spec_l6Rd_pick.f k s0_0 p2 (fl.length : Int)).bind fun b3 => (spec_l6Rd_pick.f k s0_0 b3.2 4).bind fun b4 => (spec_l6Rd_pick.f k s0_0 b4.2 4).bind fun b5 => (spec_l71Rec.f k s0_0 b5.2).bind fun b6 =>
  if 0 ≤ b3.1 ∧ b3.1 < (fl.length : Int) ∧ 0 ≤ b4.1 ∧ b4.1 < ((rd_T28 fl b3.1).f0.length : Int) then some (fl.set b3.1.toNat (⟨(rd_T28 fl b3.1).f0.set b4.1.toNat ⟨b5.1, ⟨b6.1, b6.2.1, b6.2.2.1, b6.2.2.2.1⟩⟩, (rd_T28 fl b3.1).f1⟩ : S28), b6.2.2.2.2) else none
 else if q = 1 then (spec_l6Rd_pick.f k s0_0 p2 (fl.length : Int)).bind fun b3 => (spec_l6Rd_pick.f k s0_0 b3.2 3).bind fun b4 =>
  if 0 ≤ b3.1 ∧ b3.1 < (fl.length : Int) ∧ 0 ≤ b4.1 ∧ b4.1 < 3 then some (fl.set b3.1.toNat (⟨(rd_T28 fl b3.1).f0, rd [-1, 200, 201] b4.1⟩ : S28), b4.2) else none
 else if q = 2 then (if 1 ≤ fl.length then some (fl.tail, p2) else none)
 else if q = 3 then (spec_l6Rd_pick.f k s0_0 p2 (fl.length : Int)).bind fun b3 =>
  if 0 ≤ b3.1 ∧ b3.1 < (fl.length : Int) ∧ 1 ≤ (rd_T28 fl b3.1).f0.length then some (fl.set b3.1.toNat (⟨(rd_T28 fl b3.1).f0.tail, (rd_T28 fl b3.1).f1⟩ : S28), b3.2) else none
 else some (fl, p2)
def spec_l71Flash.f (k : Nat) (s0_0 : List Int) (s0_1 : Int) : Option (List S28 × Int) :=
 (spec_l71Play.f k s0_0 s0_1).bind fun b1 => (spec_l6Rd_pick.f k s0_0 b1.2.2.2 20).bind fun b2 => spec_l71Flash.g k s0_0 b1.2.1 b2.1 b2.2
theorem spec_l71Flash.mono : ∀ a0 a1 k, LeO (spec_l71Flash.f k a0 a1) (spec_l71Flash.f (k + 1) a0 a1) := by
 intro a0 a1 k
 unfold spec_l71Flash.f
 refine LeO.bind (spec_l71Play.mono _ _ _) (fun b1 => LeO.bind (spec_l6Rd_pick.mono _ _ _ _) (fun b2 => ?_))
 unfold spec_l71Flash.g
 repeat' first
 | (with_reducible exact LeO.refl _)
 | (with_reducible exact spec_l6Rd_pick.mono _ _ _ _)
 | (with_reducible exact spec_l71Rec.mono _ _ _)
 | (with_reducible refine LeO.bind ?_ (fun _ => ?_))
 | (with_reducible refine LeO.ite ?_ ?_)
theorem spec_l71Flash.calls (k : Nat) (g : Nat) (s0_0 : List Int) (s0_1 : Int) (r1 : List (S28)) (r2 : Int) (w0 w : World) (hI : IsS66 w0 w g s0_0 s0_1) (hB : Below w0.heap.size w0 w) (h : spec_l71Flash.f k s0_0 s0_1 = some (r1, r2)) :
 Calls Try.prog 24 #[.pointer (some ⟨g, 0, none⟩)] w fun e w' => ∃ v0_ : Value, e = .returned v0_ ∧ Kd.V k28 28 w' w.heap.size (fun k_ => w.heap.size ≤ k_) v0_ r1 ∧ IsS66 w0 w' g s0_0 r2 ∧ Below w0.heap.size w0 w' ∧ KeepBut w w' g none := by
 unfold spec_l71Flash.f at h
 obtain ⟨⟨ev, fl, dk, p1⟩, h1, h⟩ := Option.bind_eq_some_iff.1 h
 obtain ⟨⟨q, p2⟩, h2, h⟩ := Option.bind_eq_some_iff.1 h
 replace h : spec_l71Flash.g k s0_0 fl q p2 = some (r1, r2) := h
 unfold spec_l71Flash.g at h
 by_cases n0 : q = 0
 · rw [if_pos n0] at h
   obtain ⟨⟨i, p3⟩, h3, h⟩ := Option.bind_eq_some_iff.1 h
   obtain ⟨⟨j, p4⟩, h4, h⟩ := Option.bind_eq_some_iff.1 h
   obtain ⟨⟨st, p5⟩, h5, h⟩ := Option.bind_eq_some_iff.1 h
   obtain ⟨⟨r0, ra, rb, rc, p6⟩, h6, h⟩ := Option.bind_eq_some_iff.1 h
   obtain ⟨⟨hi0, hi1, hj0, hj1⟩, h⟩ := ite_some h
   have e := Prod.mk.inj (Option.some.inj h)
   rw [← e.1, ← e.2]
   exact spec_l71Flash.c0 k g s0_0 s0_1 ev fl dk p1 q p2 i p3 j p4 st p5 r0 ra rb rc p6 w0 w hI hB h1 h2 n0 h3 hi0 hi1 h4 hj0 hj1 h5 h6
 rw [if_neg n0] at h
 by_cases n1 : q = 1
 · rw [if_pos n1] at h
   obtain ⟨⟨i, p3⟩, h3, h⟩ := Option.bind_eq_some_iff.1 h
   obtain ⟨⟨j, p4⟩, h4, h⟩ := Option.bind_eq_some_iff.1 h
   obtain ⟨⟨hi0, hi1, hj0, hj1⟩, h⟩ := ite_some h
   have e := Prod.mk.inj (Option.some.inj h)
   rw [← e.1, ← e.2]
   exact spec_l71Flash.c1 k g s0_0 s0_1 ev fl dk p1 q p2 i p3 j p4 w0 w hI hB h1 h2 n1 h3 hi0 hi1 h4 hj0 hj1
 rw [if_neg n1] at h
 by_cases n2 : q = 2
 · rw [if_pos n2] at h
   obtain ⟨hl, h⟩ := ite_some h
   have e := Prod.mk.inj (Option.some.inj h)
   rw [← e.1, ← e.2]
   exact spec_l71Flash.c2 k g s0_0 s0_1 ev fl dk p1 q p2 w0 w hI hB h1 h2 n2 hl
 rw [if_neg n2] at h
 by_cases n3 : q = 3
 · rw [if_pos n3] at h
   obtain ⟨⟨i, p3⟩, h3, h⟩ := Option.bind_eq_some_iff.1 h
   obtain ⟨⟨hi0, hi1, hp⟩, h⟩ := ite_some h
   have e := Prod.mk.inj (Option.some.inj h)
   rw [← e.1, ← e.2]
   exact spec_l71Flash.c3 k g s0_0 s0_1 ev fl dk p1 q p2 i p3 w0 w hI hB h1 h2 n3 h3 hi0 hi1 hp
 rw [if_neg n3] at h
 have e := Prod.mk.inj (Option.some.inj h)
 rw [← e.1, ← e.2]
 exact spec_l71Flash.c4 k g s0_0 s0_1 ev fl dk p1 q p2 w0 w hI hB h1 h2 n0 n1 n2 n3
def spec_DrawFlashClean.f (k : Nat) (l0 : List Int) : Option ((List (S28)) × Int) := (spec_l6Open.f l0).bind fun bt429 => ((spec_l71Flash.f k bt429.1 bt429.2).bind fun bt432 => ((spec_l6Rd_pick.f k bt429.1 bt432.2 4).bind fun bt436 => ((spec_l6Rd_pick.f k bt429.1 bt436.2 16).bind fun bt438 => (some (bt432.1, wrap64 (bt436.1 + (wrap64 ((wrap64 (Int.tdiv bt438.1 15)) * 4))))))))
theorem spec_DrawFlashClean.mono : ∀ a0 k, LeO (spec_DrawFlashClean.f k a0) (spec_DrawFlashClean.f (k + 1) a0) := by
 intro a0 k
 unfold spec_DrawFlashClean.f
 repeat' first
  | (with_reducible exact spec_l6Rd_pick.mono _ _ _ _)
  | (with_reducible exact spec_l71Flash.mono _ _ _)
  | (with_reducible exact LeO.refl _)
  | (with_reducible exact LeO.none _)
  | (with_reducible refine LeO.ite ?_ ?_)
  | (with_reducible refine LeO.bind ?_ (fun _ => ?_))
  | exact spec_l6Rd_pick.mono _ _ _ _
  | exact spec_l71Flash.mono _ _ _
  | exact LeO.none _
  | refine LeO.ite ?_ ?_
  | refine LeO.bind ?_ (fun _ => ?_)
set_option maxHeartbeats 8000000 in
set_option maxRecDepth 100000 in
theorem spec_DrawFlashClean.calls (k : Nat) (A0 : Option Addr) (c0 : Nat) (l0 : List Int) (r1 : List (S28)) (r2 : Int) (w : World) (hr0 : Kd.C (Kd.int .u8) w A0 l0.length l0) (hc0 : l0.length ≤ c0) (h : spec_DrawFlashClean.f k l0 = some (r1, r2)) :
 Calls Try.prog 12 #[.slice A0 l0.length c0] w fun e w' => ∃ v0_ : Value, e = .returned (.tuple #[v0_, .int .i64 r2]) ∧ Kd.V k28 28 w' w.heap.size (fun k_ => (w.heap.size ≤ k_)) v0_ r1 ∧ Below w.heap.size w w' := by
 have HR0 := am hr0
 have HC0 := am hc0
 clear hr0 hc0
 have HB := am (Below.refl w.heap.size w)
 have H : ((spec_l6Open.f l0).bind fun bt429 => ((spec_l71Flash.f k bt429.1 bt429.2).bind fun bt432 => ((spec_l6Rd_pick.f k bt429.1 bt432.2 4).bind fun bt436 => ((spec_l6Rd_pick.f k bt429.1 bt436.2 16).bind fun bt438 => (some (bt432.1, wrap64 (bt436.1 + (wrap64 ((wrap64 (Int.tdiv bt438.1 15)) * 4))))))))) = some (r1, r2) := h
 clear h
 replace H := Option.bind_eq_some_iff.mp H
 obtain ⟨⟨t429, t430⟩, A20, H⟩ := H
 replace H : ((spec_l71Flash.f k t429 t430).bind fun bt432 => ((spec_l6Rd_pick.f k t429 bt432.2 4).bind fun bt436 => ((spec_l6Rd_pick.f k t429 bt436.2 16).bind fun bt438 => (some (bt432.1, wrap64 (bt436.1 + (wrap64 ((wrap64 (Int.tdiv bt438.1 15)) * 4)))))))) = some (r1, r2) := H
 have A2 := am A20
 clear A20
 replace H := Option.bind_eq_some_iff.mp H
 obtain ⟨⟨t432, t435⟩, A30, H⟩ := H
 replace H : ((spec_l6Rd_pick.f k t429 t435 4).bind fun bt436 => ((spec_l6Rd_pick.f k t429 bt436.2 16).bind fun bt438 => (some (t432, wrap64 (bt436.1 + (wrap64 ((wrap64 (Int.tdiv bt438.1 15)) * 4))))))) = some (r1, r2) := H
 have A3 := am A30
 clear A30
 replace H := Option.bind_eq_some_iff.mp H
 obtain ⟨⟨t436, t437⟩, A40, H⟩ := H
 replace H : ((spec_l6Rd_pick.f k t429 t437 16).bind fun bt438 => (some (t432, wrap64 (t436 + (wrap64 ((wrap64 (Int.tdiv bt438.1 15)) * 4)))))) = some (r1, r2) := H
 have A4 := am A40
 clear A40
 replace H := Option.bind_eq_some_iff.mp H
 obtain ⟨⟨t438, t439⟩, A50, H⟩ := H
 replace H : (some (t432, wrap64 (t436 + (wrap64 ((wrap64 (Int.tdiv t438 15)) * 4))))) = some (r1, r2) := H
 have A5 := am A50
 clear A50
 simp only [Option.some.injEq, Prod.mk.injEq] at H
 obtain ⟨rfl, rfl⟩ := H
 go_enter Try.func12, Try.ntmps12
 go_wp2_with (first | (refine gl 6 Try.func23 #[.slice A0 l0.length c0] rfl ?_; (with_reducible refine (spec_l6Open.calls _ _ l0 t429 t430 w _ ?side1 ?side2 ?side3 A2.out).mono ?_); (case side1 => repeat (first | (with_reducible first | exact HB.out | apply below_alloc | apply pw_below_drewN | apply below_drew1) | exact HB.out)); (case side2 => exact HR0.out); (case side3 => exact HC0.out); rintro e w6 ⟨g431, rfl, hi, hb, hb2⟩; refine ⟨_, rfl, ?_⟩; replace HB := am (hb); have HI431 := am (hi); (try clear hb); (try clear hb2); (try clear hk); (try clear hi)) | (refine gl 8 Try.func24 #[.pointer (some ⟨g431, 0, none⟩)] rfl ?_; (with_reducible refine (spec_l71Flash.calls k g431 t429 t430 t432 t435 w _ ?side1 ?side2 A3.out).mono ?_); (case side1 => repeat (first | (with_reducible first | exact HI431.out | apply IsS66.alloc | apply IsS66.drewN | apply IsS66.drew | apply IsS66.set_1) | exact HI431.out)); (case side2 => repeat (first | (with_reducible first | exact HB.out | apply below_alloc | apply pw_below_drewN | apply below_drew1 | refine below_set ?_ (IsS66.ge HI431.out)) | exact HB.out)); rintro e w7 ⟨v433, rfl, ho0, hi, hb, hk⟩; refine ⟨_, rfl, ?_⟩; have HO434 := am (Kd.V_lower (Kd.V_mono (ok' := fun k_ => (w.heap.size ≤ k_) ∧ k_ ≠ g431) ho0 (fun k_ hk_ => ⟨(Nat.le_trans (below_size (by repeat (first | (with_reducible first | exact HB.out | apply below_alloc | apply pw_below_drewN | apply below_drew1 | refine below_set ?_ (IsS66.ge HI431.out)) | exact HB.out))) hk_), (IsS66.fresh (by repeat (first | (with_reducible first | exact HI431.out | apply IsS66.alloc | apply IsS66.drewN | apply IsS66.drew | apply IsS66.set_1) | exact HI431.out)) k_ hk_)⟩)) (below_size (by repeat (first | (with_reducible first | exact HB.out | apply below_alloc | apply pw_below_drewN | apply below_drew1 | refine below_set ?_ (IsS66.ge HI431.out)) | exact HB.out)))); replace HB := am (hb); replace HI431 := am (hi); (try clear hb); (try clear hb2); (try clear hk); (try clear hi); (try clear ho0)) | (refine gl 10 Try.func25 #[.pointer (some ⟨g431, 0, none⟩), .int .i64 4] rfl ?_; (with_reducible refine (spec_l6Rd_pick.calls k g431 t429 t435 4 t436 t437 w _ ?side1 ?side2 A4.out).mono ?_); (case side1 => repeat (first | (with_reducible first | exact HI431.out | apply IsS66.alloc | apply IsS66.drewN | apply IsS66.drew | apply IsS66.set_1) | exact HI431.out)); (case side2 => repeat (first | (with_reducible first | exact HB.out | apply below_alloc | apply pw_below_drewN | apply below_drew1 | refine below_set ?_ (IsS66.ge HI431.out)) | exact HB.out)); rintro e w8 ⟨rfl, hi, hb, hk⟩; refine ⟨_, rfl, ?_⟩; replace HO434 := am (Kd.V_mono (Kd.V_keep (Kd.V_mono (ok := fun k_ => (((w.heap.size ≤ k_)) ∧ k_ ≠ g431)) (by (with_reducible repeat (first | apply Kd.V_alloc | apply Kd.V_drewN | apply Kd.V_drew)); exact HO434.out) (fun k_ hk_ => (⟨hk_, hk_.2⟩ : _ ∧ k_ ≠ g431))) hk (fun _ h => h.2)) (fun _ h => h.1)); replace HB := am (hb); replace HI431 := am (hi); (try clear hb); (try clear hb2); (try clear hk); (try clear hi)) | (refine gl 12 Try.func25 #[.pointer (some ⟨g431, 0, none⟩), .int .i64 16] rfl ?_; (with_reducible refine (spec_l6Rd_pick.calls k g431 t429 t437 16 t438 t439 w _ ?side1 ?side2 A5.out).mono ?_); (case side1 => repeat (first | (with_reducible first | exact HI431.out | apply IsS66.alloc | apply IsS66.drewN | apply IsS66.drew | apply IsS66.set_1) | exact HI431.out)); (case side2 => repeat (first | (with_reducible first | exact HB.out | apply below_alloc | apply pw_below_drewN | apply below_drew1 | refine below_set ?_ (IsS66.ge HI431.out)) | exact HB.out)); rintro e w9 ⟨rfl, hi, hb, hk⟩; refine ⟨_, rfl, ?_⟩; replace HO434 := am (Kd.V_mono (Kd.V_keep (Kd.V_mono (ok := fun k_ => (((w.heap.size ≤ k_)) ∧ k_ ≠ g431)) (by (with_reducible repeat (first | apply Kd.V_alloc | apply Kd.V_drewN | apply Kd.V_drew)); exact HO434.out) (fun k_ hk_ => (⟨hk_, hk_.2⟩ : _ ∧ k_ ≠ g431))) hk (fun _ h => h.2)) (fun _ h => h.1)); replace HB := am (hb); replace HI431 := am (hi); (try clear hb); (try clear hb2); (try clear hk); (try clear hi)))
 go_ret2
 exact ⟨_, rq ⟨by (with_reducible repeat (first | apply Kd.V_alloc | apply Kd.V_drewN | apply Kd.V_drew)); exact Kd.V_mono HO434.out (fun _ hk => hk.1), by repeat (first | (with_reducible first | exact HB.out | apply below_alloc | apply pw_below_drewN | apply below_drew1 | refine below_set ?_ (IsS66.ge HI431.out)) | exact HB.out)⟩⟩
def spec_FlashClean.f (k : Nat) (l0 : List (S28)) (a1 : Int) : Option (Int) := (spec_FlashOk.f l0).bind fun t440 => (if t440 = true then ((spec_l6In.f a1 0 3).bind fun t441 => (if t441 = true then (if 0 ≤ a1 then (if a1 < (l0.length : Int) then ((spec_l2Clean.f k ((rd_T28 l0 a1).f0) ((rd_T28 l0 a1).f1)).bind fun t443 => (some t443)) else (none)) else (none)) else (some (-1)))) else (some (-1)))
theorem spec_FlashClean.mono : ∀ a0 a1 k, LeO (spec_FlashClean.f k a0 a1) (spec_FlashClean.f (k + 1) a0 a1) := by
 intro a0 a1 k
 unfold spec_FlashClean.f
 repeat' first
  | (with_reducible exact spec_l2Clean.mono _ _ _)
  | (with_reducible exact LeO.refl _)
  | (with_reducible exact LeO.none _)
  | (with_reducible refine LeO.ite ?_ ?_)
  | (with_reducible refine LeO.bind ?_ (fun _ => ?_))
  | exact spec_l2Clean.mono _ _ _
  | exact LeO.none _
  | refine LeO.ite ?_ ?_
  | refine LeO.bind ?_ (fun _ => ?_)
set_option maxHeartbeats 8000000 in
set_option maxRecDepth 100000 in
theorem spec_FlashClean.calls (k : Nat) (A0 : Option Addr) (c0 : Nat) (l0 : List (S28)) (a1 : Int) (r : Int) (w : World) (hr0 : Kd.C k28 w A0 l0.length l0) (hc0 : l0.length ≤ c0) (h : spec_FlashClean.f k l0 a1 = some r) :
 Calls Try.prog 13 #[.slice A0 l0.length c0, .int .i64 a1] w fun e w' => e = .returned (.int .i64 r) ∧ Below w.heap.size w w' := by
 have hu28 := Try.underlying28
 have HR0 := am hr0
 have HC0 := am hc0
 clear hr0 hc0
 have HB := am (Below.refl w.heap.size w)
 have H : ((spec_FlashOk.f l0).bind fun t440 => (if t440 = true then ((spec_l6In.f a1 0 3).bind fun t441 => (if t441 = true then (if 0 ≤ a1 then (if a1 < (l0.length : Int) then ((spec_l2Clean.f k ((rd_T28 l0 a1).f0) ((rd_T28 l0 a1).f1)).bind fun t443 => (some t443)) else (none)) else (none)) else (some (-1)))) else (some (-1)))) = some r := h
 clear h
 replace H := Option.bind_eq_some_iff.mp H
 obtain ⟨t440, A30, H⟩ := H
 replace H : (if t440 = true then ((spec_l6In.f a1 0 3).bind fun t441 => (if t441 = true then (if 0 ≤ a1 then (if a1 < (l0.length : Int) then ((spec_l2Clean.f k ((rd_T28 l0 a1).f0) ((rd_T28 l0 a1).f1)).bind fun t443 => (some t443)) else (none)) else (none)) else (some (-1)))) else (some (-1))) = some r := H
 have A3 := am A30
 clear A30
 by_cases c4 : t440 = true
 rotate_left
 · replace c4 := Bool.eq_false_iff.mpr c4
   subst c4
   have H1 : (some (-1)) = some r := by rw [if_neg (show ¬ (false = true) by decide)] at H; exact H
   clear H
   have H := H1
   clear H1
   obtain rfl := Option.some.inj H
   go_enter Try.func13, Try.ntmps13
   go_wp2_with (first | (refine gl 6 Try.func10 #[.slice A0 l0.length c0] rfl ?_; (with_reducible refine (spec_FlashOk.calls _ _ l0 false _ ?side1 ?side2 A3.out).mono ?_); (case side1 => repeat (first | exact HR0.out | (with_reducible refine Kd.C_alloc ?_ _) | (with_reducible refine Kd.C_drewN ?_ _) | (with_reducible refine Kd.C_drew ?_))); (case side2 => exact HC0.out); rintro e w13 ⟨rfl, hb⟩; refine ⟨_, rfl, ?_⟩; replace HB := am (below_step (ph HB.out) hb); (try clear hb); (try clear hb2); (try clear hk); (try clear hi)))
   go_ret
   exact (rq (ph HB.out))
 subst c4
 have H1 : ((spec_l6In.f a1 0 3).bind fun t441 => (if t441 = true then (if 0 ≤ a1 then (if a1 < (l0.length : Int) then ((spec_l2Clean.f k ((rd_T28 l0 a1).f0) ((rd_T28 l0 a1).f1)).bind fun t443 => (some t443)) else (none)) else (none)) else (some (-1)))) = some r := by rw [if_pos rfl] at H; exact H
 clear H
 have H := H1
 clear H1
 replace H := Option.bind_eq_some_iff.mp H
 obtain ⟨t441, A50, H⟩ := H
 replace H : (if t441 = true then (if 0 ≤ a1 then (if a1 < (l0.length : Int) then ((spec_l2Clean.f k ((rd_T28 l0 a1).f0) ((rd_T28 l0 a1).f1)).bind fun t443 => (some t443)) else (none)) else (none)) else (some (-1))) = some r := H
 have A5 := am A50
 clear A50
 by_cases c6 : t441 = true
 rotate_left
 · replace c6 := Bool.eq_false_iff.mpr c6
   subst c6
   have H1 : (some (-1)) = some r := by rw [if_neg (show ¬ (false = true) by decide)] at H; exact H
   clear H
   have H := H1
   clear H1
   obtain rfl := Option.some.inj H
   go_enter Try.func13, Try.ntmps13
   go_wp2_with (first | (refine gl 6 Try.func10 #[.slice A0 l0.length c0] rfl ?_; (with_reducible refine (spec_FlashOk.calls _ _ l0 true _ ?side1 ?side2 A3.out).mono ?_); (case side1 => repeat (first | exact HR0.out | (with_reducible refine Kd.C_alloc ?_ _) | (with_reducible refine Kd.C_drewN ?_ _) | (with_reducible refine Kd.C_drew ?_))); (case side2 => exact HC0.out); rintro e w12 ⟨rfl, hb⟩; refine ⟨_, rfl, ?_⟩; replace HB := am (below_step (ph HB.out) hb); (try clear hb); (try clear hb2); (try clear hk); (try clear hi)) | (go_at_call 28; (with_reducible refine (spec_l6In.calls a1 0 3 false _ A5.out).mono ?_); rintro e w' ⟨rfl, ⟨nd, rfl⟩⟩))
   go_ret
   exact (rq (ph HB.out))
 subst c6
 have H1 : (if 0 ≤ a1 then (if a1 < (l0.length : Int) then ((spec_l2Clean.f k ((rd_T28 l0 a1).f0) ((rd_T28 l0 a1).f1)).bind fun t443 => (some t443)) else (none)) else (none)) = some r := by rw [if_pos rfl] at H; exact H
 clear H
 have H := H1
 clear H1
 by_cases c7 : 0 ≤ a1
 rotate_left
 · rw [if_neg c7] at H
   exact absurd H (by simp)
 rw [if_pos c7] at H
 have c7b0 := decide_eq_true c7
 clear c7
 by_cases c8 : a1 < (l0.length : Int)
 rotate_left
 · rw [if_neg c8] at H
   exact absurd H (by simp)
 rw [if_pos c8] at H
 have c8b0 := decide_eq_true c8
 clear c8
 replace H := Option.bind_eq_some_iff.mp H
 obtain ⟨t443, A90, H⟩ := H
 replace H : (some t443) = some r := H
 have A9 := am A90
 clear A90
 obtain rfl := Option.some.inj H
 go_enter Try.func13, Try.ntmps13
 go_wp2_with (first | (refine gl 6 Try.func10 #[.slice A0 l0.length c0] rfl ?_; (with_reducible refine (spec_FlashOk.calls _ _ l0 true _ ?side1 ?side2 A3.out).mono ?_); (case side1 => repeat (first | exact HR0.out | (with_reducible refine Kd.C_alloc ?_ _) | (with_reducible refine Kd.C_drewN ?_ _) | (with_reducible refine Kd.C_drew ?_))); (case side2 => exact HC0.out); rintro e w10 ⟨rfl, hb⟩; refine ⟨_, rfl, ?_⟩; replace HB := am (below_step (ph HB.out) hb); (try clear hb); (try clear hb2); (try clear hk); (try clear hi)) | (go_at_call 28; (with_reducible refine (spec_l6In.calls a1 0 3 true _ A5.out).mono ?_); rintro e w' ⟨rfl, ⟨nd, rfl⟩⟩; have p442 : 0 ≤ (a1 : Int) := ofb; have q442 : a1 < (l0.length : Int) := ofb; obtain ⟨ad442, A442_0, c442_0, e442, hx442_0, hx442_1, hl442_0, hi442_0⟩ := at_T28 HR0.out a1 p442 q442; cases e442; replace hx442_0 := up HB.out hx442_0; replace hx442_1 := up HB.out hx442_1; have HR442_0 := am hi442_0; have HC442_0 := am hl442_0; clear hi442_0 hl442_0; replace p442 := eq_true p442; replace q442 := eq_true q442) | (refine gl 17 Try.func32 #[.agg #[.slice A442_0 ((rd_T28 l0 a1).f0).length c442_0, .int .i64 ((rd_T28 l0 a1).f1)]] rfl ?_; (with_reducible refine (spec_l2Clean.calls k _ _ ((rd_T28 l0 a1).f0) ((rd_T28 l0 a1).f1) t443 _ ?side1 ?side2 A9.out).mono ?_); (case side1 => repeat (first | exact (Kd.C_below HR442_0.out (ph HB.out)) | (with_reducible refine Kd.C_alloc ?_ _) | (with_reducible refine Kd.C_drewN ?_ _) | (with_reducible refine Kd.C_drew ?_))); (case side2 => exact HC442_0.out); rintro e w11 ⟨rfl, hb⟩; refine ⟨_, rfl, ?_⟩; replace HB := am (below_step (ph HB.out) hb); (try clear hb); (try clear hb2); (try clear hk); (try clear hi)))
 go_ret
 exact (rq (ph HB.out))
mutual
def laws_FnCleanAll.j0 : Nat → List (S28) → Int → Int → Bool → Option (Bool)
 | 0, _, _, _, _ => none
 | k + 1, x3, x4, x5, x35 => if x35 = true then ((spec_FlashClean.f k x3 x4).bind fun t451 => (some (x5 == t451))) else (laws_FnCleanAll.l0 k x3 x4 x5 0)
def laws_FnCleanAll.l0 : Nat → List (S28) → Int → Int → Int → Option (Bool)
 | 0, _, _, _, _ => none
 | k + 1, x3, x4, x5, x6 => if x6 < 4 then (if 0 ≤ x4 then (if x4 < (x3.length : Int) then (if 0 ≤ x6 then (if x6 < (((rd_T28 x3 x4).f0).length : Int) then (if ((((rd_T32 ((rd_T28 x3 x4).f0) x6).f0) == 0) != (decide (x6 ≥ (wrap64 (4 - x5))))) = true then (some false) else (laws_FnCleanAll.l0 k x3 x4 x5 (wrap64 (x6 + 1)))) else (none)) else (none)) else (none)) else (none)) else ((impl_FlashClean.f k x3 (-1)).bind fun t454 => (if t454 = (-1) then ((impl_FlashClean.f k x3 4).bind fun t455 => (some (t455 == (-1)))) else (some false)))
end
def laws_FnCleanAll.f (k : Nat) (l0 : List Int) : Option (Bool) := if (l0.length : Int) > 1048576 then (some true) else ((spec_DrawFlashClean.f k l0).bind fun bt444 => ((impl_FlashClean.f k bt444.1 bt444.2).bind fun t448 => ((spec_FlashClean.f k bt444.1 bt444.2).bind fun t449 => (if t448 = t449 then ((spec_FlashOk.f bt444.1).bind fun t450 => (if t450 = true then (if bt444.2 < 0 then (laws_FnCleanAll.j0 k bt444.1 bt444.2 t448 true) else (laws_FnCleanAll.j0 k bt444.1 bt444.2 t448 (decide (bt444.2 ≥ 4)))) else (laws_FnCleanAll.j0 k bt444.1 bt444.2 t448 true))) else (laws_FnCleanAll.j0 k bt444.1 bt444.2 t448 true)))))
theorem laws_FnCleanAll.mono_l : ∀ k, (∀ y0 y1 y2 y3, LeO (laws_FnCleanAll.j0 k y0 y1 y2 y3) (laws_FnCleanAll.j0 (k + 1) y0 y1 y2 y3)) ∧ (∀ y0 y1 y2 y3, LeO (laws_FnCleanAll.l0 k y0 y1 y2 y3) (laws_FnCleanAll.l0 (k + 1) y0 y1 y2 y3))
 | 0 => ⟨fun _ _ _ _ r h => by simp [laws_FnCleanAll.j0] at h, fun _ _ _ _ r h => by simp [laws_FnCleanAll.l0] at h⟩
 | k + 1 => by
  obtain ⟨ih0, ih1⟩ := laws_FnCleanAll.mono_l k
  refine ⟨?_, ?_⟩
  · intro y0 y1 y2 y3
    unfold laws_FnCleanAll.j0
    repeat' first
    | (with_reducible exact ih0 _ _ _ _)
    | (with_reducible exact ih1 _ _ _ _)
    | (with_reducible exact impl_FlashClean.mono _ _ _)
    | (with_reducible exact spec_DrawFlashClean.mono _ _)
    | (with_reducible exact spec_FlashClean.mono _ _ _)
    | (with_reducible exact LeO.refl _)
    | (with_reducible exact LeO.none _)
    | (with_reducible refine LeO.ite ?_ ?_)
    | (with_reducible refine LeO.bind ?_ (fun _ => ?_))
    | exact ih0 _ _ _ _
    | exact ih1 _ _ _ _
    | exact impl_FlashClean.mono _ _ _
    | exact spec_DrawFlashClean.mono _ _
    | exact spec_FlashClean.mono _ _ _
    | exact LeO.none _
    | refine LeO.ite ?_ ?_
    | refine LeO.bind ?_ (fun _ => ?_)
  · intro y0 y1 y2 y3
    unfold laws_FnCleanAll.l0
    repeat' first
    | (with_reducible exact ih0 _ _ _ _)
    | (with_reducible exact ih1 _ _ _ _)
    | (with_reducible exact impl_FlashClean.mono _ _ _)
    | (with_reducible exact spec_DrawFlashClean.mono _ _)
    | (with_reducible exact spec_FlashClean.mono _ _ _)
    | (with_reducible exact LeO.refl _)
    | (with_reducible exact LeO.none _)
    | (with_reducible refine LeO.ite ?_ ?_)
    | (with_reducible refine LeO.bind ?_ (fun _ => ?_))
    | exact ih0 _ _ _ _
    | exact ih1 _ _ _ _
    | exact impl_FlashClean.mono _ _ _
    | exact spec_DrawFlashClean.mono _ _
    | exact spec_FlashClean.mono _ _ _
    | exact LeO.none _
    | refine LeO.ite ?_ ?_
    | refine LeO.bind ?_ (fun _ => ?_)
theorem laws_FnCleanAll.mono : ∀ a0 k, LeO (laws_FnCleanAll.f k a0) (laws_FnCleanAll.f (k + 1) a0) := by
 intro a0 k
 obtain ⟨ih0, ih1⟩ := laws_FnCleanAll.mono_l k
 unfold laws_FnCleanAll.f
 repeat' first
  | (with_reducible exact ih0 _ _ _ _)
  | (with_reducible exact ih1 _ _ _ _)
  | (with_reducible exact impl_FlashClean.mono _ _ _)
  | (with_reducible exact spec_DrawFlashClean.mono _ _)
  | (with_reducible exact spec_FlashClean.mono _ _ _)
  | (with_reducible exact LeO.refl _)
  | (with_reducible exact LeO.none _)
  | (with_reducible refine LeO.ite ?_ ?_)
  | (with_reducible refine LeO.bind ?_ (fun _ => ?_))
  | exact ih0 _ _ _ _
  | exact ih1 _ _ _ _
  | exact impl_FlashClean.mono _ _ _
  | exact spec_DrawFlashClean.mono _ _
  | exact spec_FlashClean.mono _ _ _
  | exact LeO.none _
  | refine LeO.ite ?_ ?_
  | refine LeO.bind ?_ (fun _ => ?_)
set_option maxHeartbeats 8000000 in
set_option maxRecDepth 100000 in
theorem laws_FnCleanAll.calls (k : Nat) (A0 : Option Addr) (c0 : Nat) (l0 : List Int) (r : Bool) (w : World) (hr0 : Kd.C (Kd.int .u8) w A0 l0.length l0) (hc0 : l0.length ≤ c0) (h : laws_FnCleanAll.f k l0 = some r) :
 Calls Try.prog 5 #[.slice A0 l0.length c0] w fun e w' => e = .returned (.bool r) ∧ Below w.heap.size w w' := by
 have HR0 := am hr0
 have HC0 := am hc0
 clear hr0 hc0
 have HB := am (Below.refl w.heap.size w)
 have H : (if (l0.length : Int) > 1048576 then (some true) else ((spec_DrawFlashClean.f k l0).bind fun bt444 => ((impl_FlashClean.f k bt444.1 bt444.2).bind fun t448 => ((spec_FlashClean.f k bt444.1 bt444.2).bind fun t449 => (if t448 = t449 then ((spec_FlashOk.f bt444.1).bind fun t450 => (if t450 = true then (if bt444.2 < 0 then (laws_FnCleanAll.j0 k bt444.1 bt444.2 t448 true) else (laws_FnCleanAll.j0 k bt444.1 bt444.2 t448 (decide (bt444.2 ≥ 4)))) else (laws_FnCleanAll.j0 k bt444.1 bt444.2 t448 true))) else (laws_FnCleanAll.j0 k bt444.1 bt444.2 t448 true)))))) = some r := h
 clear h
 by_cases c2 : (l0.length : Int) > 1048576
 · rw [if_pos c2] at H
   have c2b0 := decide_eq_true c2
   have c2b1 : decide (1048576 < l0.length) = true := decide_eq_true (by omega)
   clear c2
   obtain rfl := Option.some.inj H
   go_enter Try.func5, Try.ntmps5
   go_wp2
   go_ret
   exact (rq (ph HB.out))
 rw [if_neg c2] at H
 have c2b0 := decide_eq_false c2
 have c2b1 : decide (1048576 < l0.length) = false := decide_eq_false (by omega)
 clear c2
 replace H := Option.bind_eq_some_iff.mp H
 obtain ⟨⟨t444, t447⟩, A30, H⟩ := H
 replace H : ((impl_FlashClean.f k t444 t447).bind fun t448 => ((spec_FlashClean.f k t444 t447).bind fun t449 => (if t448 = t449 then ((spec_FlashOk.f t444).bind fun t450 => (if t450 = true then (if t447 < 0 then (laws_FnCleanAll.j0 k t444 t447 t448 true) else (laws_FnCleanAll.j0 k t444 t447 t448 (decide (t447 ≥ 4)))) else (laws_FnCleanAll.j0 k t444 t447 t448 true))) else (laws_FnCleanAll.j0 k t444 t447 t448 true)))) = some r := H
 have A3 := am A30
 clear A30
 replace H := Option.bind_eq_some_iff.mp H
 obtain ⟨t448, A40, H⟩ := H
 replace H : ((spec_FlashClean.f k t444 t447).bind fun t449 => (if t448 = t449 then ((spec_FlashOk.f t444).bind fun t450 => (if t450 = true then (if t447 < 0 then (laws_FnCleanAll.j0 k t444 t447 t448 true) else (laws_FnCleanAll.j0 k t444 t447 t448 (decide (t447 ≥ 4)))) else (laws_FnCleanAll.j0 k t444 t447 t448 true))) else (laws_FnCleanAll.j0 k t444 t447 t448 true))) = some r := H
 have A4 := am A40
 clear A40
 have HC5 := am H
 clear H
 go_enter Try.func5, Try.ntmps5
 go_upto_region 5 with (first | (refine gl 12 Try.func12 #[.slice A0 l0.length c0] rfl ?_; (with_reducible refine (spec_DrawFlashClean.calls k _ _ l0 t444 t447 _ ?side1 ?side2 A3.out).mono ?_); (case side1 => repeat (first | exact HR0.out | (with_reducible refine Kd.C_alloc ?_ _) | (with_reducible refine Kd.C_drewN ?_ _) | (with_reducible refine Kd.C_drew ?_))); (case side2 => exact HC0.out); rintro e w6 ⟨v445, rfl, ho0, hb⟩; refine ⟨_, rfl, ?_⟩; have HO446 := am (Kd.V_lower (Kd.V_mono (ok' := fun k_ => True) ho0 (fun k_ hk_ => trivial)) (below_size (ph HB.out))); replace HB := am (below_step (ph HB.out) hb); (try clear hb); (try clear hb2); (try clear hk); (try clear hi); (try clear ho0); obtain ⟨Ao7, co7, eo7⟩ := Kd.V_slice HO446.out; subst eo7) | (refine gl 17 Try.func11 #[.slice Ao7 t444.length co7, .int .i64 t447] rfl ?_; (with_reducible refine (impl_FlashClean.calls k _ _ t444 t447 t448 _ ?side1 ?side2 A4.out).mono ?_); (case side1 => repeat (first | exact (Kd.V_reads' HO446.out).2.2 | (with_reducible refine Kd.C_alloc ?_ _) | (with_reducible refine Kd.C_drewN ?_ _) | (with_reducible refine Kd.C_drew ?_))); (case side2 => exact (Kd.V_reads' HO446.out).2.1); rintro e w8 ⟨rfl, hb⟩; refine ⟨_, rfl, ?_⟩; replace HO446 := am (Kd.V_below (by (with_reducible repeat (first | apply Kd.V_alloc | apply Kd.V_drewN | apply Kd.V_drew)); exact HO446.out) hb); replace HB := am (below_step (ph HB.out) hb); (try clear hb); (try clear hb2); (try clear hk); (try clear hi)))
 (try simp only [Act.put, List.setIfInBounds_toArray, List.set_cons_zero, List.set_cons_succ])
 go_cut [35] (fun v35 wc => ∃ (kq : Nat) (x35_4 : Bool), v35 = .bool x35_4 ∧ Aside0 (laws_FnCleanAll.j0 kq t444 t447 t448 x35_4 = some r) ∧ Aside0 (kq ≤ k) ∧ Aside0 (Kd.V k28 28 wc w.heap.size (fun _ => True) (.slice Ao7 t444.length co7) t444) ∧ Aside0 (Below w.heap.size w wc))
 case first =>
  have H := HC5.out
  clear HC5
  replace H := Option.bind_eq_some_iff.mp H
  obtain ⟨t449, A90, H⟩ := H
  replace H : (if t448 = t449 then ((spec_FlashOk.f t444).bind fun t450 => (if t450 = true then (if t447 < 0 then (laws_FnCleanAll.j0 k t444 t447 t448 true) else (laws_FnCleanAll.j0 k t444 t447 t448 (decide (t447 ≥ 4)))) else (laws_FnCleanAll.j0 k t444 t447 t448 true))) else (laws_FnCleanAll.j0 k t444 t447 t448 true)) = some r := H
  have A9 := am A90
  clear A90
  by_cases c10 : t448 = t449
  rotate_left
  · rw [if_neg c10] at H
    have c10b0 : (t448 == t449) = false := beq_eq_false_iff_ne.mpr c10
    have c10b1 : (t448 != t449) = true := bne_iff_ne.mpr c10
    (first | rw [c10b0] | (simp only [i64_w, i32_w]; rw [c10b0]) | skip)
    have H' := am H
    clear H
    go_wp2_with (first | (refine gl 21 Try.func13 #[.slice Ao7 t444.length co7, .int .i64 t447] rfl ?_; (with_reducible refine (spec_FlashClean.calls k _ _ t444 t447 t449 _ ?side1 ?side2 A9.out).mono ?_); (case side1 => repeat (first | exact (Kd.V_reads' HO446.out).2.2 | (with_reducible refine Kd.C_alloc ?_ _) | (with_reducible refine Kd.C_drewN ?_ _) | (with_reducible refine Kd.C_drew ?_))); (case side2 => exact (Kd.V_reads' HO446.out).2.1); rintro e w20 ⟨rfl, hb⟩; refine ⟨_, rfl, ?_⟩; replace HO446 := am (Kd.V_below (by (with_reducible repeat (first | apply Kd.V_alloc | apply Kd.V_drewN | apply Kd.V_drew)); exact HO446.out) hb); replace HB := am (below_step (ph HB.out) hb); (try clear hb); (try clear hb2); (try clear hk); (try clear hi)))
    go_meet
    case rel => exact ⟨_, (true), rf, H', ⟨by first | omega | exact Nat.le_refl _⟩, ⟨by (with_reducible repeat (first | apply Kd.V_alloc | apply Kd.V_drewN | apply Kd.V_drew)); exact HO446.out⟩, ⟨ph HB.out⟩⟩
  rw [if_pos c10] at H
  have c10b0 : (t448 == t449) = true := beq_iff_eq.mpr c10
  have c10b1 : (t448 != t449) = false := bne_eq_false_iff_eq.mpr c10
  clear c10
  (first | rw [c10b0] | (simp only [i64_w, i32_w]; rw [c10b0]) | skip)
  replace H := Option.bind_eq_some_iff.mp H
  obtain ⟨t450, A110, H⟩ := H
  replace H : (if t450 = true then (if t447 < 0 then (laws_FnCleanAll.j0 k t444 t447 t448 true) else (laws_FnCleanAll.j0 k t444 t447 t448 (decide (t447 ≥ 4)))) else (laws_FnCleanAll.j0 k t444 t447 t448 true)) = some r := H
  have A11 := am A110
  clear A110
  by_cases c12 : t450 = true
  rotate_left
  · replace c12 := Bool.eq_false_iff.mpr c12
    subst c12
    have H1 : (laws_FnCleanAll.j0 k t444 t447 t448 true) = some r := by rw [if_neg (show ¬ (false = true) by decide)] at H; exact H
    clear H
    have H := H1
    clear H1
    have H' := am H
    clear H
    go_wp2_with (first | (refine gl 21 Try.func13 #[.slice Ao7 t444.length co7, .int .i64 t447] rfl ?_; (with_reducible refine (spec_FlashClean.calls k _ _ t444 t447 t449 _ ?side1 ?side2 A9.out).mono ?_); (case side1 => repeat (first | exact (Kd.V_reads' HO446.out).2.2 | (with_reducible refine Kd.C_alloc ?_ _) | (with_reducible refine Kd.C_drewN ?_ _) | (with_reducible refine Kd.C_drew ?_))); (case side2 => exact (Kd.V_reads' HO446.out).2.1); rintro e w18 ⟨rfl, hb⟩; refine ⟨_, rfl, ?_⟩; replace HO446 := am (Kd.V_below (by (with_reducible repeat (first | apply Kd.V_alloc | apply Kd.V_drewN | apply Kd.V_drew)); exact HO446.out) hb); replace HB := am (below_step (ph HB.out) hb); (try clear hb); (try clear hb2); (try clear hk); (try clear hi)) | (go_at_call 10; (with_reducible refine (spec_FlashOk.calls _ _ t444 false _ ?side1 ?side2 A11.out).mono ?_); (case side1 => repeat (first | exact (Kd.V_reads' HO446.out).2.2 | (with_reducible refine Kd.C_alloc ?_ _) | (with_reducible refine Kd.C_drewN ?_ _) | (with_reducible refine Kd.C_drew ?_))); (case side2 => exact (Kd.V_reads' HO446.out).2.1); rintro e w19 ⟨rfl, hb⟩; replace HO446 := am (Kd.V_below (by (with_reducible repeat (first | apply Kd.V_alloc | apply Kd.V_drewN | apply Kd.V_drew)); exact HO446.out) hb); replace HB := am (below_step (ph HB.out) hb); (try clear hb); (try clear hb2); (try clear hk); (try clear hi)))
    go_meet
    case rel => exact ⟨_, (true), rf, H', ⟨by first | omega | exact Nat.le_refl _⟩, ⟨by (with_reducible repeat (first | apply Kd.V_alloc | apply Kd.V_drewN | apply Kd.V_drew)); exact HO446.out⟩, ⟨ph HB.out⟩⟩
  subst c12
  have H1 : (if t447 < 0 then (laws_FnCleanAll.j0 k t444 t447 t448 true) else (laws_FnCleanAll.j0 k t444 t447 t448 (decide (t447 ≥ 4)))) = some r := by rw [if_pos rfl] at H; exact H
  clear H
  have H := H1
  clear H1
  by_cases c13 : t447 < 0
  · rw [if_pos c13] at H
    have c13b0 := decide_eq_true c13
    clear c13
    have H' := am H
    clear H
    go_wp2_with (first | (refine gl 21 Try.func13 #[.slice Ao7 t444.length co7, .int .i64 t447] rfl ?_; (with_reducible refine (spec_FlashClean.calls k _ _ t444 t447 t449 _ ?side1 ?side2 A9.out).mono ?_); (case side1 => repeat (first | exact (Kd.V_reads' HO446.out).2.2 | (with_reducible refine Kd.C_alloc ?_ _) | (with_reducible refine Kd.C_drewN ?_ _) | (with_reducible refine Kd.C_drew ?_))); (case side2 => exact (Kd.V_reads' HO446.out).2.1); rintro e w14 ⟨rfl, hb⟩; refine ⟨_, rfl, ?_⟩; replace HO446 := am (Kd.V_below (by (with_reducible repeat (first | apply Kd.V_alloc | apply Kd.V_drewN | apply Kd.V_drew)); exact HO446.out) hb); replace HB := am (below_step (ph HB.out) hb); (try clear hb); (try clear hb2); (try clear hk); (try clear hi)) | (go_at_call 10; (with_reducible refine (spec_FlashOk.calls _ _ t444 true _ ?side1 ?side2 A11.out).mono ?_); (case side1 => repeat (first | exact (Kd.V_reads' HO446.out).2.2 | (with_reducible refine Kd.C_alloc ?_ _) | (with_reducible refine Kd.C_drewN ?_ _) | (with_reducible refine Kd.C_drew ?_))); (case side2 => exact (Kd.V_reads' HO446.out).2.1); rintro e w15 ⟨rfl, hb⟩; replace HO446 := am (Kd.V_below (by (with_reducible repeat (first | apply Kd.V_alloc | apply Kd.V_drewN | apply Kd.V_drew)); exact HO446.out) hb); replace HB := am (below_step (ph HB.out) hb); (try clear hb); (try clear hb2); (try clear hk); (try clear hi)))
    go_meet
    case rel => exact ⟨_, (true), rf, H', ⟨by first | omega | exact Nat.le_refl _⟩, ⟨by (with_reducible repeat (first | apply Kd.V_alloc | apply Kd.V_drewN | apply Kd.V_drew)); exact HO446.out⟩, ⟨ph HB.out⟩⟩
  rw [if_neg c13] at H
  have c13b0 := decide_eq_false c13
  clear c13
  have H' := am H
  clear H
  go_wp2_with (first | (refine gl 21 Try.func13 #[.slice Ao7 t444.length co7, .int .i64 t447] rfl ?_; (with_reducible refine (spec_FlashClean.calls k _ _ t444 t447 t449 _ ?side1 ?side2 A9.out).mono ?_); (case side1 => repeat (first | exact (Kd.V_reads' HO446.out).2.2 | (with_reducible refine Kd.C_alloc ?_ _) | (with_reducible refine Kd.C_drewN ?_ _) | (with_reducible refine Kd.C_drew ?_))); (case side2 => exact (Kd.V_reads' HO446.out).2.1); rintro e w16 ⟨rfl, hb⟩; refine ⟨_, rfl, ?_⟩; replace HO446 := am (Kd.V_below (by (with_reducible repeat (first | apply Kd.V_alloc | apply Kd.V_drewN | apply Kd.V_drew)); exact HO446.out) hb); replace HB := am (below_step (ph HB.out) hb); (try clear hb); (try clear hb2); (try clear hk); (try clear hi)) | (go_at_call 10; (with_reducible refine (spec_FlashOk.calls _ _ t444 true _ ?side1 ?side2 A11.out).mono ?_); (case side1 => repeat (first | exact (Kd.V_reads' HO446.out).2.2 | (with_reducible refine Kd.C_alloc ?_ _) | (with_reducible refine Kd.C_drewN ?_ _) | (with_reducible refine Kd.C_drew ?_))); (case side2 => exact (Kd.V_reads' HO446.out).2.1); rintro e w17 ⟨rfl, hb⟩; replace HO446 := am (Kd.V_below (by (with_reducible repeat (first | apply Kd.V_alloc | apply Kd.V_drewN | apply Kd.V_drew)); exact HO446.out) hb); replace HB := am (below_step (ph HB.out) hb); (try clear hb); (try clear hb2); (try clear hk); (try clear hi)))
  go_meet
  case rel => exact ⟨_, (decide (t447 ≥ 4)), rf, H', ⟨by first | omega | exact Nat.le_refl _⟩, ⟨by (with_reducible repeat (first | apply Kd.V_alloc | apply Kd.V_drewN | apply Kd.V_drew)); exact HO446.out⟩, ⟨ph HB.out⟩⟩
 case rest =>
  clear HC5
  obtain ⟨kq, x35_4, rfl, HA, HJ4, HO_3, HB⟩ := hcut
  cases kq with
  | zero => exact absurd HA.out (by simp [laws_FnCleanAll.j0])
  | succ kj4 =>
   have H := HA.out
   clear HA
   simp only [laws_FnCleanAll.j0] at H
   by_cases c21 : x35_4 = true
   · subst c21
     have H1 : ((spec_FlashClean.f kj4 t444 t447).bind fun t451 => (some (t448 == t451))) = some r := by rw [if_pos rfl] at H; exact H
     clear H
     have H := H1
     clear H1
     replace H := Option.bind_eq_some_iff.mp H
     obtain ⟨t451, A220, H⟩ := H
     replace H : (some (t448 == t451)) = some r := H
     have A22 := am A220
     clear A220
     obtain rfl := Option.some.inj H
     go_wp2_with (first | (refine gl 39 Try.func13 #[.slice Ao7 t444.length co7, .int .i64 t447] rfl ?_; (with_reducible refine (spec_FlashClean.calls kj4 _ _ t444 t447 t451 _ ?side1 ?side2 A22.out).mono ?_); (case side1 => repeat (first | exact (Kd.V_reads' HO_3.out).2.2 | (with_reducible refine Kd.C_alloc ?_ _) | (with_reducible refine Kd.C_drewN ?_ _) | (with_reducible refine Kd.C_drew ?_))); (case side2 => exact (Kd.V_reads' HO_3.out).2.1); rintro e w23 ⟨rfl, hb⟩; refine ⟨_, rfl, ?_⟩; replace HO_3 := am (Kd.V_below (by (with_reducible repeat (first | apply Kd.V_alloc | apply Kd.V_drewN | apply Kd.V_drew)); exact HO_3.out) hb); replace HB := am (below_step (ph HB.out) hb); (try clear hb); (try clear hb2); (try clear hk); (try clear hi)))
     go_ret
     exact (rq (ph HB.out))
   replace c21 := Bool.eq_false_iff.mpr c21
   subst c21
   have H1 : (laws_FnCleanAll.l0 kj4 t444 t447 t448 0) = some r := by rw [if_neg (show ¬ (false = true) by decide)] at H; exact H
   clear H
   have H := H1
   clear H1
   have H' := am H
   clear H
   go_wp2
   go_loopg [6] kj4 (fun kq v6 w' => ∃ (x6_2 : Int), v6 = .int .i64 x6_2 ∧ Aside0 (laws_FnCleanAll.l0 kq t444 t447 t448 x6_2 = some r) ∧ Aside0 (kq ≤ kj4) ∧ Aside0 (Kd.V k28 28 w' w.heap.size (fun _ => True) (.slice Ao7 t444.length co7) t444) ∧ Aside0 (Below w.heap.size w w'))
   case atStart => exact ⟨(0), rf, H', ⟨Nat.le_refl _⟩, ⟨by (with_reducible repeat (first | apply Kd.V_alloc | apply Kd.V_drewN | apply Kd.V_drew)); exact HO_3.out⟩, ⟨ph HB.out⟩⟩
   case round =>
    clear H'
    obtain ⟨x6_2, rfl, HA, HK2, HO_3, HB⟩ := hrel
    cases gk with
    | zero => exact absurd HA.out (by simp [laws_FnCleanAll.l0])
    | succ k2 =>
     have H := HA.out
     clear HA
     simp only [laws_FnCleanAll.l0] at H
     by_cases c24 : x6_2 < 4
     rotate_left
     · rw [if_neg c24] at H
       have c24b0 := decide_eq_false c24
       clear c24
       replace H := Option.bind_eq_some_iff.mp H
       obtain ⟨t454, A300, H⟩ := H
       replace H : (if t454 = (-1) then ((impl_FlashClean.f k2 t444 4).bind fun t455 => (some (t455 == (-1)))) else (some false)) = some r := H
       have A30 := am A300
       clear A300
       by_cases c31 : t454 = (-1)
       rotate_left
       · rw [if_neg c31] at H
         have c31b0 : (t454 == (-1)) = false := beq_eq_false_iff_ne.mpr c31
         have c31b1 : (t454 != (-1)) = true := bne_iff_ne.mpr c31
         obtain rfl := Option.some.inj H
         go_wp2_with (first | (refine gl 61 Try.func11 #[.slice Ao7 t444.length co7, .int .i64 (-1)] rfl ?_; (with_reducible refine (impl_FlashClean.calls k2 _ _ t444 (-1) t454 _ ?side1 ?side2 A30.out).mono ?_); (case side1 => repeat (first | exact (Kd.V_reads' HO_3.out).2.2 | (with_reducible refine Kd.C_alloc ?_ _) | (with_reducible refine Kd.C_drewN ?_ _) | (with_reducible refine Kd.C_drew ?_))); (case side2 => exact (Kd.V_reads' HO_3.out).2.1); rintro e w35 ⟨rfl, hb⟩; refine ⟨_, rfl, ?_⟩; replace HO_3 := am (Kd.V_below (by (with_reducible repeat (first | apply Kd.V_alloc | apply Kd.V_drewN | apply Kd.V_drew)); exact HO_3.out) hb); replace HB := am (below_step (ph HB.out) hb); (try clear hb); (try clear hb2); (try clear hk); (try clear hi)))
         go_ret
         exact (rq (ph HB.out))
       rw [if_pos c31] at H
       have c31b0 : (t454 == (-1)) = true := beq_iff_eq.mpr c31
       have c31b1 : (t454 != (-1)) = false := bne_eq_false_iff_eq.mpr c31
       clear c31
       replace H := Option.bind_eq_some_iff.mp H
       obtain ⟨t455, A320, H⟩ := H
       replace H : (some (t455 == (-1))) = some r := H
       have A32 := am A320
       clear A320
       obtain rfl := Option.some.inj H
       go_wp2_with (first | (refine gl 61 Try.func11 #[.slice Ao7 t444.length co7, .int .i64 (-1)] rfl ?_; (with_reducible refine (impl_FlashClean.calls k2 _ _ t444 (-1) t454 _ ?side1 ?side2 A30.out).mono ?_); (case side1 => repeat (first | exact (Kd.V_reads' HO_3.out).2.2 | (with_reducible refine Kd.C_alloc ?_ _) | (with_reducible refine Kd.C_drewN ?_ _) | (with_reducible refine Kd.C_drew ?_))); (case side2 => exact (Kd.V_reads' HO_3.out).2.1); rintro e w33 ⟨rfl, hb⟩; refine ⟨_, rfl, ?_⟩; replace HO_3 := am (Kd.V_below (by (with_reducible repeat (first | apply Kd.V_alloc | apply Kd.V_drewN | apply Kd.V_drew)); exact HO_3.out) hb); replace HB := am (below_step (ph HB.out) hb); (try clear hb); (try clear hb2); (try clear hk); (try clear hi)) | (go_at_call 11; (with_reducible refine (impl_FlashClean.calls k2 _ _ t444 4 t455 _ ?side1 ?side2 A32.out).mono ?_); (case side1 => repeat (first | exact (Kd.V_reads' HO_3.out).2.2 | (with_reducible refine Kd.C_alloc ?_ _) | (with_reducible refine Kd.C_drewN ?_ _) | (with_reducible refine Kd.C_drew ?_))); (case side2 => exact (Kd.V_reads' HO_3.out).2.1); rintro e w34 ⟨rfl, hb⟩; replace HO_3 := am (Kd.V_below (by (with_reducible repeat (first | apply Kd.V_alloc | apply Kd.V_drewN | apply Kd.V_drew)); exact HO_3.out) hb); replace HB := am (below_step (ph HB.out) hb); (try clear hb); (try clear hb2); (try clear hk); (try clear hi)))
       go_ret
       exact (rq (ph HB.out))
     rw [if_pos c24] at H
     have c24b0 := decide_eq_true c24
     clear c24
     by_cases c25 : 0 ≤ t447
     rotate_left
     · rw [if_neg c25] at H
       exact absurd H (by simp)
     rw [if_pos c25] at H
     have c25b0 := decide_eq_true c25
     clear c25
     by_cases c26 : t447 < (t444.length : Int)
     rotate_left
     · rw [if_neg c26] at H
       exact absurd H (by simp)
     rw [if_pos c26] at H
     have c26b0 := decide_eq_true c26
     clear c26
     by_cases c27 : 0 ≤ x6_2
     rotate_left
     · rw [if_neg c27] at H
       exact absurd H (by simp)
     rw [if_pos c27] at H
     have c27b0 := decide_eq_true c27
     clear c27
     by_cases c28 : x6_2 < (((rd_T28 t444 t447).f0).length : Int)
     rotate_left
     · rw [if_neg c28] at H
       exact absurd H (by simp)
     rw [if_pos c28] at H
     have c28b0 := decide_eq_true c28
     clear c28
     by_cases c29 : ((((rd_T32 ((rd_T28 t444 t447).f0) x6_2).f0) == 0) != (decide (x6_2 ≥ (wrap64 (4 - t448))))) = true
     · rw [if_pos c29] at H
       have c29b0 : ((((rd_T32 ((rd_T28 t444 t447).f0) x6_2).f0) == 0) != (decide (x6_2 ≥ (wrap64 (4 - t448))))) = true := c29
       (try (have c29b1 : decide ((((rd_T32 ((rd_T28 t444 t447).f0) x6_2).f0) == 0) = (decide (x6_2 ≥ (wrap64 (4 - t448))))) = false := by simpa using c29))
       (try (have c29b2 : ((((rd_T32 ((rd_T28 t444 t447).f0) x6_2).f0) == 0) == (decide (x6_2 ≥ (wrap64 (4 - t448))))) = false := by simpa using c29))
       (try (have c29b3 : ¬ ((((rd_T32 ((rd_T28 t444 t447).f0) x6_2).f0) == 0) = (decide (x6_2 ≥ (wrap64 (4 - t448))))) := by simpa using c29))
       clear c29
       obtain rfl := Option.some.inj H
       have p452 : 0 ≤ (t447 : Int) := ofb
       have q452 : t447 < (t444.length : Int) := ofb
       obtain ⟨ad452, A452_0, c452_0, e452, hx452_0, hx452_1, hl452_0, hi452_0⟩ := at_T28 (Kd.V_reads' HO_3.out).2.2 t447 p452 q452
       cases e452
       obtain ⟨ce452, hce452, hMe452, hcc452⟩ := Kd.V_get HO_3.out z28 t447 p452 (by first | exact q452 | exact ofb | (have e_ := (Kd.V_reads' HO_3.out).1; omega))
       obtain ⟨ua452_0, uc452_0, rfl, ul452_0, ge452_0⟩ := k28_openF hMe452
       have hv452_0 := hcc452 0 _ rfl
       rw [Nat.add_zero] at hv452_0
       replace hv452_0 := Option.some.inj (hv452_0.symm.trans hx452_0)
       injection hv452_0 with hva_ hvn_ hvc_
       rw [hva_] at ge452_0
       rw [hvc_] at ul452_0
       have HL452_0 := am (show Kd.V k32 32 _ w.heap.size _ _ ((rd_T28 t444 t447).f0) from Kd.V_mk ul452_0 ge452_0)
       clear hva_ hvn_ hvc_ ge452_0 ul452_0
       clear hcc452 hce452
       have HR452_0 := am hi452_0
       have HC452_0 := am hl452_0
       clear hi452_0 hl452_0
       replace p452 := eq_true p452
       replace q452 := eq_true q452
       have p453 : 0 ≤ (x6_2 : Int) := ofb
       have q453 : x6_2 < (((rd_T28 t444 t447).f0).length : Int) := ofb
       obtain ⟨ad453, e453, hx453_0, hx453_1, hx453_2, hx453_3, hx453_4⟩ := at_T32 (by repeat (first | (with_reducible exact HR452_0.out) | (with_reducible refine Kd.C_alloc ?_ _) | (with_reducible refine Kd.C_drewN ?_ _) | (with_reducible refine Kd.C_drew ?_) | exact HR452_0.out)) x6_2 p453 q453
       cases e453
       replace p453 := eq_true p453
       replace q453 := eq_true q453
       go_wp2
       go_ret
       exact (rq (ph HB.out))
     rw [if_neg c29] at H
     have c29b0 : ((((rd_T32 ((rd_T28 t444 t447).f0) x6_2).f0) == 0) != (decide (x6_2 ≥ (wrap64 (4 - t448))))) = false := by simpa using c29
     (try (have c29b1 : decide ((((rd_T32 ((rd_T28 t444 t447).f0) x6_2).f0) == 0) = (decide (x6_2 ≥ (wrap64 (4 - t448))))) = true := by simpa using c29))
     (try (have c29b2 : ((((rd_T32 ((rd_T28 t444 t447).f0) x6_2).f0) == 0) == (decide (x6_2 ≥ (wrap64 (4 - t448))))) = true := by simpa using c29))
     clear c29
     have H' := am H
     clear H
     have p452 : 0 ≤ (t447 : Int) := ofb
     have q452 : t447 < (t444.length : Int) := ofb
     obtain ⟨ad452, A452_0, c452_0, e452, hx452_0, hx452_1, hl452_0, hi452_0⟩ := at_T28 (Kd.V_reads' HO_3.out).2.2 t447 p452 q452
     cases e452
     obtain ⟨ce452, hce452, hMe452, hcc452⟩ := Kd.V_get HO_3.out z28 t447 p452 (by first | exact q452 | exact ofb | (have e_ := (Kd.V_reads' HO_3.out).1; omega))
     obtain ⟨ua452_0, uc452_0, rfl, ul452_0, ge452_0⟩ := k28_openF hMe452
     have hv452_0 := hcc452 0 _ rfl
     rw [Nat.add_zero] at hv452_0
     replace hv452_0 := Option.some.inj (hv452_0.symm.trans hx452_0)
     injection hv452_0 with hva_ hvn_ hvc_
     rw [hva_] at ge452_0
     rw [hvc_] at ul452_0
     have HL452_0 := am (show Kd.V k32 32 _ w.heap.size _ _ ((rd_T28 t444 t447).f0) from Kd.V_mk ul452_0 ge452_0)
     clear hva_ hvn_ hvc_ ge452_0 ul452_0
     clear hcc452 hce452
     have HR452_0 := am hi452_0
     have HC452_0 := am hl452_0
     clear hi452_0 hl452_0
     replace p452 := eq_true p452
     replace q452 := eq_true q452
     have p453 : 0 ≤ (x6_2 : Int) := ofb
     have q453 : x6_2 < (((rd_T28 t444 t447).f0).length : Int) := ofb
     obtain ⟨ad453, e453, hx453_0, hx453_1, hx453_2, hx453_3, hx453_4⟩ := at_T32 (by repeat (first | (with_reducible exact HR452_0.out) | (with_reducible refine Kd.C_alloc ?_ _) | (with_reducible refine Kd.C_drewN ?_ _) | (with_reducible refine Kd.C_drew ?_) | exact HR452_0.out)) x6_2 p453 q453
     cases e453
     replace p453 := eq_true p453
     replace q453 := eq_true q453
     go_wp2
     go_roundg k2
     case measure => have := HJ4.out; have := HK2.out; omega
     case rel => exact ⟨(wrap64 (x6_2 + 1)), rf, H', ⟨by have := HJ4.out; have := HK2.out; omega⟩, ⟨by (with_reducible repeat (first | apply Kd.V_alloc | apply Kd.V_drewN | apply Kd.V_drew)); exact HO_3.out⟩, ⟨ph HB.out⟩⟩
def laws_FnCleanAll.Pure : Prop := ∀ (l0 : List Int), l0.length ≤ maxLen → l0.length * 1 ≤ 140737488351232 → (∀ x ∈ l0, (Lit.int .u8 x).wf = true) → ∃ k, laws_FnCleanAll.f k l0 = some true
theorem laws_FnCleanAll.walk (P : laws_FnCleanAll.Pure) (a0 : Option Addr) (len0 cap0 : Nat) (z0 : List Int) (w : World) (w0 : (a0 = none ∧ len0 = 0 ∧ cap0 = 0 ∧ z0 = []) ∨ ∃ x, a0 = some x ∧ len0 ≤ cap0 ∧ cap0 ≤ maxLen ∧ z0.length = cap0 ∧ (∀ i, i < z0.length → w.cell? (x.add i) = some (.int .u8 (z0.getD i 0))) ∧ ∀ n ∈ z0, (Lit.int .u8 n).wf = true) (y0 : len0 * 1 ≤ 140737488351232) :
 Calls Try.prog 5 #[.slice a0 len0 cap0] w fun e w' => e = .returned (.bool true) ∧ Below w.heap.size w w' := by
 obtain ⟨l0, rfl, hr0, hm0, hw0, hc0⟩ := ReadsInt.ofRowC w0
 obtain ⟨k, h⟩ := P l0 hm0 y0 hw0
 refine (laws_FnCleanAll.calls k _ _ l0 true w (Kd.C_of_reads (d := (0 : Int)) (h1 := fun _ => rfl) hr0) hc0 h).mono ?_
 rintro e w' ⟨rfl, hd⟩
 exact ⟨rfl, hd⟩
end Go.Proofs.Yteijhllkpahbhaa.Rk
