-- printed by wip/pp/pp.py
import Derived.Test.YtcfpddgfhkaboaaRz0
import Derived.Test.YtcfpddgfhkaboaaRz7
import Derived.Deep.RegionHeld3
import Derived.RegionTactic
namespace Go.Proofs.Ytcfpddgfhkaboaa.Rz
open Go.RowKit Go.Proofs.YtcfpddgfhkaboaaW.PrintWords Go.Proofs.YtcfpddgfhkaboaaW.PrintLast Go.Proofs.YtcfpddgfhkaboaaW.PrintMore
attribute [local go_sem] max2_int min2_int max_two min_two max_three min_three max_four min_four
set_option linter.unusedVariables false
set_option linter.unusedSimpArgs false
theorem ite_some {α : Type} {c : Prop} [Decidable c] {x y : α} (h : (if c then some x else none) = some y) : c ∧ some x = some y := by
 by_cases hc : c
 rotate_left
 · rw [if_neg hc] at h
   cases h
 rw [if_pos hc] at h
 exact ⟨hc, h⟩
set_option maxHeartbeats 4000000 in
set_option maxRecDepth 100000 in
theorem spec_l71Flash.c4 (k g : Nat) (s0_0 : List Int) (s0_1 : Int) (ev : List S74) (fl : List S60) (dk : List Int) (p1 q p2 : Int) (w0 w : World) (hI : IsS62 w0 w g s0_0 s0_1) (hB : Below w0.heap.size w0 w)
 (h1 : spec_l71Play.f k s0_0 s0_1 = some (ev, fl, dk, p1)) (h2 : spec_l6Rd_pick.f k s0_0 p1 20 = some (q, p2)) (n0 : q ≠ 0) (n1 : q ≠ 1) (n2 : q ≠ 2) (n3 : q ≠ 3) :
 Calls Try.prog 24 #[.pointer (some ⟨g, 0, none⟩)] w fun e w' => ∃ v0_ : Value, e = .returned v0_ ∧ Kd.V k60 60 w' w.heap.size (fun k_ => w.heap.size ≤ k_) v0_ fl ∧ IsS62 w0 w' g s0_0 p2 ∧ Below w0.heap.size w0 w' ∧ KeepBut w w' g none := by
 have hu28 := Try.underlying60
 have hu32 := Try.underlying52
 have hu26 := Try.underlying58
 have hu70 := Try.underlying26
 have hgl := IsS62.lt hI
 have HL0 := am hB.size
 go_enter Try.func24, Try.ntmps24
 go_wp2_with fail
 refine (spec_l71Play.calls k g s0_0 s0_1 ev fl dk p1 w0 _ hI hB h1).mono ?_
 rintro e w1 ⟨v0, v1, v2, rfl, -, hS, hD, hI1, hB1, hK1⟩
 obtain ⟨A1, c1, rfl⟩ := Kd.S_slice hS
 obtain ⟨A2, c2, rfl⟩ := Kd.R_slice hD
 have HS := am (Kd.S_mono (Kd.S_bound hS) (fun k_ hk => (⟨hk.2.1, hk.2.2.1⟩ : w.heap.size ≤ k_ ∧ k_ < w1.heap.size)))
 have HI := am (hI1.alloc (.cells #[.slice A1 fl.length c1, .slice A2 dk.length c2] 26))
 have HB := am (below_alloc hB1 (.cells #[.slice A1 fl.length c1, .slice A2 dk.length c2] 26))
 have HK := am (keep_alloc hK1 (.cells #[.slice A1 fl.length c1, .slice A2 dk.length c2] 26))
 clear hS hD hI hB hI1 hB1 hK1
 go_wp2_with fail
 replace HS := am (Kd.S_alloc HS.out (.cells #[.slice A1 fl.length c1, .slice A2 dk.length c2] 26))
 refine (spec_l6Rd_pick.calls k g s0_0 p1 20 q p2 w0 _ HI.out HB.out h2).mono ?_
 rintro e w2 ⟨rfl, hI2, hB2, hK2⟩
 replace HS := am (Kd.S_keep HS.out hK2 (fun k_ hk => by have := hk.1; omega))
 replace HI := am hI2
 replace HB := am hB2
 replace HK := am (KeepBut.trans HK.out hK2 (.inl rfl))
 clear hI2 hB2 hK2
 have e0 : (q == 0) = false := beq_eq_false_iff_ne.mpr n0
 have e1 : (q == 1) = false := beq_eq_false_iff_ne.mpr n1
 have e2 : (q == 2) = false := beq_eq_false_iff_ne.mpr n2
 have e3 : (q == 3) = false := beq_eq_false_iff_ne.mpr n3
 go_wp2
 go_ret
 exact ⟨_, rfl, Kd.S_V (Kd.S_mono HS.out (fun _ hk => hk.1)), HI.out, HB.out, HK.out⟩
theorem blk_kb {w w' : World} {g a : Nat} {o : Obj} (h : w.heap[a]? = some o) (hk : KeepBut w w' g none) (hne : a ≠ g) : w'.heap[a]? = some o := (hk.2 a (Array.getElem?_eq_some_iff.1 h).1 hne (by simp)).trans h
theorem V_cutF {W : World} {base : Nat} {ok : Nat → Prop} {A : Option Addr} {c : Nat} {fl : List S60} (h : Kd.V k60 60 W base ok (.slice A fl.length c) fl) (hl : 1 ≤ fl.length) : Kd.V k60 60 W base ok (.slice (if c = 1 then A else A.map (fun x => ⟨x.block, x.off + 2, none⟩)) (fl.length - 1) (c - 1)) fl.tail := by
 have hF := Kd.F_cut (Kd.V_F h) hl (Kd.V_at h).2.1
 have e : (A.map (·.add (1 * (k60).sz))) = A.map (fun x => ⟨x.block, x.off + 2, none⟩) := by cases A <;> rfl
 rw [e, List.drop_one] at hF
 have h2 := Kd.V_mk (e := 60) (base := base) (c := c - 1) (by have := (Kd.V_at h).2.1; rw [List.length_tail]; omega) hF
 rw [List.length_tail] at h2
 exact h2
theorem N_worn {W : World} {base g n cap : Nat} {ok : Nat → Prop} {xs : List S60} (h : Kd.N k60 60 W base ok (.slice (some ⟨g, 0, none⟩) n cap) xs) (i : Int) (h0 : 0 ≤ i) (h1 : i < n) (x : Int) : Kd.N k60 60 (W.setCell ⟨g, i.toNat * 2 + 1, none⟩ (.int .i64 x)) base ok (.slice (some ⟨g, 0, none⟩) n cap) (xs.set i.toNat ⟨(rd_T60 xs i).f0, x⟩) := by
 obtain ⟨c, hcl, hF, hcc, hfr⟩ := Kd.N_elem h z60 i h0 h1
 obtain ⟨A0, c0, rfl, hl, hf⟩ := k60_openF hF
 exact (Kd.N_seg h i h0 h1 (seg := [.int .i64 x]) (j := 1) hcl hcc (show 1 + 1 ≤ 2 from Nat.le_refl _) (x' := (⟨(rd_T60 xs i).f0, x⟩ : S60)) (k60_mkF _ _ ⟨(rd_T60 xs i).f0, x⟩ hl hf) (fun k hk => hk)).1
theorem N_cutP {W : World} {base g n cap : Nat} {ok : Nat → Prop} {xs : List S60} (h : Kd.N k60 60 W base ok (.slice (some ⟨g, 0, none⟩) n cap) xs) (i : Int) (h0 : 0 ≤ i) (h1 : i < n) {A0 : Option Addr} {c0 : Nat} (hc : W.cell? ⟨g, i.toNat * 2, none⟩ = some (.slice A0 (rd_T60 xs i).f0.length c0)) (hl : 1 ≤ (rd_T60 xs i).f0.length) :
 Kd.N k60 60 (W.setCell ⟨g, i.toNat * 2, none⟩ (.slice (if c0 = 1 then A0 else A0.map (fun x => ⟨x.block, x.off + 5, none⟩)) ((rd_T60 xs i).f0.length - 1) (c0 - 1))) base ok (.slice (some ⟨g, 0, none⟩) n cap) (xs.set i.toNat ⟨(rd_T60 xs i).f0.tail, (rd_T60 xs i).f1⟩) := by
 obtain ⟨c, hcl, hF, hcc, hfr⟩ := Kd.N_elem h z60 i h0 h1
 obtain ⟨A1, c1, rfl, hl1, hf⟩ := k60_openF hF
 have e0 := hcc 0 _ rfl
 rw [show (k60).sz = 2 from rfl, Nat.add_zero, hc] at e0
 have e1 := Value.slice.inj (Option.some.inj e0)
 obtain ⟨rfl, -, rfl⟩ := e1
 have hF := Kd.F_cut hf hl hl1
 have e : (A0.map (·.add (1 * (k52).sz))) = A0.map (fun x => ⟨x.block, x.off + 5, none⟩) := by cases A0 <;> rfl
 rw [e, List.drop_one] at hF
 have hm := k60_mkF W _ (⟨(rd_T60 xs i).f0.tail, (rd_T60 xs i).f1⟩ : S60) (c0 := c0 - 1) (by show (rd_T60 xs i).f0.tail.length ≤ _; rw [List.length_tail]; exact Nat.sub_le_sub_right hl1 1) hF
 have e2 : (⟨(rd_T60 xs i).f0.tail, (rd_T60 xs i).f1⟩ : S60).f0.length = (rd_T60 xs i).f0.length - 1 := List.length_tail
 rw [e2] at hm
 exact (Kd.N_seg h i h0 h1 (seg := [.slice (if c0 = 1 then A0 else A0.map (fun x => ⟨x.block, x.off + 5, none⟩)) ((rd_T60 xs i).f0.length - 1) (c0 - 1)]) (j := 0) hcl hcc (show 0 + 1 ≤ 2 by decide) (x' := (⟨(rd_T60 xs i).f0.tail, (rd_T60 xs i).f1⟩ : S60)) hm (fun k hk => hk)).1
set_option maxHeartbeats 4000000 in
set_option maxRecDepth 100000 in
theorem spec_l71Flash.c2 (k g : Nat) (s0_0 : List Int) (s0_1 : Int) (ev : List S74) (fl : List S60) (dk : List Int) (p1 q p2 : Int) (w0 w : World) (hI : IsS62 w0 w g s0_0 s0_1) (hB : Below w0.heap.size w0 w)
 (h1 : spec_l71Play.f k s0_0 s0_1 = some (ev, fl, dk, p1)) (h2 : spec_l6Rd_pick.f k s0_0 p1 20 = some (q, p2)) (n0 : q = 2) (hl : 1 ≤ fl.length) :
 Calls Try.prog 24 #[.pointer (some ⟨g, 0, none⟩)] w fun e w' => ∃ v0_ : Value, e = .returned v0_ ∧ Kd.V k60 60 w' w.heap.size (fun k_ => w.heap.size ≤ k_) v0_ fl.tail ∧ IsS62 w0 w' g s0_0 p2 ∧ Below w0.heap.size w0 w' ∧ KeepBut w w' g none := by
 have hu28 := Try.underlying60
 have hu32 := Try.underlying52
 have hu26 := Try.underlying58
 have hu70 := Try.underlying26
 have hgl := IsS62.lt hI
 have HL0 := am hB.size
 go_enter Try.func24, Try.ntmps24
 go_wp2_with fail
 refine (spec_l71Play.calls k g s0_0 s0_1 ev fl dk p1 w0 _ hI hB h1).mono ?_
 rintro e w1 ⟨v0, v1, v2, rfl, -, hS, hD, hI1, hB1, hK1⟩
 obtain ⟨A1, c1, rfl⟩ := Kd.S_slice hS
 obtain ⟨A2, c2, rfl⟩ := Kd.R_slice hD
 have HS := am (Kd.S_mono (Kd.S_bound hS) (fun k_ hk => (⟨hk.2.1, hk.2.2.1⟩ : w.heap.size ≤ k_ ∧ k_ < w1.heap.size)))
 have HI := am (hI1.alloc (.cells #[.slice A1 fl.length c1, .slice A2 dk.length c2] 26))
 have HB := am (below_alloc hB1 (.cells #[.slice A1 fl.length c1, .slice A2 dk.length c2] 26))
 have HK := am (keep_alloc hK1 (.cells #[.slice A1 fl.length c1, .slice A2 dk.length c2] 26))
 clear hS hD hI hB hI1 hB1 hK1
 go_wp2_with fail
 replace HS := am (Kd.S_alloc HS.out (.cells #[.slice A1 fl.length c1, .slice A2 dk.length c2] 26))
 refine (spec_l6Rd_pick.calls k g s0_0 p1 20 q p2 w0 _ HI.out HB.out h2).mono ?_
 rintro e w2 ⟨rfl, hI2, hB2, hK2⟩
 replace HS := am (Kd.S_keep HS.out hK2 (fun k_ hk => by have := hk.1; omega))
 replace HI := am hI2
 replace HB := am hB2
 replace HK := am (KeepBut.trans HK.out hK2 (.inl rfl))
 clear hI2 hB2 hK2
 subst n0
 have hV := V_cutF (Kd.S_V (e := 60) (base' := w.heap.size) (Kd.S_mono HS.out (fun _ hk => hk.1))) hl
 have HV := am hV
 clear hV
 go_wp2
 all_goals go_ret
 · have hV := HV.out
   subst h
   rw [if_pos rfl] at hV
   exact ⟨_, rfl, hV, HI.out, HB.out, HK.out⟩
 · have hV := HV.out
   rw [if_neg h] at hV
   exact ⟨_, rfl, hV, HI.out, HB.out, HK.out⟩
set_option maxHeartbeats 4000000 in
set_option maxRecDepth 100000 in
theorem spec_l71Flash.c1 (k g : Nat) (s0_0 : List Int) (s0_1 : Int) (ev : List S74) (fl : List S60) (dk : List Int) (p1 q p2 : Int) (i p3 v p4 : Int) (w0 w : World) (hI : IsS62 w0 w g s0_0 s0_1) (hB : Below w0.heap.size w0 w)
 (h1 : spec_l71Play.f k s0_0 s0_1 = some (ev, fl, dk, p1)) (h2 : spec_l6Rd_pick.f k s0_0 p1 20 = some (q, p2)) (n0 : q = 1) (h3 : spec_l6Rd_pick.f k s0_0 p2 (fl.length : Int) = some (i, p3)) (hi0 : 0 ≤ i) (hi1 : i < (fl.length : Int)) (h4 : spec_l6Rd_pick.f k s0_0 p3 3 = some (v, p4)) (hv0 : 0 ≤ v) (hv1 : v < 3) :
 Calls Try.prog 24 #[.pointer (some ⟨g, 0, none⟩)] w fun e w' => ∃ v0_ : Value, e = .returned v0_ ∧ Kd.V k60 60 w' w.heap.size (fun k_ => w.heap.size ≤ k_) v0_ (fl.set i.toNat (⟨(rd_T60 fl i).f0, rd [-1, 200, 201] v⟩ : S60)) ∧ IsS62 w0 w' g s0_0 p4 ∧ Below w0.heap.size w0 w' ∧ KeepBut w w' g none := by
 have hu28 := Try.underlying60
 have hu32 := Try.underlying52
 have hu26 := Try.underlying58
 have hu70 := Try.underlying26
 have hgl := IsS62.lt hI
 have HL0 := am hB.size
 go_enter Try.func24, Try.ntmps24
 go_wp2_with fail
 refine (spec_l71Play.calls k g s0_0 s0_1 ev fl dk p1 w0 _ hI hB h1).mono ?_
 rintro e w1 ⟨v0, v1, v2, rfl, -, hS, hD, hI1, hB1, hK1⟩
 obtain ⟨A1, c1, rfl⟩ := Kd.S_slice hS
 obtain ⟨A2, c2, rfl⟩ := Kd.R_slice hD
 have HS := am (Kd.S_mono (Kd.S_bound hS) (fun k_ hk => (⟨hk.2.1, hk.2.2.1⟩ : w.heap.size ≤ k_ ∧ k_ < w1.heap.size)))
 have HI := am (hI1.alloc (.cells #[.slice A1 fl.length c1, .slice A2 dk.length c2] 26))
 have HB := am (below_alloc hB1 (.cells #[.slice A1 fl.length c1, .slice A2 dk.length c2] 26))
 have HK := am (keep_alloc hK1 (.cells #[.slice A1 fl.length c1, .slice A2 dk.length c2] 26))
 clear hS hD hI hB hI1 hB1 hK1
 go_wp2_with fail
 replace HS := am (Kd.S_alloc HS.out (.cells #[.slice A1 fl.length c1, .slice A2 dk.length c2] 26))
 refine (spec_l6Rd_pick.calls k g s0_0 p1 20 q p2 w0 _ HI.out HB.out h2).mono ?_
 rintro e w2 ⟨rfl, hI2, hB2, hK2⟩
 replace HS := am (Kd.S_keep HS.out hK2 (fun k_ hk => by have := hk.1; omega))
 replace HI := am hI2
 replace HB := am hB2
 replace HK := am (KeepBut.trans HK.out hK2 (.inl rfl))
 clear hI2 hB2 hK2
 subst n0
 obtain ⟨gf, cf, hA1, hgb, hgl1, cellsf, hcf⟩ := Kd.S_form HS.out (by omega)
 have ea := (Value.slice.inj hA1).1
 have ec := (Value.slice.inj hA1).2.2
 subst ea
 subst ec
 clear hA1 hcf hgl1
 go_wp2_with fail
 refine (spec_l6Rd_pick.calls k g s0_0 p2 (fl.length : Int) i p3 w0 _ HI.out HB.out h3).mono ?_
 rintro e w3 ⟨rfl, hI2, hB2, hK2⟩
 replace HS := am (Kd.S_keep HS.out hK2 (fun k_ hk => by have := hk.1; omega))
 replace HI := am hI2
 replace HB := am hB2
 replace HK := am (KeepBut.trans HK.out hK2 (.inl rfl))
 clear hI2 hB2 hK2
 go_wp2_with fail
 refine (spec_l6Rd_pick.calls k g s0_0 p3 3 v p4 w0 _ (IsS62.alloc HI.out _) (below_alloc HB.out _) h4).mono ?_
 rintro e w4 ⟨rfl, hI2, hB2, hK2⟩
 have hlt3 := IsS62.lt HI.out
 have hbx := blk_kb (blk_new w3 _) hK2 (show w3.heap.size ≠ g by omega)
 replace HS := am (Kd.S_keep (Kd.S_alloc HS.out _) hK2 (fun k_ hk => by have := hk.1; omega))
 replace HI := am hI2
 replace HB := am hB2
 replace HK := am (KeepBut.trans (keep_alloc HK.out _) hK2 (.inl rfl))
 clear hI2 hB2 hK2 hlt3
 obtain ⟨oki, c, hcl, hM, hcc, hfr, hoki, hH⟩ := Kd.S_elem HS.out z60 i hi0 hi1
 have hfz := hfr 1
 obtain ⟨vq, rfl, -⟩ := k60_openM hM
 have hcl1 := hcc 1 _ rfl
 rw [show (k60).sz = 2 from rfl] at hfz hcl1
 generalize (List.getD fl i.toNat z60).f1 = wo at hcl1
 clear hcl hM hcc hfr hoki hH
 have q0 : w4.cell? ⟨w3.heap.size, 0, none⟩ = some (.int .i64 (-1)) := (blk_cell hbx 0).trans rfl
 have q1 : w4.cell? ⟨w3.heap.size, 1, none⟩ = some (.int .i64 200) := (blk_cell hbx 1).trans rfl
 have q2 : w4.cell? ⟨w3.heap.size, 2, none⟩ = some (.int .i64 201) := (blk_cell hbx 2).trans rfl
 clear hbx
 have hib := decide_eq_true hi1
 have hiq : (i < (fl.length : Int)) = True := eq_true hi1
 have hv : v = 0 ∨ v = 1 ∨ v = 2 := by omega
 clear hv0 hv1
 have hN := fun x => N_worn (Kd.S_N HS.out) i hi0 hi1 x
 have HN := am hN
 have HF : ∀ x : Int, Aside0 (IsS62 w0 (w4.setCell ⟨gf, i.toNat * 2 + 1, none⟩ (.int .i64 x)) g s0_0 p4 ∧ Below w0.heap.size w0 (w4.setCell ⟨gf, i.toNat * 2 + 1, none⟩ (.int .i64 x)) ∧ KeepBut w (w4.setCell ⟨gf, i.toNat * 2 + 1, none⟩ (.int .i64 x)) g none) := fun x => ⟨IsS62.far HI.out (show g ≠ gf by omega) _, HB.out.setCell (p := ⟨gf, i.toNat * 2 + 1, none⟩) (Nat.le_trans HL0.out hgb) _, keep_far HK.out (p := ⟨gf, i.toNat * 2 + 1, none⟩) hgb _⟩
 clear hN
 rcases hv with rfl | rfl | rfl
 all_goals (clear h3 h4 h1 h2 hgl hgb; go_wp2; go_ret)
 · exact ⟨_, rfl, Kd.N_V (Kd.N_mono (HN.out (-1)) (fun _ hk => hk.1)), (HF (-1)).out⟩
 · exact ⟨_, rfl, Kd.N_V (Kd.N_mono (HN.out 200) (fun _ hk => hk.1)), (HF 200).out⟩
 · exact ⟨_, rfl, Kd.N_V (Kd.N_mono (HN.out 201) (fun _ hk => hk.1)), (HF 201).out⟩
set_option maxHeartbeats 4000000 in
set_option maxRecDepth 100000 in
theorem spec_l71Flash.c3 (k g : Nat) (s0_0 : List Int) (s0_1 : Int) (ev : List S74) (fl : List S60) (dk : List Int) (p1 q p2 : Int) (i p3 : Int) (w0 w : World) (hI : IsS62 w0 w g s0_0 s0_1) (hB : Below w0.heap.size w0 w)
 (h1 : spec_l71Play.f k s0_0 s0_1 = some (ev, fl, dk, p1)) (h2 : spec_l6Rd_pick.f k s0_0 p1 20 = some (q, p2)) (n0 : q = 3) (h3 : spec_l6Rd_pick.f k s0_0 p2 (fl.length : Int) = some (i, p3)) (hi0 : 0 ≤ i) (hi1 : i < (fl.length : Int)) (hp : 1 ≤ (rd_T60 fl i).f0.length) :
 Calls Try.prog 24 #[.pointer (some ⟨g, 0, none⟩)] w fun e w' => ∃ v0_ : Value, e = .returned v0_ ∧ Kd.V k60 60 w' w.heap.size (fun k_ => w.heap.size ≤ k_) v0_ (fl.set i.toNat (⟨(rd_T60 fl i).f0.tail, (rd_T60 fl i).f1⟩ : S60)) ∧ IsS62 w0 w' g s0_0 p3 ∧ Below w0.heap.size w0 w' ∧ KeepBut w w' g none := by
 have hu28 := Try.underlying60
 have hu32 := Try.underlying52
 have hu26 := Try.underlying58
 have hu70 := Try.underlying26
 have hgl := IsS62.lt hI
 have HL0 := am hB.size
 go_enter Try.func24, Try.ntmps24
 go_wp2_with fail
 refine (spec_l71Play.calls k g s0_0 s0_1 ev fl dk p1 w0 _ hI hB h1).mono ?_
 rintro e w1 ⟨v0, v1, v2, rfl, -, hS, hD, hI1, hB1, hK1⟩
 obtain ⟨A1, c1, rfl⟩ := Kd.S_slice hS
 obtain ⟨A2, c2, rfl⟩ := Kd.R_slice hD
 have HS := am (Kd.S_mono (Kd.S_bound hS) (fun k_ hk => (⟨hk.2.1, hk.2.2.1⟩ : w.heap.size ≤ k_ ∧ k_ < w1.heap.size)))
 have HI := am (hI1.alloc (.cells #[.slice A1 fl.length c1, .slice A2 dk.length c2] 26))
 have HB := am (below_alloc hB1 (.cells #[.slice A1 fl.length c1, .slice A2 dk.length c2] 26))
 have HK := am (keep_alloc hK1 (.cells #[.slice A1 fl.length c1, .slice A2 dk.length c2] 26))
 clear hS hD hI hB hI1 hB1 hK1
 go_wp2_with fail
 replace HS := am (Kd.S_alloc HS.out (.cells #[.slice A1 fl.length c1, .slice A2 dk.length c2] 26))
 refine (spec_l6Rd_pick.calls k g s0_0 p1 20 q p2 w0 _ HI.out HB.out h2).mono ?_
 rintro e w2 ⟨rfl, hI2, hB2, hK2⟩
 replace HS := am (Kd.S_keep HS.out hK2 (fun k_ hk => by have := hk.1; omega))
 replace HI := am hI2
 replace HB := am hB2
 replace HK := am (KeepBut.trans HK.out hK2 (.inl rfl))
 clear hI2 hB2 hK2
 subst n0
 obtain ⟨gf, cf, hA1, hgb, hgl1, cellsf, hcf⟩ := Kd.S_form HS.out (by omega)
 have ea := (Value.slice.inj hA1).1
 have ec := (Value.slice.inj hA1).2.2
 subst ea
 subst ec
 clear hA1 hcf hgl1
 go_wp2_with fail
 refine (spec_l6Rd_pick.calls k g s0_0 p2 (fl.length : Int) i p3 w0 _ HI.out HB.out h3).mono ?_
 rintro e w3 ⟨rfl, hI2, hB2, hK2⟩
 replace HS := am (Kd.S_keep HS.out hK2 (fun k_ hk => by have := hk.1; omega))
 replace HI := am hI2
 replace HB := am hB2
 replace HK := am (KeepBut.trans HK.out hK2 (.inl rfl))
 clear hI2 hB2 hK2
 obtain ⟨c, hcl, hF, hcc, hfr⟩ := Kd.N_elem (Kd.S_N HS.out) z60 i hi0 hi1
 obtain ⟨A0, c0, rfl, hl1, hf⟩ := k60_openF hF
 have hfz := hfr 0
 have hc := hcc 0 _ rfl
 rw [show (k60).sz = 2 from rfl, Nat.add_zero] at hfz hc
 have hN := N_cutP (Kd.S_N HS.out) i hi0 hi1 (A0 := A0) (c0 := c0) hc hp
 have HN := am hN
 have HF : ∀ x : Value, Aside0 (IsS62 w0 (w3.setCell ⟨gf, i.toNat * 2, none⟩ x) g s0_0 p3 ∧ Below w0.heap.size w0 (w3.setCell ⟨gf, i.toNat * 2, none⟩ x) ∧ KeepBut w (w3.setCell ⟨gf, i.toNat * 2, none⟩ x) g none) := fun x => ⟨IsS62.far HI.out (show g ≠ gf by omega) _, HB.out.setCell (p := ⟨gf, i.toNat * 2, none⟩) (Nat.le_trans HL0.out hgb) _, keep_far HK.out (p := ⟨gf, i.toNat * 2, none⟩) hgb _⟩
 clear hN hcl hF hcc hfr hf
 have hib := decide_eq_true hi1
 have hiq : (i < (fl.length : Int)) = True := eq_true hi1
 replace hc : w3.cell? ⟨gf, i.toNat * 2, none⟩ = some (.slice A0 (rd_T60 fl i).f0.length c0) := hc
 replace hl1 : (rd_T60 fl i).f0.length ≤ c0 := hl1
 clear h3 h1 h2 hgl hgb
 generalize hnn : (rd_T60 fl i).f0.length = nn at hc hl1 hp HN
 have HNN := am hnn
 clear hnn
 go_wp2
 all_goals go_ret
 · have hN := HN.out
   subst h
   rw [if_pos rfl] at hN
   exact ⟨_, rfl, Kd.N_V (Kd.N_mono hN (fun _ hk => hk.1)), (HF _).out⟩
 · have hN := HN.out
   rw [if_neg h] at hN
   exact ⟨_, rfl, Kd.N_V (Kd.N_mono hN (fun _ hk => hk.1)), (HF _).out⟩
theorem S_pageD {w1 : World} {base g n cap gi ni ci : Nat} {ok : Nat → Prop} {xs : List S60} (HS : Kd.S k60 60 w1 base ok (.slice (some ⟨g, 0, none⟩) n cap) xs) (b : Int) (h0 : 0 ≤ b) (h1 : b < n)
 (hc : w1.cell? ⟨g, b.toNat * 2, none⟩ = some (.slice (some ⟨gi, 0, none⟩) ni ci)) (j : Int) (hj0 : 0 ≤ j) (hj1 : j < ni) (p : S52) :
 Kd.S k60 60 (w1.setCells gi (j.toNat * 5) [.int .i64 p.f0, .int .i64 p.f1.f0, .int .i64 p.f1.f1, .int .i64 p.f1.f2, .int .i64 p.f1.f3]) base ok (.slice (some ⟨g, 0, none⟩) n cap) (xs.set b.toNat ⟨(rd_T60 xs b).f0.set j.toNat p, (rd_T60 xs b).f1⟩) := by
 obtain ⟨oki, c, hcl, hM, hcc, hfr, hoki, hH⟩ := Kd.S_elem HS z60 b h0 h1
 obtain ⟨v0, rfl, hR⟩ := k60_openM hM
 have hc0 := hcc 0 _ rfl
 have esz : (k60).sz = 2 := rfl
 rw [esz, Nat.add_zero, hc] at hc0
 obtain rfl := Option.some.inj hc0
 obtain ⟨ce, hce, hMe, hcce, hfre⟩ := Kd.R_elem hR z52 j hj0 hj1
 obtain ⟨hR2, hg2⟩ := Kd.R_seg hR j hj0 hj1 (seg := [.int .i64 p.f0, .int .i64 p.f1.f0, .int .i64 p.f1.f1, .int .i64 p.f1.f2, .int .i64 p.f1.f3]) (j := 0) (okp := fun _ => False) hce hcce (show 0 + 5 ≤ 5 from Nat.le_refl 5) (x' := p)
  (by
   rw [List.take_zero, List.nil_append, List.drop_of_length_le (by rw [hce]; exact Nat.le_refl 5), List.append_nil]
   exact k52_mkM _ _ _ p) (fun _ h => h.elim)
 have hgi : oki gi := hR.1 gi rfl
 have hk : Kept w1 (w1.setCells gi (j.toNat * 5) [.int .i64 p.f0, .int .i64 p.f1.f0, .int .i64 p.f1.f1, .int .i64 p.f1.f2, .int .i64 p.f1.f3]) (fun k => k = gi) := Kept.of_grown hg2 (Kept.refl w1 _) (fun k hk => Or.inl (Option.some.inj hk).symm)
 exact Kd.H_back (Kd.H_kept hH hk (fun k _ hn hk2 => hn (by rw [hk2]; exact hgi))) (k60_mkM _ base oki ⟨(rd_T60 xs b).f0.set j.toNat p, (rd_T60 xs b).f1⟩ hR2) (fun k hk => hk)
theorem keepD {w0 w W : World} {g n : Nat} {a : Addr} {v : Value} (h : W.cell? a = some v ∧ Below w0.heap.size w0 W ∧ KeepBut w W g none) : (W.drewN n).cell? a = some v ∧ Below w0.heap.size w0 (W.drewN n) ∧ KeepBut w (W.drewN n) g none := ⟨h.1, pw_below_drewN h.2.1 n, keep_drewN h.2.2 n⟩
theorem keepD1 {w0 w W : World} {g : Nat} {a : Addr} {v : Value} (h : W.cell? a = some v ∧ Below w0.heap.size w0 W ∧ KeepBut w W g none) : (W.drew).cell? a = some v ∧ Below w0.heap.size w0 (W.drew) ∧ KeepBut w (W.drew) g none := ⟨h.1, below_drew h.2.1, keep_drew h.2.2⟩
theorem keepW {w0 w W : World} {g gi : Nat} {a : Addr} {v : Value} (h : W.cell? a = some v ∧ Below w0.heap.size w0 W ∧ KeepBut w W g none) (hL : w0.heap.size ≤ w.heap.size) (hgi : w.heap.size ≤ gi) (hne : a.block ≠ gi) (a1 a2 a3 a4 a5 : Nat) (u1 u2 u3 u4 u5 : Value) :
 (((((W.setCell ⟨gi, a1, none⟩ u1).setCell ⟨gi, a2, none⟩ u2).setCell ⟨gi, a3, none⟩ u3).setCell ⟨gi, a4, none⟩ u4).setCell ⟨gi, a5, none⟩ u5).cell? a = some v ∧ Below w0.heap.size w0 (((((W.setCell ⟨gi, a1, none⟩ u1).setCell ⟨gi, a2, none⟩ u2).setCell ⟨gi, a3, none⟩ u3).setCell ⟨gi, a4, none⟩ u4).setCell ⟨gi, a5, none⟩ u5) ∧ KeepBut w (((((W.setCell ⟨gi, a1, none⟩ u1).setCell ⟨gi, a2, none⟩ u2).setCell ⟨gi, a3, none⟩ u3).setCell ⟨gi, a4, none⟩ u4).setCell ⟨gi, a5, none⟩ u5) g none := by
 have e : ∀ (k : Nat), (⟨gi, k, none⟩ : Addr) ≠ a := fun k he => hne (by rw [← he])
 have hb := Nat.le_trans hL hgi
 refine ⟨?_, ((((h.2.1.setCell (p := ⟨gi, a1, none⟩) hb _).setCell (p := ⟨gi, a2, none⟩) hb _).setCell (p := ⟨gi, a3, none⟩) hb _).setCell (p := ⟨gi, a4, none⟩) hb _).setCell (p := ⟨gi, a5, none⟩) hb _, keep_far (p := ⟨gi, a5, none⟩) (keep_far (p := ⟨gi, a4, none⟩) (keep_far (p := ⟨gi, a3, none⟩) (keep_far (p := ⟨gi, a2, none⟩) (keep_far (p := ⟨gi, a1, none⟩) h.2.2 hgi _) hgi _) hgi _) hgi _) hgi _⟩
 rw [World.cell?_setCell_other _ _ _ _ (e a5), World.cell?_setCell_other _ _ _ _ (e a4), World.cell?_setCell_other _ _ _ _ (e a3), World.cell?_setCell_other _ _ _ _ (e a2), World.cell?_setCell_other _ _ _ _ (e a1)]
 exact h.1
set_option maxHeartbeats 4000000 in
set_option maxRecDepth 100000 in
theorem spec_l71Flash.c0 (k g : Nat) (s0_0 : List Int) (s0_1 : Int) (ev : List S74) (fl : List S60) (dk : List Int) (p1 q p2 : Int) (i p3 j p4 st p5 r0 r1 r2 r3 p6 : Int) (w0 w : World) (hI : IsS62 w0 w g s0_0 s0_1) (hB : Below w0.heap.size w0 w)
 (h1 : spec_l71Play.f k s0_0 s0_1 = some (ev, fl, dk, p1)) (h2 : spec_l6Rd_pick.f k s0_0 p1 20 = some (q, p2)) (n0 : q = 0) (h3 : spec_l6Rd_pick.f k s0_0 p2 (fl.length : Int) = some (i, p3)) (hi0 : 0 ≤ i) (hi1 : i < (fl.length : Int)) (h4 : spec_l6Rd_pick.f k s0_0 p3 4 = some (j, p4)) (hj0 : 0 ≤ j) (hj1 : j < ((rd_T60 fl i).f0.length : Int)) (h5 : spec_l6Rd_pick.f k s0_0 p4 4 = some (st, p5)) (h6 : spec_l71Rec.f k s0_0 p5 = some (r0, r1, r2, r3, p6)) :
 Calls Try.prog 24 #[.pointer (some ⟨g, 0, none⟩)] w fun e w' => ∃ v0_ : Value, e = .returned v0_ ∧ Kd.V k60 60 w' w.heap.size (fun k_ => w.heap.size ≤ k_) v0_ (fl.set i.toNat (⟨(rd_T60 fl i).f0.set j.toNat ⟨st, ⟨r0, r1, r2, r3⟩⟩, (rd_T60 fl i).f1⟩ : S60)) ∧ IsS62 w0 w' g s0_0 p6 ∧ Below w0.heap.size w0 w' ∧ KeepBut w w' g none := by
 have hu28 := Try.underlying60
 have hu32 := Try.underlying52
 have hu26 := Try.underlying58
 have hu70 := Try.underlying26
 have hgl := IsS62.lt hI
 have HL0 := am hB.size
 go_enter Try.func24, Try.ntmps24
 go_wp2_with fail
 refine (spec_l71Play.calls k g s0_0 s0_1 ev fl dk p1 w0 _ hI hB h1).mono ?_
 rintro e w1 ⟨v0, v1, v2, rfl, -, hS, hD, hI1, hB1, hK1⟩
 obtain ⟨A1, c1, rfl⟩ := Kd.S_slice hS
 obtain ⟨A2, c2, rfl⟩ := Kd.R_slice hD
 have HS := am (Kd.S_mono (Kd.S_bound hS) (fun k_ hk => (⟨hk.2.1, hk.2.2.1⟩ : w.heap.size ≤ k_ ∧ k_ < w1.heap.size)))
 have HI := am (hI1.alloc (.cells #[.slice A1 fl.length c1, .slice A2 dk.length c2] 26))
 have HB := am (below_alloc hB1 (.cells #[.slice A1 fl.length c1, .slice A2 dk.length c2] 26))
 have HK := am (keep_alloc hK1 (.cells #[.slice A1 fl.length c1, .slice A2 dk.length c2] 26))
 clear hS hD hI hB hI1 hB1 hK1
 go_wp2_with fail
 replace HS := am (Kd.S_alloc HS.out (.cells #[.slice A1 fl.length c1, .slice A2 dk.length c2] 26))
 refine (spec_l6Rd_pick.calls k g s0_0 p1 20 q p2 w0 _ HI.out HB.out h2).mono ?_
 rintro e w2 ⟨rfl, hI2, hB2, hK2⟩
 replace HS := am (Kd.S_keep HS.out hK2 (fun k_ hk => by have := hk.1; omega))
 replace HI := am hI2
 replace HB := am hB2
 replace HK := am (KeepBut.trans HK.out hK2 (.inl rfl))
 clear hI2 hB2 hK2
 subst n0
 obtain ⟨gf, cf, hA1, hgb, hgl1, cellsf, hcf⟩ := Kd.S_form HS.out (by omega)
 have ea := (Value.slice.inj hA1).1
 have ec := (Value.slice.inj hA1).2.2
 subst ea
 subst ec
 clear hA1 hcf hgl1
 obtain ⟨oki, c, hcl, hM, hcc, hfr, hoki, hH⟩ := Kd.S_elem HS.out z60 i hi0 hi1
 obtain ⟨vq, rfl, hR⟩ := k60_openM hM
 have hc := hcc 0 _ rfl
 rw [show (k60).sz = 2 from rfl, Nat.add_zero] at hc
 replace hR : Kd.R k52 52 w2 w.heap.size oki vq (rd_T60 fl i).f0 := hR
 obtain ⟨gi, ci, rfl, hgib, hgil, cellsi, hcgi⟩ := Kd.R_form hR (by omega)
 have hgigf : gi ≠ gf := (hoki gi (hR.1 gi rfl)).2
 obtain ⟨ce, hce, hMe, hcce, hfre⟩ := Kd.R_elem hR z52 j hj0 hj1
 obtain rfl := k52_openM hMe
 rw [show (k52).sz = 5 from rfl] at hcce
 have HD := am (And.intro (hcce 0 _ rfl) (And.intro (hcce 1 _ rfl) (And.intro (hcce 2 _ rfl) (And.intro (hcce 3 _ rfl) (hcce 4 _ rfl)))))
 rw [Nat.add_zero] at HD
 have HBI := am hcgi
 clear hcl hM hcc hfr hoki hH hR hcgi hce hMe hcce hfre hgil
 generalize hpq : (List.getD (rd_T60 fl i).f0 j.toNat z52) = pq at HD
 clear hpq
 generalize hnn : (rd_T60 fl i).f0.length = nn at hc hj1
 have HNN := am hnn
 clear hnn
 have hib := decide_eq_true hi1
 have hiq : (i < (fl.length : Int)) = True := eq_true hi1
 have hjb := decide_eq_true hj1
 have hjq : (j < (nn : Int)) = True := eq_true hj1
 have hgfg : gf ≠ g := by omega
 have hgig : gi ≠ g := by omega
 have hSS : w2.cell? ⟨gf, i.toNat * 2, none⟩ = some (.slice (some ⟨gi, 0, none⟩) nn ci) ∧ Below w0.heap.size w0 w2 ∧ KeepBut w w2 g none := ⟨hc, HB.out, HK.out⟩
 have HGI := am hgib
 have HGL := am hgl
 have hd1 : ∀ (W : World) (n : Nat) (a : Addr), (W.drewN n).cell? a = W.cell? a := fun _ _ _ => rfl
 have hd3 : ∀ (W : World) (n : Nat) (a : Addr), (W.drewN n).frozen? a = W.frozen? a := fun _ _ _ => rfl
 clear hc
 go_wp2_with fail
 go_region_held3 (fun W => W.cell? ⟨gf, i.toNat * 2, none⟩ = some (.slice (some ⟨gi, 0, none⟩) nn ci) ∧ Below w0.heap.size w0 W ∧ KeepBut w W g none)
  (first | (with_reducible assumption) | (with_reducible exact keepD hSS) | (with_reducible exact keepD1 hSS) | (with_reducible exact keepD hS3) | (with_reducible exact keepD hS4) | (with_reducible exact keepD hS5) | (with_reducible exact keepD hS6) | (with_reducible exact keepW hS6 HL0.out HGI.out hgigf.symm _ _ _ _ _ _ _ _ _ _) | (with_reducible exact keepW (keepD hS6) HL0.out HGI.out hgigf.symm _ _ _ _ _ _ _ _ _ _))
  (first
   | (go_at_call 37; have _hg := HI5.out; clear _hg; refine (spec_l71Rec.calls k g s0_0 p5 r0 r1 r2 r3 p6 w0 _ (by first | (with_reducible exact HI5.out) | (with_reducible exact IsS62.drewN HI5.out _) | (with_reducible exact IsS62.drew HI5.out)) (by first | (with_reducible exact hS5.2.1) | (with_reducible exact pw_below_drewN hS5.2.1 _) | (with_reducible exact below_drew hS5.2.1)) h6).mono ?_; rintro e w6 ⟨rfl, hI6, hB6, hq6⟩; have hK6 : KeepBut w2 w6 g none := KeepBut.trans HK5.out hq6 (.inl rfl); have HI6 := am hI6; have HK6 := am hK6; have hS6 : w6.cell? ⟨gf, i.toNat * 2, none⟩ = some (.slice (some ⟨gi, 0, none⟩) nn ci) ∧ Below w0.heap.size w0 w6 ∧ KeepBut w w6 g none := ⟨keep_cell hK6 hSS.1 hgfg, hB6, KeepBut.trans HK.out hK6 (.inl rfl)⟩; clear hI6 hq6 hB6 hK6; have K6 := HK6.out; have d0 := keep_cell K6 HD.out.1 hgig; have d1 := keep_cell K6 HD.out.2.1 hgig; have d2 := keep_cell K6 HD.out.2.2.1 hgig; have d3 := keep_cell K6 HD.out.2.2.2.1 hgig; have d4 := keep_cell K6 HD.out.2.2.2.2 hgig; have bk6 := blk_kb HBI.out K6 hgig; have f0 := blk_frozen bk6 (j.toNat * 5); have f1 := blk_frozen bk6 (j.toNat * 5 + 1); have f2 := blk_frozen bk6 (j.toNat * 5 + 2); have f3 := blk_frozen bk6 (j.toNat * 5 + 3); have f4 := blk_frozen bk6 (j.toNat * 5 + 4); clear K6 bk6)
   | (go_at_call 23; have _hg := HI4.out; clear _hg; refine (spec_l6Rd_pick.calls k g s0_0 p4 4 st p5 w0 _ (by first | (with_reducible exact HI4.out) | (with_reducible exact IsS62.drewN HI4.out _) | (with_reducible exact IsS62.drew HI4.out)) (by first | (with_reducible exact hS4.2.1) | (with_reducible exact pw_below_drewN hS4.2.1 _) | (with_reducible exact below_drew hS4.2.1)) h5).mono ?_; rintro e w5 ⟨rfl, hI5, hB5, hq5⟩; have hK5 : KeepBut w2 w5 g none := KeepBut.trans HK4.out hq5 (.inl rfl); have HI5 := am hI5; have HK5 := am hK5; have hS5 : w5.cell? ⟨gf, i.toNat * 2, none⟩ = some (.slice (some ⟨gi, 0, none⟩) nn ci) ∧ Below w0.heap.size w0 w5 ∧ KeepBut w w5 g none := ⟨keep_cell hK5 hSS.1 hgfg, hB5, KeepBut.trans HK.out hK5 (.inl rfl)⟩; clear hI5 hq5 hB5 hK5)
   | (go_at_call 23; have _hg := HI3.out; clear _hg; refine (spec_l6Rd_pick.calls k g s0_0 p3 4 j p4 w0 _ (by first | (with_reducible exact HI3.out) | (with_reducible exact IsS62.drewN HI3.out _) | (with_reducible exact IsS62.drew HI3.out)) (by first | (with_reducible exact hS3.2.1) | (with_reducible exact pw_below_drewN hS3.2.1 _) | (with_reducible exact below_drew hS3.2.1)) h4).mono ?_; rintro e w4 ⟨rfl, hI4, hB4, hq4⟩; have hK4 : KeepBut w2 w4 g none := KeepBut.trans HK3.out hq4 (.inl rfl); have HI4 := am hI4; have HK4 := am hK4; have hS4 : w4.cell? ⟨gf, i.toNat * 2, none⟩ = some (.slice (some ⟨gi, 0, none⟩) nn ci) ∧ Below w0.heap.size w0 w4 ∧ KeepBut w w4 g none := ⟨keep_cell hK4 hSS.1 hgfg, hB4, KeepBut.trans HK.out hK4 (.inl rfl)⟩; clear hI4 hq4 hB4 hK4)
   | (go_at_call 23; have _hg := HI.out; clear _hg; refine (spec_l6Rd_pick.calls k g s0_0 p2 (fl.length : Int) i p3 w0 _ (by first | (with_reducible exact HI.out) | (with_reducible exact IsS62.drewN HI.out _) | (with_reducible exact IsS62.drew HI.out)) (by first | (with_reducible exact hSS.2.1) | (with_reducible exact pw_below_drewN hSS.2.1 _) | (with_reducible exact below_drew hSS.2.1)) h3).mono ?_; rintro e w3 ⟨rfl, hI3, hB3, hq3⟩; have hK3 : KeepBut w2 w3 g none := hq3; have HI3 := am hI3; have HK3 := am hK3; have hS3 : w3.cell? ⟨gf, i.toNat * 2, none⟩ = some (.slice (some ⟨gi, 0, none⟩) nn ci) ∧ Below w0.heap.size w0 w3 ∧ KeepBut w w3 g none := ⟨keep_cell hK3 hSS.1 hgfg, hB3, KeepBut.trans HK.out hK3 (.inl rfl)⟩; clear hI3 hq3 hB3 hK3)
   | fail)
 have hS6w := (show (((((w6.setCell ⟨gi, j.toNat * 5, none⟩ (.int .i64 st)).setCell ⟨gi, j.toNat * 5 + 1, none⟩ (.int .i64 r0)).setCell ⟨gi, j.toNat * 5 + 2, none⟩ (.int .i64 r1)).setCell ⟨gi, j.toNat * 5 + 3, none⟩ (.int .i64 r2)).setCell ⟨gi, j.toNat * 5 + 4, none⟩ (.int .i64 r3)).cell? ⟨gf, i.toNat * 2, none⟩ = some (.slice (some ⟨gi, 0, none⟩) nn ci) ∧ Below w0.heap.size w0 (((((w6.setCell ⟨gi, j.toNat * 5, none⟩ (.int .i64 st)).setCell ⟨gi, j.toNat * 5 + 1, none⟩ (.int .i64 r0)).setCell ⟨gi, j.toNat * 5 + 2, none⟩ (.int .i64 r1)).setCell ⟨gi, j.toNat * 5 + 3, none⟩ (.int .i64 r2)).setCell ⟨gi, j.toNat * 5 + 4, none⟩ (.int .i64 r3)) ∧ KeepBut w (((((w6.setCell ⟨gi, j.toNat * 5, none⟩ (.int .i64 st)).setCell ⟨gi, j.toNat * 5 + 1, none⟩ (.int .i64 r0)).setCell ⟨gi, j.toNat * 5 + 2, none⟩ (.int .i64 r1)).setCell ⟨gi, j.toNat * 5 + 3, none⟩ (.int .i64 r2)).setCell ⟨gi, j.toNat * 5 + 4, none⟩ (.int .i64 r3)) g none from by with_reducible assumption)
 have hst := S_pageD (Kd.S_keep HS.out HK6.out (fun k_ hk => by have := hk.1; have := HGL.out; omega)) i hi0 hi1 hS6.1 j hj0 hj1 (⟨st, ⟨r0, r1, r2, r3⟩⟩ : S52)
 have hgne : g ≠ gi := fun h => hgig h.symm
 have hI7 := IsS62.far (p := ⟨gi, j.toNat * 5 + 4, none⟩) (IsS62.far (p := ⟨gi, j.toNat * 5 + 3, none⟩) (IsS62.far (p := ⟨gi, j.toNat * 5 + 2, none⟩) (IsS62.far (p := ⟨gi, j.toNat * 5 + 1, none⟩) (IsS62.far (p := ⟨gi, j.toNat * 5, none⟩) HI6.out hgne (.int .i64 st)) hgne (.int .i64 r0)) hgne (.int .i64 r1)) hgne (.int .i64 r2)) hgne (.int .i64 r3)
 have HR := am (And.intro hS6w (And.intro hst hI7))
 clear hS6w hst hI7 hSS hS3 hS4 hS5 hS6 d0 d1 d2 d3 d4 f0 f1 f2 f3 f4 h1 h2 h3 h4 h5 h6 hd1 hd3 HS HI HI3 HI4 HI5 HI6 HK3 HK4 HK5 HK6 HD HBI
 go_wp2
 go_ret
 exact ⟨_, rfl, Kd.S_V (Kd.S_mono HR.out.2.1 (fun _ hk => hk.1)), HR.out.2.2, HR.out.1.2⟩
def spec_l71Flash.g (k : Nat) (s0_0 : List Int) (fl : List S60) (q p2 : Int) : Option (List S60 × Int) :=
 if q = 0 then (spec_l6Rd_pick.f k s0_0 p2 (fl.length : Int)).bind fun b3 => (spec_l6Rd_pick.f k s0_0 b3.2 4).bind fun b4 => (spec_l6Rd_pick.f k s0_0 b4.2 4).bind fun b5 => (spec_l71Rec.f k s0_0 b5.2).bind fun b6 =>
  if 0 ≤ b3.1 ∧ b3.1 < (fl.length : Int) ∧ 0 ≤ b4.1 ∧ b4.1 < ((rd_T60 fl b3.1).f0.length : Int) then some (fl.set b3.1.toNat (⟨(rd_T60 fl b3.1).f0.set b4.1.toNat ⟨b5.1, ⟨b6.1, b6.2.1, b6.2.2.1, b6.2.2.2.1⟩⟩, (rd_T60 fl b3.1).f1⟩ : S60), b6.2.2.2.2) else none
 else if q = 1 then (spec_l6Rd_pick.f k s0_0 p2 (fl.length : Int)).bind fun b3 => (spec_l6Rd_pick.f k s0_0 b3.2 3).bind fun b4 =>
  if 0 ≤ b3.1 ∧ b3.1 < (fl.length : Int) ∧ 0 ≤ b4.1 ∧ b4.1 < 3 then some (fl.set b3.1.toNat (⟨(rd_T60 fl b3.1).f0, rd [-1, 200, 201] b4.1⟩ : S60), b4.2) else none
 else if q = 2 then (if 1 ≤ fl.length then some (fl.tail, p2) else none)
 else if q = 3 then (spec_l6Rd_pick.f k s0_0 p2 (fl.length : Int)).bind fun b3 =>
  if 0 ≤ b3.1 ∧ b3.1 < (fl.length : Int) ∧ 1 ≤ (rd_T60 fl b3.1).f0.length then some (fl.set b3.1.toNat (⟨(rd_T60 fl b3.1).f0.tail, (rd_T60 fl b3.1).f1⟩ : S60), b3.2) else none
 else some (fl, p2)
def spec_l71Flash.f (k : Nat) (s0_0 : List Int) (s0_1 : Int) : Option (List S60 × Int) :=
 (spec_l71Play.f k s0_0 s0_1).bind fun b1 => (spec_l6Rd_pick.f k s0_0 b1.2.2.2 20).bind fun b2 => spec_l71Flash.g k s0_0 b1.2.1 b2.1 b2.2
theorem spec_l71Flash.mono : ∀ a0 a1 k, LeO (spec_l71Flash.f k a0 a1) (spec_l71Flash.f (k + 1) a0 a1) := by
 intro a0 a1 k
 unfold spec_l71Flash.f
 refine LeO.bind (spec_l71Play.mono _ _ _) (fun b1 => LeO.bind (spec_l6Rd_pick.mono _ _ _ _) (fun b2 => ?_))
 unfold spec_l71Flash.g
 with_reducible repeat' first | exact LeO.refl _ | exact spec_l6Rd_pick.mono _ _ _ _ | exact spec_l71Rec.mono _ _ _ | refine LeO.bind ?_ (fun _ => ?_) | refine LeO.ite ?_ ?_
theorem spec_l71Flash.calls (k : Nat) (g : Nat) (s0_0 : List Int) (s0_1 : Int) (r1 : List (S60)) (r2 : Int) (w0 w : World) (hI : IsS62 w0 w g s0_0 s0_1) (hB : Below w0.heap.size w0 w) (h : spec_l71Flash.f k s0_0 s0_1 = some (r1, r2)) :
 Calls Try.prog 24 #[.pointer (some ⟨g, 0, none⟩)] w fun e w' => ∃ v0_ : Value, e = .returned v0_ ∧ Kd.V k60 60 w' w.heap.size (fun k_ => w.heap.size ≤ k_) v0_ r1 ∧ IsS62 w0 w' g s0_0 r2 ∧ Below w0.heap.size w0 w' ∧ KeepBut w w' g none := by
 unfold spec_l71Flash.f at h
 obtain ⟨⟨ev, fl, dk, p1⟩, h1, h⟩ := Option.bind_eq_some_iff.1 h
 obtain ⟨⟨q, p2⟩, h2, h⟩ := Option.bind_eq_some_iff.1 h
 replace h : spec_l71Flash.g k s0_0 fl q p2 = some (r1, r2) := h
 unfold spec_l71Flash.g at h
 by_cases n0 : q = 0
 · rw [if_pos n0] at h
   obtain ⟨⟨i, p3⟩, h3, h⟩ := Option.bind_eq_some_iff.1 h
   obtain ⟨⟨j, p4⟩, h4, h⟩ := Option.bind_eq_some_iff.1 h
   obtain ⟨⟨st, p5⟩, h5, h⟩ := Option.bind_eq_some_iff.1 h
   obtain ⟨⟨r0, ra, rb, rc, p6⟩, h6, h⟩ := Option.bind_eq_some_iff.1 h
   obtain ⟨⟨hi0, hi1, hj0, hj1⟩, h⟩ := ite_some h
   have e := Prod.mk.inj (Option.some.inj h)
   rw [← e.1, ← e.2]
   exact spec_l71Flash.c0 k g s0_0 s0_1 ev fl dk p1 q p2 i p3 j p4 st p5 r0 ra rb rc p6 w0 w hI hB h1 h2 n0 h3 hi0 hi1 h4 hj0 hj1 h5 h6
 rw [if_neg n0] at h
 by_cases n1 : q = 1
 · rw [if_pos n1] at h
   obtain ⟨⟨i, p3⟩, h3, h⟩ := Option.bind_eq_some_iff.1 h
   obtain ⟨⟨j, p4⟩, h4, h⟩ := Option.bind_eq_some_iff.1 h
   obtain ⟨⟨hi0, hi1, hj0, hj1⟩, h⟩ := ite_some h
   have e := Prod.mk.inj (Option.some.inj h)
   rw [← e.1, ← e.2]
   exact spec_l71Flash.c1 k g s0_0 s0_1 ev fl dk p1 q p2 i p3 j p4 w0 w hI hB h1 h2 n1 h3 hi0 hi1 h4 hj0 hj1
 rw [if_neg n1] at h
 by_cases n2 : q = 2
 · rw [if_pos n2] at h
   obtain ⟨hl, h⟩ := ite_some h
   have e := Prod.mk.inj (Option.some.inj h)
   rw [← e.1, ← e.2]
   exact spec_l71Flash.c2 k g s0_0 s0_1 ev fl dk p1 q p2 w0 w hI hB h1 h2 n2 hl
 rw [if_neg n2] at h
 by_cases n3 : q = 3
 · rw [if_pos n3] at h
   obtain ⟨⟨i, p3⟩, h3, h⟩ := Option.bind_eq_some_iff.1 h
   obtain ⟨⟨hi0, hi1, hp⟩, h⟩ := ite_some h
   have e := Prod.mk.inj (Option.some.inj h)
   rw [← e.1, ← e.2]
   exact spec_l71Flash.c3 k g s0_0 s0_1 ev fl dk p1 q p2 i p3 w0 w hI hB h1 h2 n3 h3 hi0 hi1 hp
 rw [if_neg n3] at h
 have e := Prod.mk.inj (Option.some.inj h)
 rw [← e.1, ← e.2]
 exact spec_l71Flash.c4 k g s0_0 s0_1 ev fl dk p1 q p2 w0 w hI hB h1 h2 n0 n1 n2 n3
end Go.Proofs.Ytcfpddgfhkaboaa.Rz
