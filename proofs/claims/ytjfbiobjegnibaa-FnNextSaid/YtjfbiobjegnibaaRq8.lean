-- printed by wip/pp/pp.py
import Derived.Test.YtjfbiobjegnibaaRq0
import Derived.Test.YtjfbiobjegnibaaRq7
import Derived.Deep.RegionHeld3
import Derived.RegionTactic
namespace Go.Proofs.Ytjfbiobjegnibaa.Rq
open Go.RowKit Go.Proofs.YtjfbiobjegnibaaW.PrintWords Go.Proofs.YtjfbiobjegnibaaW.PrintLast Go.Proofs.YtjfbiobjegnibaaW.PrintMore
attribute [local go_sem] max2_int min2_int max_two min_two max_three min_three max_four min_four
set_option linter.unusedVariables false
set_option linter.unusedSimpArgs false
theorem ite_some {α : Type} {c : Prop} [Decidable c] {x y : α} (h : (if c then some x else none) = some y) : c ∧ some x = some y := by
 by_cases hc : c
 rotate_left
 · rw [if_neg hc] at h
   cases h
 rw [if_pos hc] at h
 exact ⟨hc, h⟩
set_option maxHeartbeats 4000000 in
set_option maxRecDepth 100000 in
theorem spec_l71Flash.c4 (k g : Nat) (s0_0 : List Int) (s0_1 : Int) (ev : List S74) (fl : List S33) (dk : List Int) (p1 q p2 : Int) (w0 w : World) (hI : IsS65 w0 w g s0_0 s0_1) (hB : Below w0.heap.size w0 w)
 (h1 : spec_l71Play.f k s0_0 s0_1 = some (ev, fl, dk, p1)) (h2 : spec_l6Rd_pick.f k s0_0 p1 20 = some (q, p2)) (n0 : q ≠ 0) (n1 : q ≠ 1) (n2 : q ≠ 2) (n3 : q ≠ 3) :
 Calls Try.prog 10 #[.pointer (some ⟨g, 0, none⟩)] w fun e w' => ∃ v0_ : Value, e = .returned v0_ ∧ Kd.V k33 33 w' w.heap.size (fun k_ => w.heap.size ≤ k_) v0_ fl ∧ IsS65 w0 w' g s0_0 p2 ∧ Below w0.heap.size w0 w' ∧ KeepBut w w' g none := by
 have hu28 := Try.underlying33
 have hu32 := Try.underlying30
 have hu26 := Try.underlying31
 have hu70 := Try.underlying59
 have hgl := IsS65.lt hI
 have HL0 := am hB.size
 go_enter Try.func10, Try.ntmps10
 go_wp2_with fail
 refine (spec_l71Play.calls k g s0_0 s0_1 ev fl dk p1 w0 _ hI hB h1).mono ?_
 rintro e w1 ⟨v0, v1, v2, rfl, -, hS, hD, hI1, hB1, hK1⟩
 obtain ⟨A1, c1, rfl⟩ := Kd.S_slice hS
 obtain ⟨A2, c2, rfl⟩ := Kd.R_slice hD
 have HS := am (Kd.S_mono (Kd.S_bound hS) (fun k_ hk => (⟨hk.2.1, hk.2.2.1⟩ : w.heap.size ≤ k_ ∧ k_ < w1.heap.size)))
 have HI := am (hI1.alloc (.cells #[.slice A1 fl.length c1, .slice A2 dk.length c2] 59))
 have HB := am (below_alloc hB1 (.cells #[.slice A1 fl.length c1, .slice A2 dk.length c2] 59))
 have HK := am (keep_alloc hK1 (.cells #[.slice A1 fl.length c1, .slice A2 dk.length c2] 59))
 clear hS hD hI hB hI1 hB1 hK1
 go_wp2_with fail
 replace HS := am (Kd.S_alloc HS.out (.cells #[.slice A1 fl.length c1, .slice A2 dk.length c2] 59))
 refine (spec_l6Rd_pick.calls k g s0_0 p1 20 q p2 w0 _ HI.out HB.out h2).mono ?_
 rintro e w2 ⟨rfl, hI2, hB2, hK2⟩
 replace HS := am (Kd.S_keep HS.out hK2 (fun k_ hk => by have := hk.1; omega))
 replace HI := am hI2
 replace HB := am hB2
 replace HK := am (KeepBut.trans HK.out hK2 (.inl rfl))
 clear hI2 hB2 hK2
 have e0 : (q == 0) = false := beq_eq_false_iff_ne.mpr n0
 have e1 : (q == 1) = false := beq_eq_false_iff_ne.mpr n1
 have e2 : (q == 2) = false := beq_eq_false_iff_ne.mpr n2
 have e3 : (q == 3) = false := beq_eq_false_iff_ne.mpr n3
 go_wp2
 go_ret
 exact ⟨_, rfl, Kd.S_V (Kd.S_mono HS.out (fun _ hk => hk.1)), HI.out, HB.out, HK.out⟩
theorem blk_kb {w w' : World} {g a : Nat} {o : Obj} (h : w.heap[a]? = some o) (hk : KeepBut w w' g none) (hne : a ≠ g) : w'.heap[a]? = some o := (hk.2 a (Array.getElem?_eq_some_iff.1 h).1 hne (by simp)).trans h
theorem V_cutF {W : World} {base : Nat} {ok : Nat → Prop} {A : Option Addr} {c : Nat} {fl : List S33} (h : Kd.V k33 33 W base ok (.slice A fl.length c) fl) (hl : 1 ≤ fl.length) : Kd.V k33 33 W base ok (.slice (if c = 1 then A else A.map (fun x => ⟨x.block, x.off + 2, none⟩)) (fl.length - 1) (c - 1)) fl.tail := by
 have hF := Kd.F_cut (Kd.V_F h) hl (Kd.V_at h).2.1
 have e : (A.map (·.add (1 * (k33).sz))) = A.map (fun x => ⟨x.block, x.off + 2, none⟩) := by cases A <;> rfl
 rw [e, List.drop_one] at hF
 have h2 := Kd.V_mk (e := 33) (base := base) (c := c - 1) (by have := (Kd.V_at h).2.1; rw [List.length_tail]; omega) hF
 rw [List.length_tail] at h2
 exact h2
theorem N_worn {W : World} {base g n cap : Nat} {ok : Nat → Prop} {xs : List S33} (h : Kd.N k33 33 W base ok (.slice (some ⟨g, 0, none⟩) n cap) xs) (i : Int) (h0 : 0 ≤ i) (h1 : i < n) (x : Int) : Kd.N k33 33 (W.setCell ⟨g, i.toNat * 2 + 1, none⟩ (.int .i64 x)) base ok (.slice (some ⟨g, 0, none⟩) n cap) (xs.set i.toNat ⟨(rd_T33 xs i).f0, x⟩) := by
 obtain ⟨c, hcl, hF, hcc, hfr⟩ := Kd.N_elem h z33 i h0 h1
 obtain ⟨A0, c0, rfl, hl, hf⟩ := k33_openF hF
 exact (Kd.N_seg h i h0 h1 (seg := [.int .i64 x]) (j := 1) hcl hcc (show 1 + 1 ≤ 2 from Nat.le_refl _) (x' := (⟨(rd_T33 xs i).f0, x⟩ : S33)) (k33_mkF _ _ ⟨(rd_T33 xs i).f0, x⟩ hl hf) (fun k hk => hk)).1
theorem N_cutP {W : World} {base g n cap : Nat} {ok : Nat → Prop} {xs : List S33} (h : Kd.N k33 33 W base ok (.slice (some ⟨g, 0, none⟩) n cap) xs) (i : Int) (h0 : 0 ≤ i) (h1 : i < n) {A0 : Option Addr} {c0 : Nat} (hc : W.cell? ⟨g, i.toNat * 2, none⟩ = some (.slice A0 (rd_T33 xs i).f0.length c0)) (hl : 1 ≤ (rd_T33 xs i).f0.length) :
 Kd.N k33 33 (W.setCell ⟨g, i.toNat * 2, none⟩ (.slice (if c0 = 1 then A0 else A0.map (fun x => ⟨x.block, x.off + 5, none⟩)) ((rd_T33 xs i).f0.length - 1) (c0 - 1))) base ok (.slice (some ⟨g, 0, none⟩) n cap) (xs.set i.toNat ⟨(rd_T33 xs i).f0.tail, (rd_T33 xs i).f1⟩) := by
 obtain ⟨c, hcl, hF, hcc, hfr⟩ := Kd.N_elem h z33 i h0 h1
 obtain ⟨A1, c1, rfl, hl1, hf⟩ := k33_openF hF
 have e0 := hcc 0 _ rfl
 rw [show (k33).sz = 2 from rfl, Nat.add_zero, hc] at e0
 have e1 := Value.slice.inj (Option.some.inj e0)
 obtain ⟨rfl, -, rfl⟩ := e1
 have hF := Kd.F_cut hf hl hl1
 have e : (A0.map (·.add (1 * (k30).sz))) = A0.map (fun x => ⟨x.block, x.off + 5, none⟩) := by cases A0 <;> rfl
 rw [e, List.drop_one] at hF
 have hm := k33_mkF W _ (⟨(rd_T33 xs i).f0.tail, (rd_T33 xs i).f1⟩ : S33) (c0 := c0 - 1) (by show (rd_T33 xs i).f0.tail.length ≤ _; rw [List.length_tail]; exact Nat.sub_le_sub_right hl1 1) hF
 have e2 : (⟨(rd_T33 xs i).f0.tail, (rd_T33 xs i).f1⟩ : S33).f0.length = (rd_T33 xs i).f0.length - 1 := List.length_tail
 rw [e2] at hm
 exact (Kd.N_seg h i h0 h1 (seg := [.slice (if c0 = 1 then A0 else A0.map (fun x => ⟨x.block, x.off + 5, none⟩)) ((rd_T33 xs i).f0.length - 1) (c0 - 1)]) (j := 0) hcl hcc (show 0 + 1 ≤ 2 by decide) (x' := (⟨(rd_T33 xs i).f0.tail, (rd_T33 xs i).f1⟩ : S33)) hm (fun k hk => hk)).1
set_option maxHeartbeats 4000000 in
set_option maxRecDepth 100000 in
theorem spec_l71Flash.c2 (k g : Nat) (s0_0 : List Int) (s0_1 : Int) (ev : List S74) (fl : List S33) (dk : List Int) (p1 q p2 : Int) (w0 w : World) (hI : IsS65 w0 w g s0_0 s0_1) (hB : Below w0.heap.size w0 w)
 (h1 : spec_l71Play.f k s0_0 s0_1 = some (ev, fl, dk, p1)) (h2 : spec_l6Rd_pick.f k s0_0 p1 20 = some (q, p2)) (n0 : q = 2) (hl : 1 ≤ fl.length) :
 Calls Try.prog 10 #[.pointer (some ⟨g, 0, none⟩)] w fun e w' => ∃ v0_ : Value, e = .returned v0_ ∧ Kd.V k33 33 w' w.heap.size (fun k_ => w.heap.size ≤ k_) v0_ fl.tail ∧ IsS65 w0 w' g s0_0 p2 ∧ Below w0.heap.size w0 w' ∧ KeepBut w w' g none := by
 have hu28 := Try.underlying33
 have hu32 := Try.underlying30
 have hu26 := Try.underlying31
 have hu70 := Try.underlying59
 have hgl := IsS65.lt hI
 have HL0 := am hB.size
 go_enter Try.func10, Try.ntmps10
 go_wp2_with fail
 refine (spec_l71Play.calls k g s0_0 s0_1 ev fl dk p1 w0 _ hI hB h1).mono ?_
 rintro e w1 ⟨v0, v1, v2, rfl, -, hS, hD, hI1, hB1, hK1⟩
 obtain ⟨A1, c1, rfl⟩ := Kd.S_slice hS
 obtain ⟨A2, c2, rfl⟩ := Kd.R_slice hD
 have HS := am (Kd.S_mono (Kd.S_bound hS) (fun k_ hk => (⟨hk.2.1, hk.2.2.1⟩ : w.heap.size ≤ k_ ∧ k_ < w1.heap.size)))
 have HI := am (hI1.alloc (.cells #[.slice A1 fl.length c1, .slice A2 dk.length c2] 59))
 have HB := am (below_alloc hB1 (.cells #[.slice A1 fl.length c1, .slice A2 dk.length c2] 59))
 have HK := am (keep_alloc hK1 (.cells #[.slice A1 fl.length c1, .slice A2 dk.length c2] 59))
 clear hS hD hI hB hI1 hB1 hK1
 go_wp2_with fail
 replace HS := am (Kd.S_alloc HS.out (.cells #[.slice A1 fl.length c1, .slice A2 dk.length c2] 59))
 refine (spec_l6Rd_pick.calls k g s0_0 p1 20 q p2 w0 _ HI.out HB.out h2).mono ?_
 rintro e w2 ⟨rfl, hI2, hB2, hK2⟩
 replace HS := am (Kd.S_keep HS.out hK2 (fun k_ hk => by have := hk.1; omega))
 replace HI := am hI2
 replace HB := am hB2
 replace HK := am (KeepBut.trans HK.out hK2 (.inl rfl))
 clear hI2 hB2 hK2
 subst n0
 have hV := V_cutF (Kd.S_V (e := 33) (base' := w.heap.size) (Kd.S_mono HS.out (fun _ hk => hk.1))) hl
 have HV := am hV
 clear hV
 go_wp2
 all_goals go_ret
 · have hV := HV.out
   subst h
   rw [if_pos rfl] at hV
   exact ⟨_, rfl, hV, HI.out, HB.out, HK.out⟩
 · have hV := HV.out
   rw [if_neg h] at hV
   exact ⟨_, rfl, hV, HI.out, HB.out, HK.out⟩
set_option maxHeartbeats 4000000 in
set_option maxRecDepth 100000 in
theorem spec_l71Flash.c1 (k g : Nat) (s0_0 : List Int) (s0_1 : Int) (ev : List S74) (fl : List S33) (dk : List Int) (p1 q p2 : Int) (i p3 v p4 : Int) (w0 w : World) (hI : IsS65 w0 w g s0_0 s0_1) (hB : Below w0.heap.size w0 w)
 (h1 : spec_l71Play.f k s0_0 s0_1 = some (ev, fl, dk, p1)) (h2 : spec_l6Rd_pick.f k s0_0 p1 20 = some (q, p2)) (n0 : q = 1) (h3 : spec_l6Rd_pick.f k s0_0 p2 (fl.length : Int) = some (i, p3)) (hi0 : 0 ≤ i) (hi1 : i < (fl.length : Int)) (h4 : spec_l6Rd_pick.f k s0_0 p3 3 = some (v, p4)) (hv0 : 0 ≤ v) (hv1 : v < 3) :
 Calls Try.prog 10 #[.pointer (some ⟨g, 0, none⟩)] w fun e w' => ∃ v0_ : Value, e = .returned v0_ ∧ Kd.V k33 33 w' w.heap.size (fun k_ => w.heap.size ≤ k_) v0_ (fl.set i.toNat (⟨(rd_T33 fl i).f0, rd [-1, 200, 201] v⟩ : S33)) ∧ IsS65 w0 w' g s0_0 p4 ∧ Below w0.heap.size w0 w' ∧ KeepBut w w' g none := by
 have hu28 := Try.underlying33
 have hu32 := Try.underlying30
 have hu26 := Try.underlying31
 have hu70 := Try.underlying59
 have hgl := IsS65.lt hI
 have HL0 := am hB.size
 go_enter Try.func10, Try.ntmps10
 go_wp2_with fail
 refine (spec_l71Play.calls k g s0_0 s0_1 ev fl dk p1 w0 _ hI hB h1).mono ?_
 rintro e w1 ⟨v0, v1, v2, rfl, -, hS, hD, hI1, hB1, hK1⟩
 obtain ⟨A1, c1, rfl⟩ := Kd.S_slice hS
 obtain ⟨A2, c2, rfl⟩ := Kd.R_slice hD
 have HS := am (Kd.S_mono (Kd.S_bound hS) (fun k_ hk => (⟨hk.2.1, hk.2.2.1⟩ : w.heap.size ≤ k_ ∧ k_ < w1.heap.size)))
 have HI := am (hI1.alloc (.cells #[.slice A1 fl.length c1, .slice A2 dk.length c2] 59))
 have HB := am (below_alloc hB1 (.cells #[.slice A1 fl.length c1, .slice A2 dk.length c2] 59))
 have HK := am (keep_alloc hK1 (.cells #[.slice A1 fl.length c1, .slice A2 dk.length c2] 59))
 clear hS hD hI hB hI1 hB1 hK1
 go_wp2_with fail
 replace HS := am (Kd.S_alloc HS.out (.cells #[.slice A1 fl.length c1, .slice A2 dk.length c2] 59))
 refine (spec_l6Rd_pick.calls k g s0_0 p1 20 q p2 w0 _ HI.out HB.out h2).mono ?_
 rintro e w2 ⟨rfl, hI2, hB2, hK2⟩
 replace HS := am (Kd.S_keep HS.out hK2 (fun k_ hk => by have := hk.1; omega))
 replace HI := am hI2
 replace HB := am hB2
 replace HK := am (KeepBut.trans HK.out hK2 (.inl rfl))
 clear hI2 hB2 hK2
 subst n0
 obtain ⟨gf, cf, hA1, hgb, hgl1, cellsf, hcf⟩ := Kd.S_form HS.out (by omega)
 have ea := (Value.slice.inj hA1).1
 have ec := (Value.slice.inj hA1).2.2
 subst ea
 subst ec
 clear hA1 hcf hgl1
 go_wp2_with fail
 refine (spec_l6Rd_pick.calls k g s0_0 p2 (fl.length : Int) i p3 w0 _ HI.out HB.out h3).mono ?_
 rintro e w3 ⟨rfl, hI2, hB2, hK2⟩
 replace HS := am (Kd.S_keep HS.out hK2 (fun k_ hk => by have := hk.1; omega))
 replace HI := am hI2
 replace HB := am hB2
 replace HK := am (KeepBut.trans HK.out hK2 (.inl rfl))
 clear hI2 hB2 hK2
 go_wp2_with fail
 refine (spec_l6Rd_pick.calls k g s0_0 p3 3 v p4 w0 _ (IsS65.alloc HI.out _) (below_alloc HB.out _) h4).mono ?_
 rintro e w4 ⟨rfl, hI2, hB2, hK2⟩
 have hlt3 := IsS65.lt HI.out
 have hbx := blk_kb (blk_new w3 _) hK2 (show w3.heap.size ≠ g by omega)
 replace HS := am (Kd.S_keep (Kd.S_alloc HS.out _) hK2 (fun k_ hk => by have := hk.1; omega))
 replace HI := am hI2
 replace HB := am hB2
 replace HK := am (KeepBut.trans (keep_alloc HK.out _) hK2 (.inl rfl))
 clear hI2 hB2 hK2 hlt3
 obtain ⟨oki, c, hcl, hM, hcc, hfr, hoki, hH⟩ := Kd.S_elem HS.out z33 i hi0 hi1
 have hfz := hfr 1
 obtain ⟨vq, rfl, -⟩ := k33_openM hM
 have hcl1 := hcc 1 _ rfl
 rw [show (k33).sz = 2 from rfl] at hfz hcl1
 generalize (List.getD fl i.toNat z33).f1 = wo at hcl1
 clear hcl hM hcc hfr hoki hH
 have q0 : w4.cell? ⟨w3.heap.size, 0, none⟩ = some (.int .i64 (-1)) := (blk_cell hbx 0).trans rfl
 have q1 : w4.cell? ⟨w3.heap.size, 1, none⟩ = some (.int .i64 200) := (blk_cell hbx 1).trans rfl
 have q2 : w4.cell? ⟨w3.heap.size, 2, none⟩ = some (.int .i64 201) := (blk_cell hbx 2).trans rfl
 clear hbx
 have hib := decide_eq_true hi1
 have hiq : (i < (fl.length : Int)) = True := eq_true hi1
 have hv : v = 0 ∨ v = 1 ∨ v = 2 := by omega
 clear hv0 hv1
 have hN := fun x => N_worn (Kd.S_N HS.out) i hi0 hi1 x
 have HN := am hN
 have HF : ∀ x : Int, Aside0 (IsS65 w0 (w4.setCell ⟨gf, i.toNat * 2 + 1, none⟩ (.int .i64 x)) g s0_0 p4 ∧ Below w0.heap.size w0 (w4.setCell ⟨gf, i.toNat * 2 + 1, none⟩ (.int .i64 x)) ∧ KeepBut w (w4.setCell ⟨gf, i.toNat * 2 + 1, none⟩ (.int .i64 x)) g none) := fun x => ⟨IsS65.far HI.out (show g ≠ gf by omega) _, HB.out.setCell (p := ⟨gf, i.toNat * 2 + 1, none⟩) (Nat.le_trans HL0.out hgb) _, keep_far HK.out (p := ⟨gf, i.toNat * 2 + 1, none⟩) hgb _⟩
 clear hN
 rcases hv with rfl | rfl | rfl
 all_goals (clear h3 h4 h1 h2 hgl hgb; go_wp2; go_ret)
 · exact ⟨_, rfl, Kd.N_V (Kd.N_mono (HN.out (-1)) (fun _ hk => hk.1)), (HF (-1)).out⟩
 · exact ⟨_, rfl, Kd.N_V (Kd.N_mono (HN.out 200) (fun _ hk => hk.1)), (HF 200).out⟩
 · exact ⟨_, rfl, Kd.N_V (Kd.N_mono (HN.out 201) (fun _ hk => hk.1)), (HF 201).out⟩
set_option maxHeartbeats 4000000 in
set_option maxRecDepth 100000 in
theorem spec_l71Flash.c3 (k g : Nat) (s0_0 : List Int) (s0_1 : Int) (ev : List S74) (fl : List S33) (dk : List Int) (p1 q p2 : Int) (i p3 : Int) (w0 w : World) (hI : IsS65 w0 w g s0_0 s0_1) (hB : Below w0.heap.size w0 w)
 (h1 : spec_l71Play.f k s0_0 s0_1 = some (ev, fl, dk, p1)) (h2 : spec_l6Rd_pick.f k s0_0 p1 20 = some (q, p2)) (n0 : q = 3) (h3 : spec_l6Rd_pick.f k s0_0 p2 (fl.length : Int) = some (i, p3)) (hi0 : 0 ≤ i) (hi1 : i < (fl.length : Int)) (hp : 1 ≤ (rd_T33 fl i).f0.length) :
 Calls Try.prog 10 #[.pointer (some ⟨g, 0, none⟩)] w fun e w' => ∃ v0_ : Value, e = .returned v0_ ∧ Kd.V k33 33 w' w.heap.size (fun k_ => w.heap.size ≤ k_) v0_ (fl.set i.toNat (⟨(rd_T33 fl i).f0.tail, (rd_T33 fl i).f1⟩ : S33)) ∧ IsS65 w0 w' g s0_0 p3 ∧ Below w0.heap.size w0 w' ∧ KeepBut w w' g none := by
 have hu28 := Try.underlying33
 have hu32 := Try.underlying30
 have hu26 := Try.underlying31
 have hu70 := Try.underlying59
 have hgl := IsS65.lt hI
 have HL0 := am hB.size
 go_enter Try.func10, Try.ntmps10
 go_wp2_with fail
 refine (spec_l71Play.calls k g s0_0 s0_1 ev fl dk p1 w0 _ hI hB h1).mono ?_
 rintro e w1 ⟨v0, v1, v2, rfl, -, hS, hD, hI1, hB1, hK1⟩
 obtain ⟨A1, c1, rfl⟩ := Kd.S_slice hS
 obtain ⟨A2, c2, rfl⟩ := Kd.R_slice hD
 have HS := am (Kd.S_mono (Kd.S_bound hS) (fun k_ hk => (⟨hk.2.1, hk.2.2.1⟩ : w.heap.size ≤ k_ ∧ k_ < w1.heap.size)))
 have HI := am (hI1.alloc (.cells #[.slice A1 fl.length c1, .slice A2 dk.length c2] 59))
 have HB := am (below_alloc hB1 (.cells #[.slice A1 fl.length c1, .slice A2 dk.length c2] 59))
 have HK := am (keep_alloc hK1 (.cells #[.slice A1 fl.length c1, .slice A2 dk.length c2] 59))
 clear hS hD hI hB hI1 hB1 hK1
 go_wp2_with fail
 replace HS := am (Kd.S_alloc HS.out (.cells #[.slice A1 fl.length c1, .slice A2 dk.length c2] 59))
 refine (spec_l6Rd_pick.calls k g s0_0 p1 20 q p2 w0 _ HI.out HB.out h2).mono ?_
 rintro e w2 ⟨rfl, hI2, hB2, hK2⟩
 replace HS := am (Kd.S_keep HS.out hK2 (fun k_ hk => by have := hk.1; omega))
 replace HI := am hI2
 replace HB := am hB2
 replace HK := am (KeepBut.trans HK.out hK2 (.inl rfl))
 clear hI2 hB2 hK2
 subst n0
 obtain ⟨gf, cf, hA1, hgb, hgl1, cellsf, hcf⟩ := Kd.S_form HS.out (by omega)
 have ea := (Value.slice.inj hA1).1
 have ec := (Value.slice.inj hA1).2.2
 subst ea
 subst ec
 clear hA1 hcf hgl1
 go_wp2_with fail
 refine (spec_l6Rd_pick.calls k g s0_0 p2 (fl.length : Int) i p3 w0 _ HI.out HB.out h3).mono ?_
 rintro e w3 ⟨rfl, hI2, hB2, hK2⟩
 replace HS := am (Kd.S_keep HS.out hK2 (fun k_ hk => by have := hk.1; omega))
 replace HI := am hI2
 replace HB := am hB2
 replace HK := am (KeepBut.trans HK.out hK2 (.inl rfl))
 clear hI2 hB2 hK2
 obtain ⟨c, hcl, hF, hcc, hfr⟩ := Kd.N_elem (Kd.S_N HS.out) z33 i hi0 hi1
 obtain ⟨A0, c0, rfl, hl1, hf⟩ := k33_openF hF
 have hfz := hfr 0
 have hc := hcc 0 _ rfl
 rw [show (k33).sz = 2 from rfl, Nat.add_zero] at hfz hc
 have hN := N_cutP (Kd.S_N HS.out) i hi0 hi1 (A0 := A0) (c0 := c0) hc hp
 have HN := am hN
 have HF : ∀ x : Value, Aside0 (IsS65 w0 (w3.setCell ⟨gf, i.toNat * 2, none⟩ x) g s0_0 p3 ∧ Below w0.heap.size w0 (w3.setCell ⟨gf, i.toNat * 2, none⟩ x) ∧ KeepBut w (w3.setCell ⟨gf, i.toNat * 2, none⟩ x) g none) := fun x => ⟨IsS65.far HI.out (show g ≠ gf by omega) _, HB.out.setCell (p := ⟨gf, i.toNat * 2, none⟩) (Nat.le_trans HL0.out hgb) _, keep_far HK.out (p := ⟨gf, i.toNat * 2, none⟩) hgb _⟩
 clear hN hcl hF hcc hfr hf
 have hib := decide_eq_true hi1
 have hiq : (i < (fl.length : Int)) = True := eq_true hi1
 replace hc : w3.cell? ⟨gf, i.toNat * 2, none⟩ = some (.slice A0 (rd_T33 fl i).f0.length c0) := hc
 replace hl1 : (rd_T33 fl i).f0.length ≤ c0 := hl1
 clear h3 h1 h2 hgl hgb
 generalize hnn : (rd_T33 fl i).f0.length = nn at hc hl1 hp HN
 have HNN := am hnn
 clear hnn
 go_wp2
 all_goals go_ret
 · have hN := HN.out
   subst h
   rw [if_pos rfl] at hN
   exact ⟨_, rfl, Kd.N_V (Kd.N_mono hN (fun _ hk => hk.1)), (HF _).out⟩
 · have hN := HN.out
   rw [if_neg h] at hN
   exact ⟨_, rfl, Kd.N_V (Kd.N_mono hN (fun _ hk => hk.1)), (HF _).out⟩
theorem S_pageD {w1 : World} {base g n cap gi ni ci : Nat} {ok : Nat → Prop} {xs : List S33} (HS : Kd.S k33 33 w1 base ok (.slice (some ⟨g, 0, none⟩) n cap) xs) (b : Int) (h0 : 0 ≤ b) (h1 : b < n)
 (hc : w1.cell? ⟨g, b.toNat * 2, none⟩ = some (.slice (some ⟨gi, 0, none⟩) ni ci)) (j : Int) (hj0 : 0 ≤ j) (hj1 : j < ni) (p : S30) :
 Kd.S k33 33 (w1.setCells gi (j.toNat * 5) [.int .i64 p.f0, .int .i64 p.f1.f0, .int .i64 p.f1.f1, .int .i64 p.f1.f2, .int .i64 p.f1.f3]) base ok (.slice (some ⟨g, 0, none⟩) n cap) (xs.set b.toNat ⟨(rd_T33 xs b).f0.set j.toNat p, (rd_T33 xs b).f1⟩) := by
 obtain ⟨oki, c, hcl, hM, hcc, hfr, hoki, hH⟩ := Kd.S_elem HS z33 b h0 h1
 obtain ⟨v0, rfl, hR⟩ := k33_openM hM
 have hc0 := hcc 0 _ rfl
 have esz : (k33).sz = 2 := rfl
 rw [esz, Nat.add_zero, hc] at hc0
 obtain rfl := Option.some.inj hc0
 obtain ⟨ce, hce, hMe, hcce, hfre⟩ := Kd.R_elem hR z30 j hj0 hj1
 obtain ⟨hR2, hg2⟩ := Kd.R_seg hR j hj0 hj1 (seg := [.int .i64 p.f0, .int .i64 p.f1.f0, .int .i64 p.f1.f1, .int .i64 p.f1.f2, .int .i64 p.f1.f3]) (j := 0) (okp := fun _ => False) hce hcce (show 0 + 5 ≤ 5 from Nat.le_refl 5) (x' := p)
  (by
   rw [List.take_zero, List.nil_append, List.drop_of_length_le (by rw [hce]; exact Nat.le_refl 5), List.append_nil]
   exact k30_mkM _ _ _ p) (fun _ h => h.elim)
 have hgi : oki gi := hR.1 gi rfl
 have hk : Kept w1 (w1.setCells gi (j.toNat * 5) [.int .i64 p.f0, .int .i64 p.f1.f0, .int .i64 p.f1.f1, .int .i64 p.f1.f2, .int .i64 p.f1.f3]) (fun k => k = gi) := Kept.of_grown hg2 (Kept.refl w1 _) (fun k hk => Or.inl (Option.some.inj hk).symm)
 exact Kd.H_back (Kd.H_kept hH hk (fun k _ hn hk2 => hn (by rw [hk2]; exact hgi))) (k33_mkM _ base oki ⟨(rd_T33 xs b).f0.set j.toNat p, (rd_T33 xs b).f1⟩ hR2) (fun k hk => hk)
theorem keepD {w0 w W : World} {g n : Nat} {a : Addr} {v : Value} (h : W.cell? a = some v ∧ Below w0.heap.size w0 W ∧ KeepBut w W g none) : (W.drewN n).cell? a = some v ∧ Below w0.heap.size w0 (W.drewN n) ∧ KeepBut w (W.drewN n) g none := ⟨h.1, pw_below_drewN h.2.1 n, keep_drewN h.2.2 n⟩
theorem keepD1 {w0 w W : World} {g : Nat} {a : Addr} {v : Value} (h : W.cell? a = some v ∧ Below w0.heap.size w0 W ∧ KeepBut w W g none) : (W.drew).cell? a = some v ∧ Below w0.heap.size w0 (W.drew) ∧ KeepBut w (W.drew) g none := ⟨h.1, below_drew h.2.1, keep_drew h.2.2⟩
theorem keepW {w0 w W : World} {g gi : Nat} {a : Addr} {v : Value} (h : W.cell? a = some v ∧ Below w0.heap.size w0 W ∧ KeepBut w W g none) (hL : w0.heap.size ≤ w.heap.size) (hgi : w.heap.size ≤ gi) (hne : a.block ≠ gi) (a1 a2 a3 a4 a5 : Nat) (u1 u2 u3 u4 u5 : Value) :
 (((((W.setCell ⟨gi, a1, none⟩ u1).setCell ⟨gi, a2, none⟩ u2).setCell ⟨gi, a3, none⟩ u3).setCell ⟨gi, a4, none⟩ u4).setCell ⟨gi, a5, none⟩ u5).cell? a = some v ∧ Below w0.heap.size w0 (((((W.setCell ⟨gi, a1, none⟩ u1).setCell ⟨gi, a2, none⟩ u2).setCell ⟨gi, a3, none⟩ u3).setCell ⟨gi, a4, none⟩ u4).setCell ⟨gi, a5, none⟩ u5) ∧ KeepBut w (((((W.setCell ⟨gi, a1, none⟩ u1).setCell ⟨gi, a2, none⟩ u2).setCell ⟨gi, a3, none⟩ u3).setCell ⟨gi, a4, none⟩ u4).setCell ⟨gi, a5, none⟩ u5) g none := by
 have e : ∀ (k : Nat), (⟨gi, k, none⟩ : Addr) ≠ a := fun k he => hne (by rw [← he])
 have hb := Nat.le_trans hL hgi
 refine ⟨?_, ((((h.2.1.setCell (p := ⟨gi, a1, none⟩) hb _).setCell (p := ⟨gi, a2, none⟩) hb _).setCell (p := ⟨gi, a3, none⟩) hb _).setCell (p := ⟨gi, a4, none⟩) hb _).setCell (p := ⟨gi, a5, none⟩) hb _, keep_far (p := ⟨gi, a5, none⟩) (keep_far (p := ⟨gi, a4, none⟩) (keep_far (p := ⟨gi, a3, none⟩) (keep_far (p := ⟨gi, a2, none⟩) (keep_far (p := ⟨gi, a1, none⟩) h.2.2 hgi _) hgi _) hgi _) hgi _) hgi _⟩
 rw [World.cell?_setCell_other _ _ _ _ (e a5), World.cell?_setCell_other _ _ _ _ (e a4), World.cell?_setCell_other _ _ _ _ (e a3), World.cell?_setCell_other _ _ _ _ (e a2), World.cell?_setCell_other _ _ _ _ (e a1)]
 exact h.1
set_option maxHeartbeats 4000000 in
set_option maxRecDepth 100000 in
theorem spec_l71Flash.c0 (k g : Nat) (s0_0 : List Int) (s0_1 : Int) (ev : List S74) (fl : List S33) (dk : List Int) (p1 q p2 : Int) (i p3 j p4 st p5 r0 r1 r2 r3 p6 : Int) (w0 w : World) (hI : IsS65 w0 w g s0_0 s0_1) (hB : Below w0.heap.size w0 w)
 (h1 : spec_l71Play.f k s0_0 s0_1 = some (ev, fl, dk, p1)) (h2 : spec_l6Rd_pick.f k s0_0 p1 20 = some (q, p2)) (n0 : q = 0) (h3 : spec_l6Rd_pick.f k s0_0 p2 (fl.length : Int) = some (i, p3)) (hi0 : 0 ≤ i) (hi1 : i < (fl.length : Int)) (h4 : spec_l6Rd_pick.f k s0_0 p3 4 = some (j, p4)) (hj0 : 0 ≤ j) (hj1 : j < ((rd_T33 fl i).f0.length : Int)) (h5 : spec_l6Rd_pick.f k s0_0 p4 4 = some (st, p5)) (h6 : spec_l71Rec.f k s0_0 p5 = some (r0, r1, r2, r3, p6)) :
 Calls Try.prog 10 #[.pointer (some ⟨g, 0, none⟩)] w fun e w' => ∃ v0_ : Value, e = .returned v0_ ∧ Kd.V k33 33 w' w.heap.size (fun k_ => w.heap.size ≤ k_) v0_ (fl.set i.toNat (⟨(rd_T33 fl i).f0.set j.toNat ⟨st, ⟨r0, r1, r2, r3⟩⟩, (rd_T33 fl i).f1⟩ : S33)) ∧ IsS65 w0 w' g s0_0 p6 ∧ Below w0.heap.size w0 w' ∧ KeepBut w w' g none := by
 have hu28 := Try.underlying33
 have hu32 := Try.underlying30
 have hu26 := Try.underlying31
 have hu70 := Try.underlying59
 have hgl := IsS65.lt hI
 have HL0 := am hB.size
 go_enter Try.func10, Try.ntmps10
 go_wp2_with fail
 refine (spec_l71Play.calls k g s0_0 s0_1 ev fl dk p1 w0 _ hI hB h1).mono ?_
 rintro e w1 ⟨v0, v1, v2, rfl, -, hS, hD, hI1, hB1, hK1⟩
 obtain ⟨A1, c1, rfl⟩ := Kd.S_slice hS
 obtain ⟨A2, c2, rfl⟩ := Kd.R_slice hD
 have HS := am (Kd.S_mono (Kd.S_bound hS) (fun k_ hk => (⟨hk.2.1, hk.2.2.1⟩ : w.heap.size ≤ k_ ∧ k_ < w1.heap.size)))
 have HI := am (hI1.alloc (.cells #[.slice A1 fl.length c1, .slice A2 dk.length c2] 59))
 have HB := am (below_alloc hB1 (.cells #[.slice A1 fl.length c1, .slice A2 dk.length c2] 59))
 have HK := am (keep_alloc hK1 (.cells #[.slice A1 fl.length c1, .slice A2 dk.length c2] 59))
 clear hS hD hI hB hI1 hB1 hK1
 go_wp2_with fail
 replace HS := am (Kd.S_alloc HS.out (.cells #[.slice A1 fl.length c1, .slice A2 dk.length c2] 59))
 refine (spec_l6Rd_pick.calls k g s0_0 p1 20 q p2 w0 _ HI.out HB.out h2).mono ?_
 rintro e w2 ⟨rfl, hI2, hB2, hK2⟩
 replace HS := am (Kd.S_keep HS.out hK2 (fun k_ hk => by have := hk.1; omega))
 replace HI := am hI2
 replace HB := am hB2
 replace HK := am (KeepBut.trans HK.out hK2 (.inl rfl))
 clear hI2 hB2 hK2
 subst n0
 obtain ⟨gf, cf, hA1, hgb, hgl1, cellsf, hcf⟩ := Kd.S_form HS.out (by omega)
 have ea := (Value.slice.inj hA1).1
 have ec := (Value.slice.inj hA1).2.2
 subst ea
 subst ec
 clear hA1 hcf hgl1
 obtain ⟨oki, c, hcl, hM, hcc, hfr, hoki, hH⟩ := Kd.S_elem HS.out z33 i hi0 hi1
 obtain ⟨vq, rfl, hR⟩ := k33_openM hM
 have hc := hcc 0 _ rfl
 rw [show (k33).sz = 2 from rfl, Nat.add_zero] at hc
 replace hR : Kd.R k30 30 w2 w.heap.size oki vq (rd_T33 fl i).f0 := hR
 obtain ⟨gi, ci, rfl, hgib, hgil, cellsi, hcgi⟩ := Kd.R_form hR (by omega)
 have hgigf : gi ≠ gf := (hoki gi (hR.1 gi rfl)).2
 obtain ⟨ce, hce, hMe, hcce, hfre⟩ := Kd.R_elem hR z30 j hj0 hj1
 obtain rfl := k30_openM hMe
 rw [show (k30).sz = 5 from rfl] at hcce
 have HD := am (And.intro (hcce 0 _ rfl) (And.intro (hcce 1 _ rfl) (And.intro (hcce 2 _ rfl) (And.intro (hcce 3 _ rfl) (hcce 4 _ rfl)))))
 rw [Nat.add_zero] at HD
 have HBI := am hcgi
 clear hcl hM hcc hfr hoki hH hR hcgi hce hMe hcce hfre hgil
 generalize hpq : (List.getD (rd_T33 fl i).f0 j.toNat z30) = pq at HD
 clear hpq
 generalize hnn : (rd_T33 fl i).f0.length = nn at hc hj1
 have HNN := am hnn
 clear hnn
 have hib := decide_eq_true hi1
 have hiq : (i < (fl.length : Int)) = True := eq_true hi1
 have hjb := decide_eq_true hj1
 have hjq : (j < (nn : Int)) = True := eq_true hj1
 have hgfg : gf ≠ g := by omega
 have hgig : gi ≠ g := by omega
 have hSS : w2.cell? ⟨gf, i.toNat * 2, none⟩ = some (.slice (some ⟨gi, 0, none⟩) nn ci) ∧ Below w0.heap.size w0 w2 ∧ KeepBut w w2 g none := ⟨hc, HB.out, HK.out⟩
 have HGI := am hgib
 have HGL := am hgl
 have hd1 : ∀ (W : World) (n : Nat) (a : Addr), (W.drewN n).cell? a = W.cell? a := fun _ _ _ => rfl
 have hd3 : ∀ (W : World) (n : Nat) (a : Addr), (W.drewN n).frozen? a = W.frozen? a := fun _ _ _ => rfl
 clear hc
 go_wp2_with fail
 go_region_held3 (fun W => W.cell? ⟨gf, i.toNat * 2, none⟩ = some (.slice (some ⟨gi, 0, none⟩) nn ci) ∧ Below w0.heap.size w0 W ∧ KeepBut w W g none)
  (first | (with_reducible assumption) | (with_reducible exact keepD hSS) | (with_reducible exact keepD1 hSS) | (with_reducible exact keepD hS3) | (with_reducible exact keepD hS4) | (with_reducible exact keepD hS5) | (with_reducible exact keepD hS6) | (with_reducible exact keepW hS6 HL0.out HGI.out hgigf.symm _ _ _ _ _ _ _ _ _ _) | (with_reducible exact keepW (keepD hS6) HL0.out HGI.out hgigf.symm _ _ _ _ _ _ _ _ _ _))
  (first
   | (go_at_call 25; have _hg := HI5.out; clear _hg; refine (spec_l71Rec.calls k g s0_0 p5 r0 r1 r2 r3 p6 w0 _ (by first | (with_reducible exact HI5.out) | (with_reducible exact IsS65.drewN HI5.out _) | (with_reducible exact IsS65.drew HI5.out)) (by first | (with_reducible exact hS5.2.1) | (with_reducible exact pw_below_drewN hS5.2.1 _) | (with_reducible exact below_drew hS5.2.1)) h6).mono ?_; rintro e w6 ⟨rfl, hI6, hB6, hq6⟩; have hK6 : KeepBut w2 w6 g none := KeepBut.trans HK5.out hq6 (.inl rfl); have HI6 := am hI6; have HK6 := am hK6; have hS6 : w6.cell? ⟨gf, i.toNat * 2, none⟩ = some (.slice (some ⟨gi, 0, none⟩) nn ci) ∧ Below w0.heap.size w0 w6 ∧ KeepBut w w6 g none := ⟨keep_cell hK6 hSS.1 hgfg, hB6, KeepBut.trans HK.out hK6 (.inl rfl)⟩; clear hI6 hq6 hB6 hK6; have K6 := HK6.out; have d0 := keep_cell K6 HD.out.1 hgig; have d1 := keep_cell K6 HD.out.2.1 hgig; have d2 := keep_cell K6 HD.out.2.2.1 hgig; have d3 := keep_cell K6 HD.out.2.2.2.1 hgig; have d4 := keep_cell K6 HD.out.2.2.2.2 hgig; have bk6 := blk_kb HBI.out K6 hgig; have f0 := blk_frozen bk6 (j.toNat * 5); have f1 := blk_frozen bk6 (j.toNat * 5 + 1); have f2 := blk_frozen bk6 (j.toNat * 5 + 2); have f3 := blk_frozen bk6 (j.toNat * 5 + 3); have f4 := blk_frozen bk6 (j.toNat * 5 + 4); clear K6 bk6)
   | (go_at_call 24; have _hg := HI4.out; clear _hg; refine (spec_l6Rd_pick.calls k g s0_0 p4 4 st p5 w0 _ (by first | (with_reducible exact HI4.out) | (with_reducible exact IsS65.drewN HI4.out _) | (with_reducible exact IsS65.drew HI4.out)) (by first | (with_reducible exact hS4.2.1) | (with_reducible exact pw_below_drewN hS4.2.1 _) | (with_reducible exact below_drew hS4.2.1)) h5).mono ?_; rintro e w5 ⟨rfl, hI5, hB5, hq5⟩; have hK5 : KeepBut w2 w5 g none := KeepBut.trans HK4.out hq5 (.inl rfl); have HI5 := am hI5; have HK5 := am hK5; have hS5 : w5.cell? ⟨gf, i.toNat * 2, none⟩ = some (.slice (some ⟨gi, 0, none⟩) nn ci) ∧ Below w0.heap.size w0 w5 ∧ KeepBut w w5 g none := ⟨keep_cell hK5 hSS.1 hgfg, hB5, KeepBut.trans HK.out hK5 (.inl rfl)⟩; clear hI5 hq5 hB5 hK5)
   | (go_at_call 24; have _hg := HI3.out; clear _hg; refine (spec_l6Rd_pick.calls k g s0_0 p3 4 j p4 w0 _ (by first | (with_reducible exact HI3.out) | (with_reducible exact IsS65.drewN HI3.out _) | (with_reducible exact IsS65.drew HI3.out)) (by first | (with_reducible exact hS3.2.1) | (with_reducible exact pw_below_drewN hS3.2.1 _) | (with_reducible exact below_drew hS3.2.1)) h4).mono ?_; rintro e w4 ⟨rfl, hI4, hB4, hq4⟩; have hK4 : KeepBut w2 w4 g none := KeepBut.trans HK3.out hq4 (.inl rfl); have HI4 := am hI4; have HK4 := am hK4; have hS4 : w4.cell? ⟨gf, i.toNat * 2, none⟩ = some (.slice (some ⟨gi, 0, none⟩) nn ci) ∧ Below w0.heap.size w0 w4 ∧ KeepBut w w4 g none := ⟨keep_cell hK4 hSS.1 hgfg, hB4, KeepBut.trans HK.out hK4 (.inl rfl)⟩; clear hI4 hq4 hB4 hK4)
   | (go_at_call 24; have _hg := HI.out; clear _hg; refine (spec_l6Rd_pick.calls k g s0_0 p2 (fl.length : Int) i p3 w0 _ (by first | (with_reducible exact HI.out) | (with_reducible exact IsS65.drewN HI.out _) | (with_reducible exact IsS65.drew HI.out)) (by first | (with_reducible exact hSS.2.1) | (with_reducible exact pw_below_drewN hSS.2.1 _) | (with_reducible exact below_drew hSS.2.1)) h3).mono ?_; rintro e w3 ⟨rfl, hI3, hB3, hq3⟩; have hK3 : KeepBut w2 w3 g none := hq3; have HI3 := am hI3; have HK3 := am hK3; have hS3 : w3.cell? ⟨gf, i.toNat * 2, none⟩ = some (.slice (some ⟨gi, 0, none⟩) nn ci) ∧ Below w0.heap.size w0 w3 ∧ KeepBut w w3 g none := ⟨keep_cell hK3 hSS.1 hgfg, hB3, KeepBut.trans HK.out hK3 (.inl rfl)⟩; clear hI3 hq3 hB3 hK3)
   | fail)
 have hS6w := (show (((((w6.setCell ⟨gi, j.toNat * 5, none⟩ (.int .i64 st)).setCell ⟨gi, j.toNat * 5 + 1, none⟩ (.int .i64 r0)).setCell ⟨gi, j.toNat * 5 + 2, none⟩ (.int .i64 r1)).setCell ⟨gi, j.toNat * 5 + 3, none⟩ (.int .i64 r2)).setCell ⟨gi, j.toNat * 5 + 4, none⟩ (.int .i64 r3)).cell? ⟨gf, i.toNat * 2, none⟩ = some (.slice (some ⟨gi, 0, none⟩) nn ci) ∧ Below w0.heap.size w0 (((((w6.setCell ⟨gi, j.toNat * 5, none⟩ (.int .i64 st)).setCell ⟨gi, j.toNat * 5 + 1, none⟩ (.int .i64 r0)).setCell ⟨gi, j.toNat * 5 + 2, none⟩ (.int .i64 r1)).setCell ⟨gi, j.toNat * 5 + 3, none⟩ (.int .i64 r2)).setCell ⟨gi, j.toNat * 5 + 4, none⟩ (.int .i64 r3)) ∧ KeepBut w (((((w6.setCell ⟨gi, j.toNat * 5, none⟩ (.int .i64 st)).setCell ⟨gi, j.toNat * 5 + 1, none⟩ (.int .i64 r0)).setCell ⟨gi, j.toNat * 5 + 2, none⟩ (.int .i64 r1)).setCell ⟨gi, j.toNat * 5 + 3, none⟩ (.int .i64 r2)).setCell ⟨gi, j.toNat * 5 + 4, none⟩ (.int .i64 r3)) g none from by with_reducible assumption)
 have hst := S_pageD (Kd.S_keep HS.out HK6.out (fun k_ hk => by have := hk.1; have := HGL.out; omega)) i hi0 hi1 hS6.1 j hj0 hj1 (⟨st, ⟨r0, r1, r2, r3⟩⟩ : S30)
 have hgne : g ≠ gi := fun h => hgig h.symm
 have hI7 := IsS65.far (p := ⟨gi, j.toNat * 5 + 4, none⟩) (IsS65.far (p := ⟨gi, j.toNat * 5 + 3, none⟩) (IsS65.far (p := ⟨gi, j.toNat * 5 + 2, none⟩) (IsS65.far (p := ⟨gi, j.toNat * 5 + 1, none⟩) (IsS65.far (p := ⟨gi, j.toNat * 5, none⟩) HI6.out hgne (.int .i64 st)) hgne (.int .i64 r0)) hgne (.int .i64 r1)) hgne (.int .i64 r2)) hgne (.int .i64 r3)
 have HR := am (And.intro hS6w (And.intro hst hI7))
 clear hS6w hst hI7 hSS hS3 hS4 hS5 hS6 d0 d1 d2 d3 d4 f0 f1 f2 f3 f4 h1 h2 h3 h4 h5 h6 hd1 hd3 HS HI HI3 HI4 HI5 HI6 HK3 HK4 HK5 HK6 HD HBI
 go_wp2
 go_ret
 exact ⟨_, rfl, Kd.S_V (Kd.S_mono HR.out.2.1 (fun _ hk => hk.1)), HR.out.2.2, HR.out.1.2⟩
def spec_l71Flash.g (k : Nat) (s0_0 : List Int) (fl : List S33) (q p2 : Int) : Option (List S33 × Int) :=
 if q = 0 then (spec_l6Rd_pick.f k s0_0 p2 (fl.length : Int)).bind fun b3 => (spec_l6Rd_pick.f k s0_0 b3.2 4).bind fun b4 => (spec_l6Rd_pick.f k s0_0 b4.2 4).bind fun b5 => (spec_l71Rec.f k s0_0 b5.2).bind fun b6 =>
  if 0 ≤ b3.1 ∧ b3.1 < (fl.length : Int) ∧ 0 ≤ b4.1 ∧ b4.1 < ((rd_T33 fl b3.1).f0.length : Int) then some (fl.set b3.1.toNat (⟨(rd_T33 fl b3.1).f0.set b4.1.toNat ⟨b5.1, ⟨b6.1, b6.2.1, b6.2.2.1, b6.2.2.2.1⟩⟩, (rd_T33 fl b3.1).f1⟩ : S33), b6.2.2.2.2) else none
 else if q = 1 then (spec_l6Rd_pick.f k s0_0 p2 (fl.length : Int)).bind fun b3 => (spec_l6Rd_pick.f k s0_0 b3.2 3).bind fun b4 =>
  if 0 ≤ b3.1 ∧ b3.1 < (fl.length : Int) ∧ 0 ≤ b4.1 ∧ b4.1 < 3 then some (fl.set b3.1.toNat (⟨(rd_T33 fl b3.1).f0, rd [-1, 200, 201] b4.1⟩ : S33), b4.2) else none
 else if q = 2 then (if 1 ≤ fl.length then some (fl.tail, p2) else none)
 else if q = 3 then (spec_l6Rd_pick.f k s0_0 p2 (fl.length : Int)).bind fun b3 =>
  if 0 ≤ b3.1 ∧ b3.1 < (fl.length : Int) ∧ 1 ≤ (rd_T33 fl b3.1).f0.length then some (fl.set b3.1.toNat (⟨(rd_T33 fl b3.1).f0.tail, (rd_T33 fl b3.1).f1⟩ : S33), b3.2) else none
 else some (fl, p2)
def spec_l71Flash.f (k : Nat) (s0_0 : List Int) (s0_1 : Int) : Option (List S33 × Int) :=
 (spec_l71Play.f k s0_0 s0_1).bind fun b1 => (spec_l6Rd_pick.f k s0_0 b1.2.2.2 20).bind fun b2 => spec_l71Flash.g k s0_0 b1.2.1 b2.1 b2.2
theorem spec_l71Flash.mono : ∀ a0 a1 k, LeO (spec_l71Flash.f k a0 a1) (spec_l71Flash.f (k + 1) a0 a1) := by
 intro a0 a1 k
 unfold spec_l71Flash.f
 refine LeO.bind (spec_l71Play.mono _ _ _) (fun b1 => LeO.bind (spec_l6Rd_pick.mono _ _ _ _) (fun b2 => ?_))
 unfold spec_l71Flash.g
 repeat' first
 | (with_reducible exact LeO.refl _)
 | (with_reducible exact spec_l6Rd_pick.mono _ _ _ _)
 | (with_reducible exact spec_l71Rec.mono _ _ _)
 | (with_reducible refine LeO.bind ?_ (fun _ => ?_))
 | (with_reducible refine LeO.ite ?_ ?_)
theorem spec_l71Flash.calls (k : Nat) (g : Nat) (s0_0 : List Int) (s0_1 : Int) (r1 : List (S33)) (r2 : Int) (w0 w : World) (hI : IsS65 w0 w g s0_0 s0_1) (hB : Below w0.heap.size w0 w) (h : spec_l71Flash.f k s0_0 s0_1 = some (r1, r2)) :
 Calls Try.prog 10 #[.pointer (some ⟨g, 0, none⟩)] w fun e w' => ∃ v0_ : Value, e = .returned v0_ ∧ Kd.V k33 33 w' w.heap.size (fun k_ => w.heap.size ≤ k_) v0_ r1 ∧ IsS65 w0 w' g s0_0 r2 ∧ Below w0.heap.size w0 w' ∧ KeepBut w w' g none := by
 unfold spec_l71Flash.f at h
 obtain ⟨⟨ev, fl, dk, p1⟩, h1, h⟩ := Option.bind_eq_some_iff.1 h
 obtain ⟨⟨q, p2⟩, h2, h⟩ := Option.bind_eq_some_iff.1 h
 replace h : spec_l71Flash.g k s0_0 fl q p2 = some (r1, r2) := h
 unfold spec_l71Flash.g at h
 by_cases n0 : q = 0
 · rw [if_pos n0] at h
   obtain ⟨⟨i, p3⟩, h3, h⟩ := Option.bind_eq_some_iff.1 h
   obtain ⟨⟨j, p4⟩, h4, h⟩ := Option.bind_eq_some_iff.1 h
   obtain ⟨⟨st, p5⟩, h5, h⟩ := Option.bind_eq_some_iff.1 h
   obtain ⟨⟨r0, ra, rb, rc, p6⟩, h6, h⟩ := Option.bind_eq_some_iff.1 h
   obtain ⟨⟨hi0, hi1, hj0, hj1⟩, h⟩ := ite_some h
   have e := Prod.mk.inj (Option.some.inj h)
   rw [← e.1, ← e.2]
   exact spec_l71Flash.c0 k g s0_0 s0_1 ev fl dk p1 q p2 i p3 j p4 st p5 r0 ra rb rc p6 w0 w hI hB h1 h2 n0 h3 hi0 hi1 h4 hj0 hj1 h5 h6
 rw [if_neg n0] at h
 by_cases n1 : q = 1
 · rw [if_pos n1] at h
   obtain ⟨⟨i, p3⟩, h3, h⟩ := Option.bind_eq_some_iff.1 h
   obtain ⟨⟨j, p4⟩, h4, h⟩ := Option.bind_eq_some_iff.1 h
   obtain ⟨⟨hi0, hi1, hj0, hj1⟩, h⟩ := ite_some h
   have e := Prod.mk.inj (Option.some.inj h)
   rw [← e.1, ← e.2]
   exact spec_l71Flash.c1 k g s0_0 s0_1 ev fl dk p1 q p2 i p3 j p4 w0 w hI hB h1 h2 n1 h3 hi0 hi1 h4 hj0 hj1
 rw [if_neg n1] at h
 by_cases n2 : q = 2
 · rw [if_pos n2] at h
   obtain ⟨hl, h⟩ := ite_some h
   have e := Prod.mk.inj (Option.some.inj h)
   rw [← e.1, ← e.2]
   exact spec_l71Flash.c2 k g s0_0 s0_1 ev fl dk p1 q p2 w0 w hI hB h1 h2 n2 hl
 rw [if_neg n2] at h
 by_cases n3 : q = 3
 · rw [if_pos n3] at h
   obtain ⟨⟨i, p3⟩, h3, h⟩ := Option.bind_eq_some_iff.1 h
   obtain ⟨⟨hi0, hi1, hp⟩, h⟩ := ite_some h
   have e := Prod.mk.inj (Option.some.inj h)
   rw [← e.1, ← e.2]
   exact spec_l71Flash.c3 k g s0_0 s0_1 ev fl dk p1 q p2 i p3 w0 w hI hB h1 h2 n3 h3 hi0 hi1 hp
 rw [if_neg n3] at h
 have e := Prod.mk.inj (Option.some.inj h)
 rw [← e.1, ← e.2]
 exact spec_l71Flash.c4 k g s0_0 s0_1 ev fl dk p1 q p2 w0 w hI hB h1 h2 n0 n1 n2 n3
def spec_l6Open.f (l0 : List Int) : Option (List Int × Int) := if (l0.length : Int) > 2000 then (if 2000 ≤ (l0.length : Int) then (some (l0.take 2000, 0)) else (none)) else (some (l0, 0))
set_option maxHeartbeats 8000000 in
set_option maxRecDepth 100000 in
theorem spec_l6Open.calls (A0 : Option Addr) (c0 : Nat) (l0 : List Int) (r1 : List Int) (r2 : Int) (w0 w : World) (hB : Below w0.heap.size w0 w) (hr0 : Kd.C (Kd.int .u8) w0 A0 l0.length l0) (hc0 : l0.length ≤ c0) (h : spec_l6Open.f l0 = some (r1, r2)) :
 Calls Try.prog 11 #[.slice A0 l0.length c0] w fun e w' => ∃ g_ : Nat, e = .returned (.pointer (some ⟨g_, 0, none⟩)) ∧ IsS65 w0 w' g_ r1 r2 ∧ Below w0.heap.size w0 w' ∧ Below w.heap.size w w' := by
 have hu65 := Try.underlying65
 have HR0 := am hr0
 have HC0 := am hc0
 clear hr0 hc0
 have HBW := am (Below.refl w.heap.size w)
 have HW0 := am hB.size
 have HB := am hB
 clear hB
 have H : (if (l0.length : Int) > 2000 then (if 2000 ≤ (l0.length : Int) then (some (l0.take 2000, 0)) else (none)) else (some (l0, 0))) = some (r1, r2) := h
 clear h
 by_cases c2 : (l0.length : Int) > 2000
 rotate_left
 · rw [if_neg c2] at H
   have c2b0 := decide_eq_false c2
   have c2b1 : decide (2000 < l0.length) = false := decide_eq_false (by omega)
   clear c2
   simp only [Option.some.injEq, Prod.mk.injEq] at H
   obtain ⟨rfl, rfl⟩ := H
   go_enter Try.func11, Try.ntmps11
   go_wp2_with (first | (refine bx 10 #[.slice A0 l0.length c0, .int .i64 0] 65 rfl ?_; intro gb354 hg w6 hbox hb; replace HB := am (below_step (ph HB.out) hb); have BK354 := am (hbox); have GW354 := am ((by rw [hg]; exact (below_size (by repeat (first | (with_reducible first | exact HBW.out | apply below_alloc | apply pw_below_drewN | apply below_drew1) | exact HBW.out))) : w.heap.size ≤ gb354)); have GE354 := am ((Nat.le_trans HW0.out (by rw [hg]; exact (below_size (by repeat (first | (with_reducible first | exact HBW.out | apply below_alloc | apply pw_below_drewN | apply below_drew1) | exact HBW.out))) : w.heap.size ≤ gb354) : w0.heap.size ≤ gb354)); replace HBW := am (below_step HBW.out hb); clear hb hbox hg))
   go_ret
   exact ⟨_, rfl, (show IsS65 w0 _ gb354 l0 0 from ⟨_, _, pb BK354.out, GE354.out, HR0.out⟩), bg1 HB.out GE354.out, by repeat (first | (with_reducible first | exact HBW.out | apply below_alloc | apply pw_below_drewN | apply below_drew1 | refine below_set ?_ GW354.out) | exact HBW.out)⟩
 rw [if_pos c2] at H
 have c2b0 := decide_eq_true c2
 have c2b1 : decide (2000 < l0.length) = true := decide_eq_true (by omega)
 clear c2
 by_cases c3 : 2000 ≤ (l0.length : Int)
 rotate_left
 · rw [if_neg c3] at H
   exact absurd H (by simp)
 rw [if_pos c3] at H
 have c3b0 := eq_true c3
 have c3b1 := decide_eq_true c3
 clear c3
 simp only [Option.some.injEq, Prod.mk.injEq] at H
 obtain ⟨rfl, rfl⟩ := H
 obtain ⟨i04, hi04, _, hsz4, _⟩ := info_parts info5
 obtain ⟨hcut4, hA4, hC4⟩ := print_take_of (P := Try.prog) (Value.int .u8) 0 22 5 .i64 Try.underlying22 hi04 hsz4 A0 c0 l0 2000 (by omega) (ofb) HC0.out
 have HR352 := am (Kd.C_of_reads (h1 := fun _ => rfl) (hA4 _ (Kd.reads_of_C HR0.out)))
 have HC352 := am hC4
 clear hA4 hC4 hi04 hsz4
 go_enter Try.func11, Try.ntmps11
 go_wp2_with (first | (refine bx 10 #[.slice A0 (l0.take 2000).length c0, .int .i64 0] 65 rfl ?_; intro gb353 hg w5 hbox hb; replace HB := am (below_step (ph HB.out) hb); have BK353 := am (hbox); have GW353 := am ((by rw [hg]; exact (below_size (by repeat (first | (with_reducible first | exact HBW.out | apply below_alloc | apply pw_below_drewN | apply below_drew1) | exact HBW.out))) : w.heap.size ≤ gb353)); have GE353 := am ((Nat.le_trans HW0.out (by rw [hg]; exact (below_size (by repeat (first | (with_reducible first | exact HBW.out | apply below_alloc | apply pw_below_drewN | apply below_drew1) | exact HBW.out))) : w.heap.size ≤ gb353) : w0.heap.size ≤ gb353)); replace HBW := am (below_step HBW.out hb); clear hb hbox hg))
 go_ret
 exact ⟨_, rfl, (show IsS65 w0 _ gb353 (l0.take 2000) 0 from ⟨_, _, pb BK353.out, GE353.out, HR352.out⟩), bg1 HB.out GE353.out, by repeat (first | (with_reducible first | exact HBW.out | apply below_alloc | apply pw_below_drewN | apply below_drew1 | refine below_set ?_ GW353.out) | exact HBW.out)⟩
def spec_DrawFindNext.f (k : Nat) (l0 : List Int) : Option ((List (S33))) := (spec_l6Open.f l0).bind fun bt355 => ((spec_l71Flash.f k bt355.1 bt355.2).bind fun bt358 => (some bt358.1))
theorem spec_DrawFindNext.mono : ∀ a0 k, LeO (spec_DrawFindNext.f k a0) (spec_DrawFindNext.f (k + 1) a0) := by
 intro a0 k
 unfold spec_DrawFindNext.f
 repeat' first
  | (with_reducible exact spec_l71Flash.mono _ _ _)
  | (with_reducible exact LeO.refl _)
  | (with_reducible exact LeO.none _)
  | (with_reducible refine LeO.ite ?_ ?_)
  | (with_reducible refine LeO.bind ?_ (fun _ => ?_))
  | exact spec_l71Flash.mono _ _ _
  | exact LeO.none _
  | refine LeO.ite ?_ ?_
  | refine LeO.bind ?_ (fun _ => ?_)
set_option maxHeartbeats 8000000 in
set_option maxRecDepth 100000 in
theorem spec_DrawFindNext.calls (k : Nat) (A0 : Option Addr) (c0 : Nat) (l0 : List Int) (r : List (S33)) (w : World) (hr0 : Kd.C (Kd.int .u8) w A0 l0.length l0) (hc0 : l0.length ≤ c0) (h : spec_DrawFindNext.f k l0 = some r) :
 Calls Try.prog 4 #[.slice A0 l0.length c0] w fun e w' => ∃ v0_ : Value, e = .returned (v0_) ∧ Kd.V k33 33 w' w.heap.size (fun k_ => (w.heap.size ≤ k_)) v0_ r ∧ Below w.heap.size w w' := by
 have HR0 := am hr0
 have HC0 := am hc0
 clear hr0 hc0
 have HB := am (Below.refl w.heap.size w)
 have H : ((spec_l6Open.f l0).bind fun bt355 => ((spec_l71Flash.f k bt355.1 bt355.2).bind fun bt358 => (some bt358.1))) = some r := h
 clear h
 replace H := Option.bind_eq_some_iff.mp H
 obtain ⟨⟨t355, t356⟩, A20, H⟩ := H
 replace H : ((spec_l71Flash.f k t355 t356).bind fun bt358 => (some bt358.1)) = some r := H
 have A2 := am A20
 clear A20
 replace H := Option.bind_eq_some_iff.mp H
 obtain ⟨⟨t358, t361⟩, A30, H⟩ := H
 replace H : (some t358) = some r := H
 have A3 := am A30
 clear A30
 obtain rfl := Option.some.inj H
 go_enter Try.func4, Try.ntmps4
 go_wp2_with (first | (refine gl 4 Try.func11 #[.slice A0 l0.length c0] rfl ?_; (with_reducible refine (spec_l6Open.calls _ _ l0 t355 t356 w _ ?side1 ?side2 ?side3 A2.out).mono ?_); (case side1 => repeat (first | (with_reducible first | exact HB.out | apply below_alloc | apply pw_below_drewN | apply below_drew1) | exact HB.out)); (case side2 => exact HR0.out); (case side3 => exact HC0.out); rintro e w4 ⟨g357, rfl, hi, hb, hb2⟩; refine ⟨_, rfl, ?_⟩; replace HB := am (hb); have HI357 := am (hi); (try clear hb); (try clear hb2); (try clear hk); (try clear hi)) | (refine gl 5 Try.func10 #[.pointer (some ⟨g357, 0, none⟩)] rfl ?_; (with_reducible refine (spec_l71Flash.calls k g357 t355 t356 t358 t361 w _ ?side1 ?side2 A3.out).mono ?_); (case side1 => repeat (first | (with_reducible first | exact HI357.out | apply IsS65.alloc | apply IsS65.drewN | apply IsS65.drew | apply IsS65.set_1) | exact HI357.out)); (case side2 => repeat (first | (with_reducible first | exact HB.out | apply below_alloc | apply pw_below_drewN | apply below_drew1 | refine below_set ?_ (IsS65.ge HI357.out)) | exact HB.out)); rintro e w5 ⟨v359, rfl, ho0, hi, hb, hk⟩; refine ⟨_, rfl, ?_⟩; have HO360 := am (Kd.V_lower (Kd.V_mono (ok' := fun k_ => (w.heap.size ≤ k_) ∧ k_ ≠ g357) ho0 (fun k_ hk_ => ⟨(Nat.le_trans (below_size (by repeat (first | (with_reducible first | exact HB.out | apply below_alloc | apply pw_below_drewN | apply below_drew1 | refine below_set ?_ (IsS65.ge HI357.out)) | exact HB.out))) hk_), (IsS65.fresh (by repeat (first | (with_reducible first | exact HI357.out | apply IsS65.alloc | apply IsS65.drewN | apply IsS65.drew | apply IsS65.set_1) | exact HI357.out)) k_ hk_)⟩)) (below_size (by repeat (first | (with_reducible first | exact HB.out | apply below_alloc | apply pw_below_drewN | apply below_drew1 | refine below_set ?_ (IsS65.ge HI357.out)) | exact HB.out)))); replace HB := am (hb); replace HI357 := am (hi); (try clear hb); (try clear hb2); (try clear hk); (try clear hi); (try clear ho0)))
 go_ret
 exact ⟨_, rq ⟨by (with_reducible repeat (first | apply Kd.V_alloc | apply Kd.V_drewN | apply Kd.V_drew)); exact Kd.V_mono HO360.out (fun _ hk => hk.1), by repeat (first | (with_reducible first | exact HB.out | apply below_alloc | apply pw_below_drewN | apply below_drew1 | refine below_set ?_ (IsS65.ge HI357.out)) | exact HB.out)⟩⟩
mutual
def impl_blockShape.j0 : Nat → Bool → List (S30) → Int → Option (Bool)
 | 0, _, _, _ => none
 | k + 1, x19, x363000, x363001 => if x19 = true then (some false) else (impl_blockShape.l0 k false x363000 (x363000.length : Int) 0)
def impl_blockShape.l0 : Nat → Bool → List (S30) → Int → Int → Option (Bool)
 | 0, _, _, _, _ => none
 | k + 1, x3, x21, x22, x23 => if x23 < x22 then (if 0 ≤ x23 then (if x23 < (x21.length : Int) then (if x3 = true then (if ((rd_T30 x21 x23).f0) = 0 then (impl_blockShape.l0 k (((rd_T30 x21 x23).f0) == 0) x21 x22 (wrap64 (x23 + 1))) else (some false)) else (impl_blockShape.l0 k (((rd_T30 x21 x23).f0) == 0) x21 x22 (wrap64 (x23 + 1)))) else (none)) else (none)) else (some true)
end
def impl_blockShape.f (k : Nat) (l0_0 : List (S30)) (a0_1 : Int) : Option (Bool) := if (l0_0.length : Int) = 4 then (if a0_1 < 0 then (impl_blockShape.j0 k true l0_0 a0_1) else (impl_blockShape.j0 k (decide (a0_1 > 200)) l0_0 a0_1)) else (impl_blockShape.j0 k true l0_0 a0_1)
theorem impl_blockShape.mono_l : ∀ k, (∀ y0 y1 y2, LeO (impl_blockShape.j0 k y0 y1 y2) (impl_blockShape.j0 (k + 1) y0 y1 y2)) ∧ (∀ y0 y1 y2 y3, LeO (impl_blockShape.l0 k y0 y1 y2 y3) (impl_blockShape.l0 (k + 1) y0 y1 y2 y3))
 | 0 => ⟨fun _ _ _ r h => by simp [impl_blockShape.j0] at h, fun _ _ _ _ r h => by simp [impl_blockShape.l0] at h⟩
 | k + 1 => by
  obtain ⟨ih0, ih1⟩ := impl_blockShape.mono_l k
  refine ⟨?_, ?_⟩
  · intro y0 y1 y2
    unfold impl_blockShape.j0
    repeat' first
    | (with_reducible exact ih0 _ _ _)
    | (with_reducible exact ih1 _ _ _ _)
    | (with_reducible exact LeO.refl _)
    | (with_reducible exact LeO.none _)
    | (with_reducible refine LeO.ite ?_ ?_)
    | (with_reducible refine LeO.bind ?_ (fun _ => ?_))
    | exact ih0 _ _ _
    | exact ih1 _ _ _ _
    | exact LeO.none _
    | refine LeO.ite ?_ ?_
    | refine LeO.bind ?_ (fun _ => ?_)
  · intro y0 y1 y2 y3
    unfold impl_blockShape.l0
    repeat' first
    | (with_reducible exact ih0 _ _ _)
    | (with_reducible exact ih1 _ _ _ _)
    | (with_reducible exact LeO.refl _)
    | (with_reducible exact LeO.none _)
    | (with_reducible refine LeO.ite ?_ ?_)
    | (with_reducible refine LeO.bind ?_ (fun _ => ?_))
    | exact ih0 _ _ _
    | exact ih1 _ _ _ _
    | exact LeO.none _
    | refine LeO.ite ?_ ?_
    | refine LeO.bind ?_ (fun _ => ?_)
theorem impl_blockShape.mono : ∀ a0 a1 k, LeO (impl_blockShape.f k a0 a1) (impl_blockShape.f (k + 1) a0 a1) := by
 intro a0 a1 k
 obtain ⟨ih0, ih1⟩ := impl_blockShape.mono_l k
 unfold impl_blockShape.f
 repeat' first
  | (with_reducible exact ih0 _ _ _)
  | (with_reducible exact ih1 _ _ _ _)
  | (with_reducible exact LeO.refl _)
  | (with_reducible exact LeO.none _)
  | (with_reducible refine LeO.ite ?_ ?_)
  | (with_reducible refine LeO.bind ?_ (fun _ => ?_))
  | exact ih0 _ _ _
  | exact ih1 _ _ _ _
  | exact LeO.none _
  | refine LeO.ite ?_ ?_
  | refine LeO.bind ?_ (fun _ => ?_)
set_option maxHeartbeats 8000000 in
set_option maxRecDepth 100000 in
theorem impl_blockShape.calls (k : Nat) (A0_0 : Option Addr) (c0_0 : Nat) (l0_0 : List (S30)) (a0_1 : Int) (r : Bool) (w : World) (hr0_0 : Kd.C k30 w A0_0 l0_0.length l0_0) (hc0_0 : l0_0.length ≤ c0_0) (h : impl_blockShape.f k l0_0 a0_1 = some r) :
 Calls Try.prog 26 #[.agg #[.slice A0_0 l0_0.length c0_0, .int .i64 a0_1]] w fun e w' => e = .returned (.bool r) ∧ Below w.heap.size w w' := by
 have hu33 := Try.underlying33
 have hu30 := Try.underlying30
 have HR0_0 := am hr0_0
 have HC0_0 := am hc0_0
 clear hr0_0 hc0_0
 have HB := am (Below.refl w.heap.size w)
 have H : (if (l0_0.length : Int) = 4 then (if a0_1 < 0 then (impl_blockShape.j0 k true l0_0 a0_1) else (impl_blockShape.j0 k (decide (a0_1 > 200)) l0_0 a0_1)) else (impl_blockShape.j0 k true l0_0 a0_1)) = some r := h
 clear h
 have HC2 := am H
 clear H
 go_enter Try.func26, Try.ntmps26
 go_upto_region 1 with (first | (refine bx 1 #[.slice A0_0 l0_0.length c0_0, .int .i64 a0_1] 33 rfl ?_; intro gb362 hg w3 hbox hb; have BK362 := am (hbox); have GW362 := am ((by rw [hg]; exact (below_size (ph HB.out)) : w.heap.size ≤ gb362)); have GE362 := GW362; replace HB := am (below_step (ph HB.out) hb); clear hb hbox hg))
 (try simp only [Act.put, List.setIfInBounds_toArray, List.set_cons_zero, List.set_cons_succ])
 go_cut [19] (fun v19 wc => ∃ (kq : Nat) (x19_1 : Bool), v19 = .bool x19_1 ∧ Aside0 (impl_blockShape.j0 kq x19_1 l0_0 a0_1 = some r) ∧ Aside0 (kq ≤ k) ∧ Aside0 (wc.heap[gb362]? = some (.cells #[(.slice A0_0 l0_0.length c0_0), .int .i64 a0_1] 33 (0, 0))) ∧ Aside0 (Below w.heap.size w wc))
 case first =>
  have H := HC2.out
  clear HC2
  by_cases c4 : (l0_0.length : Int) = 4
  rotate_left
  · rw [if_neg c4] at H
    have c4b0 : ((l0_0.length : Int) == 4) = false := beq_eq_false_iff_ne.mpr c4
    have c4b1 : ((l0_0.length : Int) != 4) = true := bne_iff_ne.mpr c4
    (first | rw [c4b0] | (simp only [i64_w, i32_w]; rw [c4b0]) | skip)
    have H' := am H
    clear H
    obtain ⟨hcz8_0, hcz8_1⟩ := b2 BK362.out
    obtain ⟨hfz8_0, hfz8_1⟩ := f2 BK362.out
    go_wp2
    go_meet
    case rel => exact ⟨_, (true), rf, H', ⟨by first | omega | exact Nat.le_refl _⟩, ⟨pb BK362.out⟩, ⟨bg1 HB.out GE362.out⟩⟩
  rw [if_pos c4] at H
  have c4b0 : ((l0_0.length : Int) == 4) = true := beq_iff_eq.mpr c4
  have c4b1 : ((l0_0.length : Int) != 4) = false := bne_eq_false_iff_eq.mpr c4
  clear c4
  (first | rw [c4b0] | (simp only [i64_w, i32_w]; rw [c4b0]) | skip)
  by_cases c5 : a0_1 < 0
  · rw [if_pos c5] at H
    have c5b0 := decide_eq_true c5
    clear c5
    have H' := am H
    clear H
    obtain ⟨hcz6_0, hcz6_1⟩ := b2 BK362.out
    obtain ⟨hfz6_0, hfz6_1⟩ := f2 BK362.out
    go_wp2
    go_meet
    case rel => exact ⟨_, (true), rf, H', ⟨by first | omega | exact Nat.le_refl _⟩, ⟨pb BK362.out⟩, ⟨bg1 HB.out GE362.out⟩⟩
  rw [if_neg c5] at H
  have c5b0 := decide_eq_false c5
  clear c5
  have H' := am H
  clear H
  obtain ⟨hcz7_0, hcz7_1⟩ := b2 BK362.out
  obtain ⟨hfz7_0, hfz7_1⟩ := f2 BK362.out
  go_wp2
  go_meet
  case rel => exact ⟨_, (decide (a0_1 > 200)), rf, H', ⟨by first | omega | exact Nat.le_refl _⟩, ⟨pb BK362.out⟩, ⟨bg1 HB.out GE362.out⟩⟩
 case rest =>
  clear HC2
  obtain ⟨kq, x19_1, rfl, HA, HJ1, BK362, HB⟩ := hcut
  cases kq with
  | zero => exact absurd HA.out (by simp [impl_blockShape.j0])
  | succ kj1 =>
   have H := HA.out
   clear HA
   simp only [impl_blockShape.j0] at H
   by_cases c9 : x19_1 = true
   · subst c9
     have H1 : (some false) = some r := by rw [if_pos rfl] at H; exact H
     clear H
     have H := H1
     clear H1
     obtain rfl := Option.some.inj H
     go_wp2
     go_ret
     exact (rq (bg1 HB.out GE362.out))
   replace c9 := Bool.eq_false_iff.mpr c9
   subst c9
   have H1 : (impl_blockShape.l0 kj1 false l0_0 (l0_0.length : Int) 0) = some r := by rw [if_neg (show ¬ (false = true) by decide)] at H; exact H
   clear H
   have H := H1
   clear H1
   have H' := am H
   clear H
   obtain ⟨hcz10_0, hcz10_1⟩ := b2 BK362.out
   obtain ⟨hfz10_0, hfz10_1⟩ := f2 BK362.out
   go_wp2
   go_loopg [3, 23] kj1 (fun kq v3 v23 w' => ∃ (x3_2 : Bool) (x23_2 : Int), v3 = .bool x3_2 ∧ v23 = .int .i64 x23_2 ∧ Aside0 (impl_blockShape.l0 kq x3_2 l0_0 (l0_0.length : Int) x23_2 = some r) ∧ Aside0 (kq ≤ kj1) ∧ Aside0 (w'.heap[gb362]? = some (.cells #[(.slice A0_0 l0_0.length c0_0), .int .i64 a0_1] 33 (0, 0))) ∧ Aside0 (Below w.heap.size w w'))
   case atStart => exact ⟨(false), (0), rf, rf, H', ⟨Nat.le_refl _⟩, ⟨pb BK362.out⟩, ⟨bg1 HB.out GE362.out⟩⟩
   case round =>
    clear H'
    obtain ⟨x3_2, x23_2, rfl, rfl, HA, HK2, BK362, HB⟩ := hrel
    cases gk with
    | zero => exact absurd HA.out (by simp [impl_blockShape.l0])
    | succ k2 =>
     have H := HA.out
     clear HA
     simp only [impl_blockShape.l0] at H
     by_cases c11 : x23_2 < (l0_0.length : Int)
     rotate_left
     · rw [if_neg c11] at H
       have c11b0 := decide_eq_false c11
       clear c11
       obtain rfl := Option.some.inj H
       go_wp2
       go_ret
       exact (rq (bg1 HB.out GE362.out))
     rw [if_pos c11] at H
     have c11b0 := decide_eq_true c11
     clear c11
     by_cases c12 : 0 ≤ x23_2
     rotate_left
     · rw [if_neg c12] at H
       exact absurd H (by simp)
     rw [if_pos c12] at H
     have c12b0 := decide_eq_true c12
     clear c12
     by_cases c13 : x23_2 < (l0_0.length : Int)
     rotate_left
     · rw [if_neg c13] at H
       exact absurd H (by simp)
     rw [if_pos c13] at H
     have c13b0 := decide_eq_true c13
     clear c13
     by_cases c14 : x3_2 = true
     rotate_left
     · replace c14 := Bool.eq_false_iff.mpr c14
       subst c14
       have H1 : (impl_blockShape.l0 k2 (((rd_T30 l0_0 x23_2).f0) == 0) l0_0 (l0_0.length : Int) (wrap64 (x23_2 + 1))) = some r := by rw [if_neg (show ¬ (false = true) by decide)] at H; exact H
       clear H
       have H := H1
       clear H1
       have H' := am H
       clear H
       have p363 : 0 ≤ (x23_2 : Int) := ofb
       have q363 : x23_2 < (l0_0.length : Int) := ofb
       obtain ⟨ad363, e363, hx363_0, hx363_1, hx363_2, hx363_3, hx363_4⟩ := at_T30 HR0_0.out x23_2 p363 q363
       cases e363
       replace hx363_0 := up HB.out hx363_0
       replace hx363_1 := up HB.out hx363_1
       replace hx363_2 := up HB.out hx363_2
       replace hx363_3 := up HB.out hx363_3
       replace hx363_4 := up HB.out hx363_4
       replace p363 := eq_true p363
       replace q363 := eq_true q363
       go_wp2_with (first | (refine bx 5 #[.int .i64 0, .int .i64 0, .int .i64 0, .int .i64 0, .int .i64 0] 30 rfl ?_; intro gb364 hg w22 hbox hb; have BK364 := am (hbox); have GW364 := am ((by rw [hg]; exact (below_size (bg1 HB.out GE362.out)) : w.heap.size ≤ gb364)); have GE364 := GW364; replace HB := am (below_step (bg1 HB.out GE362.out) hb); have NB362_364 := am ((by rw [hg]; exact Nat.ne_of_lt (blk_lt (pb BK362.out)) : gb362 ≠ gb364)); have NB364_362 := am (Ne.symm NB362_364.out); replace BK362 := am (blk_below (pb BK362.out) hb); clear hb hbox hg; have hnb23 := NB364_362.out; have hnc23 := NB362_364.out; obtain ⟨hcz24_0, hcz24_1, hcz24_2, hcz24_3, hcz24_4⟩ := b5 BK364.out; obtain ⟨hfz24_0, hfz24_1, hfz24_2, hfz24_3, hfz24_4⟩ := f5 BK364.out))
       go_roundg k2
       case measure => have := HJ1.out; have := HK2.out; omega
       case rel => exact ⟨((((rd_T30 l0_0 x23_2).f0) == 0)), (wrap64 (x23_2 + 1)), rf, rf, H', ⟨by have := HJ1.out; have := HK2.out; omega⟩, ⟨by (with_reducible repeat (first | refine blk_drewN ?_ _ | refine blk_drew ?_ | refine blk_alloc ?_ _)); refine blk_far ?_ NB362_364.out _; (with_reducible repeat (first | refine blk_drewN ?_ _ | refine blk_drew ?_ | refine blk_alloc ?_ _)); refine blk_far ?_ NB362_364.out _; (with_reducible repeat (first | refine blk_drewN ?_ _ | refine blk_drew ?_ | refine blk_alloc ?_ _)); refine blk_far ?_ NB362_364.out _; (with_reducible repeat (first | refine blk_drewN ?_ _ | refine blk_drew ?_ | refine blk_alloc ?_ _)); refine blk_far ?_ NB362_364.out _; (with_reducible repeat (first | refine blk_drewN ?_ _ | refine blk_drew ?_ | refine blk_alloc ?_ _)); refine blk_far ?_ NB362_364.out _; (with_reducible repeat (first | refine blk_drewN ?_ _ | refine blk_drew ?_ | refine blk_alloc ?_ _)); exact BK362.out⟩, ⟨bg2 HB.out GE362.out GE364.out⟩⟩
     subst c14
     have H1 : (if ((rd_T30 l0_0 x23_2).f0) = 0 then (impl_blockShape.l0 k2 (((rd_T30 l0_0 x23_2).f0) == 0) l0_0 (l0_0.length : Int) (wrap64 (x23_2 + 1))) else (some false)) = some r := by rw [if_pos rfl] at H; exact H
     clear H
     have H := H1
     clear H1
     by_cases c15 : ((rd_T30 l0_0 x23_2).f0) = 0
     rotate_left
     · rw [if_neg c15] at H
       have c15b0 : (((rd_T30 l0_0 x23_2).f0) == 0) = false := beq_eq_false_iff_ne.mpr c15
       have c15b1 : (((rd_T30 l0_0 x23_2).f0) != 0) = true := bne_iff_ne.mpr c15
       obtain rfl := Option.some.inj H
       have p363 : 0 ≤ (x23_2 : Int) := ofb
       have q363 : x23_2 < (l0_0.length : Int) := ofb
       obtain ⟨ad363, e363, hx363_0, hx363_1, hx363_2, hx363_3, hx363_4⟩ := at_T30 HR0_0.out x23_2 p363 q363
       cases e363
       replace hx363_0 := up HB.out hx363_0
       replace hx363_1 := up HB.out hx363_1
       replace hx363_2 := up HB.out hx363_2
       replace hx363_3 := up HB.out hx363_3
       replace hx363_4 := up HB.out hx363_4
       replace p363 := eq_true p363
       replace q363 := eq_true q363
       go_wp2_with (first | (refine bx 5 #[.int .i64 0, .int .i64 0, .int .i64 0, .int .i64 0, .int .i64 0] 30 rfl ?_; intro gb364 hg w19 hbox hb; have BK364 := am (hbox); have GW364 := am ((by rw [hg]; exact (below_size (bg1 HB.out GE362.out)) : w.heap.size ≤ gb364)); have GE364 := GW364; replace HB := am (below_step (bg1 HB.out GE362.out) hb); have NB362_364 := am ((by rw [hg]; exact Nat.ne_of_lt (blk_lt (pb BK362.out)) : gb362 ≠ gb364)); have NB364_362 := am (Ne.symm NB362_364.out); replace BK362 := am (blk_below (pb BK362.out) hb); clear hb hbox hg; have hnb20 := NB364_362.out; have hnc20 := NB362_364.out; obtain ⟨hcz21_0, hcz21_1, hcz21_2, hcz21_3, hcz21_4⟩ := b5 BK364.out; obtain ⟨hfz21_0, hfz21_1, hfz21_2, hfz21_3, hfz21_4⟩ := f5 BK364.out))
       go_ret
       exact (rq (bg2 HB.out GE362.out GE364.out))
     rw [if_pos c15] at H
     have c15b0 : (((rd_T30 l0_0 x23_2).f0) == 0) = true := beq_iff_eq.mpr c15
     have c15b1 : (((rd_T30 l0_0 x23_2).f0) != 0) = false := bne_eq_false_iff_eq.mpr c15
     clear c15
     have H' := am H
     clear H
     have p363 : 0 ≤ (x23_2 : Int) := ofb
     have q363 : x23_2 < (l0_0.length : Int) := ofb
     obtain ⟨ad363, e363, hx363_0, hx363_1, hx363_2, hx363_3, hx363_4⟩ := at_T30 HR0_0.out x23_2 p363 q363
     cases e363
     replace hx363_0 := up HB.out hx363_0
     replace hx363_1 := up HB.out hx363_1
     replace hx363_2 := up HB.out hx363_2
     replace hx363_3 := up HB.out hx363_3
     replace hx363_4 := up HB.out hx363_4
     replace p363 := eq_true p363
     replace q363 := eq_true q363
     go_wp2_with (first | (refine bx 5 #[.int .i64 0, .int .i64 0, .int .i64 0, .int .i64 0, .int .i64 0] 30 rfl ?_; intro gb364 hg w16 hbox hb; have BK364 := am (hbox); have GW364 := am ((by rw [hg]; exact (below_size (bg1 HB.out GE362.out)) : w.heap.size ≤ gb364)); have GE364 := GW364; replace HB := am (below_step (bg1 HB.out GE362.out) hb); have NB362_364 := am ((by rw [hg]; exact Nat.ne_of_lt (blk_lt (pb BK362.out)) : gb362 ≠ gb364)); have NB364_362 := am (Ne.symm NB362_364.out); replace BK362 := am (blk_below (pb BK362.out) hb); clear hb hbox hg; have hnb17 := NB364_362.out; have hnc17 := NB362_364.out; obtain ⟨hcz18_0, hcz18_1, hcz18_2, hcz18_3, hcz18_4⟩ := b5 BK364.out; obtain ⟨hfz18_0, hfz18_1, hfz18_2, hfz18_3, hfz18_4⟩ := f5 BK364.out))
     go_roundg k2
     case measure => have := HJ1.out; have := HK2.out; omega
     case rel => exact ⟨((((rd_T30 l0_0 x23_2).f0) == 0)), (wrap64 (x23_2 + 1)), rf, rf, H', ⟨by have := HJ1.out; have := HK2.out; omega⟩, ⟨by (with_reducible repeat (first | refine blk_drewN ?_ _ | refine blk_drew ?_ | refine blk_alloc ?_ _)); refine blk_far ?_ NB362_364.out _; (with_reducible repeat (first | refine blk_drewN ?_ _ | refine blk_drew ?_ | refine blk_alloc ?_ _)); refine blk_far ?_ NB362_364.out _; (with_reducible repeat (first | refine blk_drewN ?_ _ | refine blk_drew ?_ | refine blk_alloc ?_ _)); refine blk_far ?_ NB362_364.out _; (with_reducible repeat (first | refine blk_drewN ?_ _ | refine blk_drew ?_ | refine blk_alloc ?_ _)); refine blk_far ?_ NB362_364.out _; (with_reducible repeat (first | refine blk_drewN ?_ _ | refine blk_drew ?_ | refine blk_alloc ?_ _)); refine blk_far ?_ NB362_364.out _; (with_reducible repeat (first | refine blk_drewN ?_ _ | refine blk_drew ?_ | refine blk_alloc ?_ _)); exact BK362.out⟩, ⟨bg2 HB.out GE362.out GE364.out⟩⟩
def impl_addrOk.f (a0 : Int) : Option (Bool) := if a0 ≥ 1 then (some (decide (a0 ≤ 6))) else (some false)
set_option maxHeartbeats 8000000 in
set_option maxRecDepth 100000 in
theorem impl_addrOk.calls (a0 : Int) (r : Bool) (w : World) (h : impl_addrOk.f a0 = some r) :
 Calls Try.prog 32 #[.int .i64 a0] w fun e w' => e = .returned (.bool r) ∧ Drawn0 w w' := by
 have H : (if a0 ≥ 1 then (some (decide (a0 ≤ 6))) else (some false)) = some r := h
 clear h
 by_cases c2 : a0 ≥ 1
 · rw [if_pos c2] at H
   have c2b0 := decide_eq_true c2
   clear c2
   obtain rfl := Option.some.inj H
   go_enter Try.func32, Try.ntmps32
   go_wp2
   go_ret
   exact ⟨by first | rfl | (simp; done) | (simp [*]; done), by repeat (first | exact Drawn0.refl _ | apply Drawn0.step)⟩
 rw [if_neg c2] at H
 have c2b0 := decide_eq_false c2
 clear c2
 obtain rfl := Option.some.inj H
 go_enter Try.func32, Try.ntmps32
 go_wp2
 go_ret
 exact ⟨by first | rfl | (simp; done) | (simp [*]; done), by repeat (first | exact Drawn0.refl _ | apply Drawn0.step)⟩
def impl_valOk.f (a0 : Int) : Option (Bool) := if a0 ≥ 0 then (some (decide (a0 ≤ 9))) else (some false)
set_option maxHeartbeats 8000000 in
set_option maxRecDepth 100000 in
theorem impl_valOk.calls (a0 : Int) (r : Bool) (w : World) (h : impl_valOk.f a0 = some r) :
 Calls Try.prog 33 #[.int .i64 a0] w fun e w' => e = .returned (.bool r) ∧ Drawn0 w w' := by
 have H : (if a0 ≥ 0 then (some (decide (a0 ≤ 9))) else (some false)) = some r := h
 clear h
 by_cases c2 : a0 ≥ 0
 · rw [if_pos c2] at H
   have c2b0 := decide_eq_true c2
   clear c2
   obtain rfl := Option.some.inj H
   go_enter Try.func33, Try.ntmps33
   go_wp2
   go_ret
   exact ⟨by first | rfl | (simp; done) | (simp [*]; done), by repeat (first | exact Drawn0.refl _ | apply Drawn0.step)⟩
 rw [if_neg c2] at H
 have c2b0 := decide_eq_false c2
 clear c2
 obtain rfl := Option.some.inj H
 go_enter Try.func33, Try.ntmps33
 go_wp2
 go_ret
 exact ⟨by first | rfl | (simp; done) | (simp [*]; done), by repeat (first | exact Drawn0.refl _ | apply Drawn0.step)⟩
def recOkB (a b c d : Int) : Bool := decide ((a = 1 ∨ a = 2) ∧ 1 ≤ b ∧ b ≤ 600 ∧ 1 ≤ c ∧ c ≤ 6 ∧ 0 ≤ d ∧ d ≤ 9)
def impl_RecOk.f (a0_0 : Int) (a0_1 : Int) (a0_2 : Int) (a0_3 : Int) : Option (Bool) := some (recOkB a0_0 a0_1 a0_2 a0_3)
theorem ret_bool {a b : Bool} (h : a = b) : Ending.returned (.bool a) = .returned (.bool b) := by rw [h]
def entryV (a b c d : Int) : Value := if a = 1 then .iface 78 (.agg #[.int .i64 a, .int .i64 b, .int .i64 c, .int .i64 d]) else if a = 2 then .iface 79 (.agg #[.int .i64 a, .int .i64 b, .int .i64 c, .int .i64 d]) else .nilIface
set_option maxHeartbeats 1000000 in
set_option maxRecDepth 100000 in
theorem entryOf_any (a b c d : Int) (w : World) :
 Calls Try.prog 31 #[.agg #[.int .i64 a, .int .i64 b, .int .i64 c, .int .i64 d]] w fun e w' => e = .returned (entryV a b c d) ∧ w' = w.alloc (.cells #[.int .i64 a, .int .i64 b, .int .i64 c, .int .i64 d] 28) := by
 have hu := Try.underlying28
 have hu2 := Try.underlying69
 by_cases c1 : a = 1
 · subst c1
   go_enter Try.func31, Try.ntmps31
   go_wp2
   go_ret
   exact ⟨rfl, rfl⟩
 by_cases c2 : a = 2
 · subst c2
   go_enter Try.func31, Try.ntmps31
   go_wp2
   go_ret
   exact ⟨rfl, rfl⟩
 have b1 : (a == 1) = false := by simpa using c1
 have b2 : (a == 2) = false := by simpa using c2
 have HV := am (show entryV a b c d = .nilIface by unfold entryV; rw [if_neg c1, if_neg c2])
 clear c1 c2
 go_enter Try.func31, Try.ntmps31
 go_wp2
 go_ret
 rw [HV.out]
 exact ⟨rfl, rfl⟩
def addrB (a : Int) : Bool := decide (1 ≤ a ∧ a ≤ 6)
def valB (a : Int) : Bool := decide (0 ≤ a ∧ a ≤ 9)
theorem addrOk_any (a : Int) (w : World) : Calls Try.prog 32 #[.int .i64 a] w fun e w' => e = .returned (.bool (addrB a)) ∧ w = w' := by
 go_enter Try.func32, Try.ntmps32
 go_wp2
 all_goals (go_ret; exact ⟨ret_bool (by unfold addrB; simp; try omega), rfl⟩)
theorem valOk_any (a : Int) (w : World) : Calls Try.prog 33 #[.int .i64 a] w fun e w' => e = .returned (.bool (valB a)) ∧ w = w' := by
 go_enter Try.func33, Try.ntmps33
 go_wp2
 all_goals (go_ret; exact ⟨ret_bool (by unfold valB; simp; try omega), rfl⟩)
theorem recOk_parts (a b c d : Int) : recOkB a b c d = ((decide (a = 1) || decide (a = 2)) && (decide (1 ≤ b) && (decide (b ≤ 600) && (addrB c && valB d)))) := by
 unfold recOkB addrB valB
 rw [Bool.eq_iff_iff]
 simp only [decide_eq_true_eq, Bool.and_eq_true, Bool.or_eq_true]
 constructor <;> rintro ⟨h0, h1, h2, h3, h4⟩ <;> omega
set_option maxHeartbeats 2000000 in
set_option maxRecDepth 100000 in
theorem impl_RecOk.calls (a0_0 : Int) (a0_1 : Int) (a0_2 : Int) (a0_3 : Int) (r : Bool) (w : World) (h : impl_RecOk.f a0_0 a0_1 a0_2 a0_3 = some r) :
 Calls Try.prog 20 #[.agg #[.int .i64 a0_0, .int .i64 a0_1, .int .i64 a0_2, .int .i64 a0_3]] w fun e w' => e = .returned (.bool r) ∧ Below w.heap.size w w' := by
 obtain rfl := Option.some.inj h
 clear h
 have hu := Try.underlying28
 have hu2 := Try.underlying69
 have hb2 : ∀ A B : Obj, Below w.heap.size w ((w.alloc A).alloc B) := fun A B => ((Below.refl _ w).alloc (Nat.le_refl _) A).alloc (by simp) B
 have HE := am hb2
 clear hb2
 have HP := am (recOk_parts a0_0 a0_1 a0_2 a0_3)
 rcases (show (a0_0 = 1 ∨ a0_0 = 2) ∨ (¬ a0_0 = 1 ∧ ¬ a0_0 = 2) by omega) with (c0 | c0) | ⟨c1, c2⟩
 · subst c0
   go_enter Try.func20, Try.ntmps20
   go_wp2_with (first | (go_at_call 31; refine (entryOf_any _ _ _ _ _).mono ?_; rintro e w' ⟨rfl, rfl⟩; simp only [entryV]) | (go_at_call 32; refine (addrOk_any _ _).mono ?_; rintro e w' ⟨rfl, rfl⟩) | (go_at_call 33; refine (valOk_any _ _).mono ?_; rintro e w' ⟨rfl, rfl⟩))
   all_goals go_ret
   all_goals exact ⟨ret_bool (by rw [HP.out]; simp [*]; try (intros; omega)), HE.out _ _⟩
 · subst c0
   go_enter Try.func20, Try.ntmps20
   go_wp2_with (first | (go_at_call 31; refine (entryOf_any _ _ _ _ _).mono ?_; rintro e w' ⟨rfl, rfl⟩; simp only [entryV]) | (go_at_call 32; refine (addrOk_any _ _).mono ?_; rintro e w' ⟨rfl, rfl⟩) | (go_at_call 33; refine (valOk_any _ _).mono ?_; rintro e w' ⟨rfl, rfl⟩))
   all_goals go_ret
   all_goals exact ⟨ret_bool (by rw [HP.out]; simp [*]; try (intros; omega)), HE.out _ _⟩
 · have HV := am (show entryV a0_0 a0_1 a0_2 a0_3 = .nilIface by unfold entryV; rw [if_neg c1, if_neg c2])
   have HF := am (show recOkB a0_0 a0_1 a0_2 a0_3 = false by rw [HP.out]; simp [c1, c2])
   clear c1 c2 HP
   go_enter Try.func20, Try.ntmps20
   go_wp2_with (go_at_call 31; refine (entryOf_any _ _ _ _ _).mono ?_; rintro e w' ⟨rfl, rfl⟩; rw [HV.out])
   all_goals go_ret
   all_goals exact ⟨ret_bool (by rw [HF.out]), HE.out _ _⟩
end Go.Proofs.Ytjfbiobjegnibaa.Rq
namespace Go.Proofs.Ytjfbiobjegnibaa.Rq
open Go.RowKit Go.Proofs.YtjfbiobjegnibaaW.PrintWords Go.Proofs.YtjfbiobjegnibaaW.PrintLast Go.Proofs.YtjfbiobjegnibaaW.PrintMore
attribute [local go_sem] max2_int min2_int max_two min_two max_three min_three max_four min_four
set_option linter.unusedVariables false
set_option linter.unusedSimpArgs false
attribute [local go_sem high] eqA28
def impl_pageShape.f (a0_0 : Int) (a0_1 : Int) (a0_2 : Int) (a0_3 : Int) (a0_4 : Int) : Option (Bool) := if a0_0 = 1 then ((impl_RecOk.f a0_1 a0_2 a0_3 a0_4).bind fun t366 => (some t366)) else (if a0_0 = 0 then (some (a0_1 == 0 && (a0_2 == 0 && (a0_3 == 0 && (a0_4 == 0))))) else (if a0_0 = 2 then (some (a0_1 == 0 && (a0_2 == 0 && (a0_3 == 0 && (a0_4 == 0))))) else (some false)))
set_option maxHeartbeats 8000000 in
set_option maxRecDepth 100000 in
theorem impl_pageShape.calls (a0_0 : Int) (a0_1 : Int) (a0_2 : Int) (a0_3 : Int) (a0_4 : Int) (r : Bool) (w : World) (h : impl_pageShape.f a0_0 a0_1 a0_2 a0_3 a0_4 = some r) :
 Calls Try.prog 27 #[.agg #[.int .i64 a0_0, .int .i64 a0_1, .int .i64 a0_2, .int .i64 a0_3, .int .i64 a0_4]] w fun e w' => e = .returned (.bool r) ∧ Below w.heap.size w w' := by
 have hu30 := Try.underlying30
 have hu28 := Try.underlying28
 have HB := am (Below.refl w.heap.size w)
 have H : (if a0_0 = 1 then ((impl_RecOk.f a0_1 a0_2 a0_3 a0_4).bind fun t366 => (some t366)) else (if a0_0 = 0 then (some (a0_1 == 0 && (a0_2 == 0 && (a0_3 == 0 && (a0_4 == 0))))) else (if a0_0 = 2 then (some (a0_1 == 0 && (a0_2 == 0 && (a0_3 == 0 && (a0_4 == 0))))) else (some false)))) = some r := h
 clear h
 by_cases c2 : a0_0 = 1
 · rw [if_pos c2] at H
   have c2b0 : (a0_0 == 1) = true := beq_iff_eq.mpr c2
   have c2b1 : (a0_0 != 1) = false := bne_eq_false_iff_eq.mpr c2
   clear c2
   replace H := Option.bind_eq_some_iff.mp H
   obtain ⟨t366, A30, H⟩ := H
   replace H : (some t366) = some r := H
   have A3 := am A30
   clear A30
   obtain rfl := Option.some.inj H
   go_enter Try.func27, Try.ntmps27
   go_wp2_with (first | (refine bx 1 #[.int .i64 a0_0, .int .i64 a0_1, .int .i64 a0_2, .int .i64 a0_3, .int .i64 a0_4] 30 rfl ?_; intro gb365 hg w4 hbox hb; have BK365 := am (hbox); have GW365 := am ((by rw [hg]; exact (below_size (ph HB.out)) : w.heap.size ≤ gb365)); have GE365 := GW365; replace HB := am (below_step (ph HB.out) hb); clear hb hbox hg; obtain ⟨hcz5_0, hcz5_1, hcz5_2, hcz5_3, hcz5_4⟩ := b5 BK365.out; obtain ⟨hfz5_0, hfz5_1, hfz5_2, hfz5_3, hfz5_4⟩ := f5 BK365.out) | (refine gl 9 Try.func20 #[.agg #[.int .i64 a0_1, .int .i64 a0_2, .int .i64 a0_3, .int .i64 a0_4]] rfl ?_; (with_reducible refine (impl_RecOk.calls a0_1 a0_2 a0_3 a0_4 t366 _ A3.out).mono ?_); rintro e w6 ⟨rfl, hb⟩; refine ⟨_, rfl, ?_⟩; replace BK365 := am (blk_below (pb BK365.out) hb); replace HB := am (below_step (bg1 HB.out GE365.out) hb); (try clear hb); (try clear hb2); (try clear hk); (try clear hi)))
   go_ret
   exact (rq (bg1 HB.out GE365.out))
 rw [if_neg c2] at H
 have c2b0 : (a0_0 == 1) = false := beq_eq_false_iff_ne.mpr c2
 have c2b1 : (a0_0 != 1) = true := bne_iff_ne.mpr c2
 by_cases c7 : a0_0 = 0
 · rw [if_pos c7] at H
   have c7b0 : (a0_0 == 0) = true := beq_iff_eq.mpr c7
   have c7b1 : (a0_0 != 0) = false := bne_eq_false_iff_eq.mpr c7
   clear c7
   obtain rfl := Option.some.inj H
   go_enter Try.func27, Try.ntmps27
   go_wp2_with (first | (refine bx 1 #[.int .i64 a0_0, .int .i64 a0_1, .int .i64 a0_2, .int .i64 a0_3, .int .i64 a0_4] 30 rfl ?_; intro gb365 hg w8 hbox hb; have BK365 := am (hbox); have GW365 := am ((by rw [hg]; exact (below_size (ph HB.out)) : w.heap.size ≤ gb365)); have GE365 := GW365; replace HB := am (below_step (ph HB.out) hb); clear hb hbox hg; obtain ⟨hcz9_0, hcz9_1, hcz9_2, hcz9_3, hcz9_4⟩ := b5 BK365.out; obtain ⟨hfz9_0, hfz9_1, hfz9_2, hfz9_3, hfz9_4⟩ := f5 BK365.out))
   go_ret
   exact (rq (bg1 HB.out GE365.out))
 rw [if_neg c7] at H
 have c7b0 : (a0_0 == 0) = false := beq_eq_false_iff_ne.mpr c7
 have c7b1 : (a0_0 != 0) = true := bne_iff_ne.mpr c7
 by_cases c10 : a0_0 = 2
 rotate_left
 · rw [if_neg c10] at H
   have c10b0 : (a0_0 == 2) = false := beq_eq_false_iff_ne.mpr c10
   have c10b1 : (a0_0 != 2) = true := bne_iff_ne.mpr c10
   obtain rfl := Option.some.inj H
   go_enter Try.func27, Try.ntmps27
   go_wp2_with (first | (refine bx 1 #[.int .i64 a0_0, .int .i64 a0_1, .int .i64 a0_2, .int .i64 a0_3, .int .i64 a0_4] 30 rfl ?_; intro gb365 hg w13 hbox hb; have BK365 := am (hbox); have GW365 := am ((by rw [hg]; exact (below_size (ph HB.out)) : w.heap.size ≤ gb365)); have GE365 := GW365; replace HB := am (below_step (ph HB.out) hb); clear hb hbox hg; obtain ⟨hcz14_0, hcz14_1, hcz14_2, hcz14_3, hcz14_4⟩ := b5 BK365.out; obtain ⟨hfz14_0, hfz14_1, hfz14_2, hfz14_3, hfz14_4⟩ := f5 BK365.out))
   go_ret
   exact (rq (bg1 HB.out GE365.out))
 rw [if_pos c10] at H
 have c10b0 : (a0_0 == 2) = true := beq_iff_eq.mpr c10
 have c10b1 : (a0_0 != 2) = false := bne_eq_false_iff_eq.mpr c10
 clear c10
 obtain rfl := Option.some.inj H
 go_enter Try.func27, Try.ntmps27
 go_wp2_with (first | (refine bx 1 #[.int .i64 a0_0, .int .i64 a0_1, .int .i64 a0_2, .int .i64 a0_3, .int .i64 a0_4] 30 rfl ?_; intro gb365 hg w11 hbox hb; have BK365 := am (hbox); have GW365 := am ((by rw [hg]; exact (below_size (ph HB.out)) : w.heap.size ≤ gb365)); have GE365 := GW365; replace HB := am (below_step (ph HB.out) hb); clear hb hbox hg; obtain ⟨hcz12_0, hcz12_1, hcz12_2, hcz12_3, hcz12_4⟩ := b5 BK365.out; obtain ⟨hfz12_0, hfz12_1, hfz12_2, hfz12_3, hfz12_4⟩ := f5 BK365.out))
 go_ret
 exact (rq (bg1 HB.out GE365.out))
end Go.Proofs.Ytjfbiobjegnibaa.Rq
