-- printed by wip/pp/pp.py
import Derived.Test.YthmgdljblidgjaaRw0
namespace Go.Proofs.Ythmgdljblidgjaa.Rw
open Go.RowKit Go.Proofs.YthmgdljblidgjaaW.PrintWords Go.Proofs.YthmgdljblidgjaaW.PrintLast Go.Proofs.YthmgdljblidgjaaW.PrintMore
attribute [local go_sem] max2_int min2_int max_two min_two max_three min_three max_four min_four
set_option linter.unusedVariables false
set_option linter.unusedSimpArgs false
def spec_l71Event.kd (k : Nat) (s0_0 : List Int) (c p : Int) : Option (Int × Int) :=
 if c = 0 ∨ c = 1 ∨ c = 2 then some (2, p) else if c = 3 then some (3, p) else if c = 4 then (spec_l6Rd_pick.f k s0_0 p 3).bind fun x => some (if x.1 = 0 then 4 else 1, x.2) else some (1, p)
def spec_l71Event.f (k : Nat) (s0_0 : List Int) (s0_1 : Int) : Option (Int × Int × Int × Int × Bool × Int) :=
 (spec_l6Rd_pick.f k s0_0 s0_1 6).bind fun a => (spec_l6Rd_pick.f k s0_0 a.2 10).bind fun b => (spec_l6Rd_pick.f k s0_0 b.2 12).bind fun c => (spec_l71Event.kd k s0_0 c.1 c.2).bind fun e => (spec_l6Rd_pick.f k s0_0 e.2 4).bind fun x =>
  if x.1 = 0 then (spec_l6Rd_pick.f k s0_0 x.2 5).bind fun y => (spec_l6Rd_pick.f k s0_0 y.2 3).bind fun z => some (e.1, wrap64 (1 + a.1), b.1, y.1, decide (z.1 > 0), z.2) else some (e.1, wrap64 (1 + a.1), b.1, 9, false, x.2)
theorem spec_l71Event.mono : ∀ a0 a1 k, LeO (spec_l71Event.f k a0 a1) (spec_l71Event.f (k + 1) a0 a1) := by
 intro a0 a1 k
 unfold spec_l71Event.f spec_l71Event.kd
 with_reducible repeat' first | exact LeO.refl _ | exact spec_l6Rd_pick.mono _ _ _ _ | refine LeO.ite ?_ ?_ | refine LeO.bind ?_ (fun _ => ?_)
theorem evKb {w w' : World} {g a : Nat} {o : Obj} (h : w.heap[a]? = some o) (hk : KeepBut w w' g none) (hne : a ≠ g) : w'.heap[a]? = some o := (hk.2 a (Array.getElem?_eq_some_iff.1 h).1 hne (by simp)).trans h
theorem evPut5 {w : World} {g : Nat} {t : TypeId} {z0 z1 z2 z3 z4 : Value} (h : w.heap[g]? = some (.cells #[z0, z1, z2, z3, z4] t (0, 0))) (a b c d e : Value) : (((((w.setCell ⟨g, 0, none⟩ a).setCell ⟨g, 1, none⟩ b).setCell ⟨g, 2, none⟩ c).setCell ⟨g, 3, none⟩ d).setCell ⟨g, 4, none⟩ e).heap[g]? = some (.cells #[a, b, c, d, e] t (0, 0)) :=
 blk_put (cs := #[a, b, c, d, z4]) (blk_put (cs := #[a, b, c, z3, z4]) (blk_put (cs := #[a, b, z2, z3, z4]) (blk_put (cs := #[a, z1, z2, z3, z4]) (blk_put (cs := #[z0, z1, z2, z3, z4]) h 0 _ rfl) 1 _ rfl) 2 _ rfl) 3 _ rfl) 4 _ rfl
theorem evEnd {w0 w W : World} {g : Nat} {s : List Int} {p : Int} (h : IsS57 w0 W g s p ∧ Below w0.heap.size w0 W ∧ KeepBut w W g none) {T : Nat} (hT : w.heap.size ≤ T) (hL : w0.heap.size ≤ w.heap.size) (hg : g < w.heap.size) (i : Nat) (a : Value) :
 IsS57 w0 (W.setCell ⟨T, i, none⟩ a) g s p ∧ Below w0.heap.size w0 (W.setCell ⟨T, i, none⟩ a) ∧ KeepBut w (W.setCell ⟨T, i, none⟩ a) g none :=
 ⟨IsS57.far (p := ⟨T, i, none⟩) h.1 (show g ≠ T by omega) _, h.2.1.setCell (p := ⟨T, i, none⟩) (Nat.le_trans hL hT) _, keep_far (p := ⟨T, i, none⟩) h.2.2 hT _⟩
set_option maxHeartbeats 4000000 in
set_option maxRecDepth 100000 in
theorem spec_l71Event.calls (k : Nat) (g : Nat) (s0_0 : List Int) (s0_1 : Int) (r1 : Int) (r2 : Int) (r3 : Int) (r4 : Int) (r5 : Bool) (r6 : Int) (w0 w : World) (hI : IsS57 w0 w g s0_0 s0_1) (hB : Below w0.heap.size w0 w) (h : spec_l71Event.f k s0_0 s0_1 = some (r1, r2, r3, r4, r5, r6)) :
 Calls Try.prog 40 #[.pointer (some ⟨g, 0, none⟩)] w fun e w' => e = .returned (.agg #[.int .i64 r1, .int .i64 r2, .int .i64 r3, .int .i64 r4, .bool r5]) ∧ IsS57 w0 w' g s0_0 r6 ∧ Below w0.heap.size w0 w' ∧ KeepBut w w' g none := by
 unfold spec_l71Event.f at h
 obtain ⟨⟨a1, p1⟩, h1, h⟩ := Option.bind_eq_some_iff.1 h
 obtain ⟨⟨a2, p2⟩, h2, h⟩ := Option.bind_eq_some_iff.1 h
 obtain ⟨⟨a3, p3⟩, h3, h⟩ := Option.bind_eq_some_iff.1 h
 obtain ⟨⟨kd, p4⟩, h4, h⟩ := Option.bind_eq_some_iff.1 h
 obtain ⟨⟨a5, p5⟩, h5, h⟩ := Option.bind_eq_some_iff.1 h
 have HH := am h
 have H4 := am h4
 clear h h4
 have hgl := IsS57.lt hI
 have hL := hB.size
 have hu := Try.underlying71
 go_enter Try.func40, Try.ntmps40
 go_wp2_with fail
 refine (spec_l6Rd_pick.calls k g s0_0 s0_1 6 a1 p1 w0 _ (hI.alloc _) (below_alloc hB _) h1).mono ?_
 rintro e w1 ⟨rfl, hI1, hB1, hK1⟩
 have hb := evKb (blk_new w _) hK1 (show w.heap.size ≠ g by omega)
 have K := KeepBut.trans (keep_alloc (KeepBut.refl w g none) _) hK1 (.inl rfl)
 clear hI hB hK1
 go_wp2_with fail
 refine (spec_l6Rd_pick.calls k g s0_0 p1 10 a2 p2 w0 _ hI1 hB1 h2).mono ?_
 rintro e w2 ⟨rfl, hI2, hB2, hK2⟩
 replace hb := evKb hb hK2 (show w.heap.size ≠ g by omega)
 replace K := KeepBut.trans K hK2 (.inl rfl)
 clear hI1 hB1 hK2
 go_wp2_with fail
 refine (spec_l6Rd_pick.calls k g s0_0 p2 12 a3 p3 w0 _ (hI2.alloc _) (below_alloc hB2 _) h3).mono ?_
 rintro e w3 ⟨rfl, hI3, hB3, hK3⟩
 have hl2 := hI2.lt
 have hw2 := blk_lt hb
 replace hb := evKb (blk_alloc hb _) hK3 (show w.heap.size ≠ g by omega)
 have hx := evKb (blk_new w2 _) hK3 (show w2.heap.size ≠ g by omega)
 replace K := KeepBut.trans (keep_alloc K _) hK3 (.inl rfl)
 clear hI2 hB2 hK3 h1 h2 h3
 have hXw : w.heap.size ≤ w2.heap.size := by omega
 have hXg : w2.heap.size ≠ g := by omega
 have hwg : w.heap.size ≠ g := by omega
 have hne : w2.heap.size ≠ w.heap.size := by omega
 have hne2 : w.heap.size ≠ w2.heap.size := by omega
 clear hl2 hw2
 generalize w2.heap.size = X at hx hXw hXg hne hne2 ⊢
 go_upto_block 0 with (fail)
 go_cut [] (fun wc => Aside0 (wc.heap[w.heap.size]? = some (.cells #[.int .i64 0, .int .i64 0, .int .i64 0, .int .i64 0, .bool false] 71 (0, 0)) ∧ wc.heap[X]? = some (.cells #[.int .i64 kd, .int .i64 (wrap64 (1 + a1)), .int .i64 a2, .int .i64 9, .bool false] 71 (0, 0)) ∧ IsS57 w0 wc g s0_0 p4 ∧ Below w0.heap.size w0 wc ∧ KeepBut w wc g none))
 case first =>
  have hs0 := (blk_cell hx 0).trans rfl
  have hf0 := blk_frozen hx 0
  have HE := am (And.intro hb (And.intro hx (And.intro hI3 (And.intro hB3 K))))
  have h := H4.out
  clear H4 HH h5 hI3 hB3 K hx hb
  unfold spec_l71Event.kd at h
  by_cases c2 : a3 = 0 ∨ a3 = 1 ∨ a3 = 2
  · rw [if_pos c2] at h
    simp only [Option.some.injEq, Prod.mk.injEq] at h
    obtain ⟨rfl, rfl⟩ := h
    rcases c2 with rfl | rfl | rfl
    all_goals
     go_wp2
     go_meet
     case rel => exact ⟨blk_far HE.out.1 hne2 _, blk_put HE.out.2.1 0 _ rfl, evEnd HE.out.2.2 hXw hL hgl 0 _⟩
  rw [if_neg c2] at h
  by_cases c3 : a3 = 3
  · rw [if_pos c3] at h
    simp only [Option.some.injEq, Prod.mk.injEq] at h
    obtain ⟨rfl, rfl⟩ := h
    subst c3
    clear c2
    go_wp2
    go_meet
    case rel => exact ⟨blk_far HE.out.1 hne2 _, blk_put HE.out.2.1 0 _ rfl, evEnd HE.out.2.2 hXw hL hgl 0 _⟩
  rw [if_neg c3] at h
  by_cases c4 : a3 = 4
  · rw [if_pos c4] at h
    obtain ⟨⟨v, q⟩, h6, h⟩ := Option.bind_eq_some_iff.1 h
    simp only [Option.some.injEq, Prod.mk.injEq] at h
    obtain ⟨hkd, rfl⟩ := h
    subst c4
    clear c2 c3
    go_wp2_with fail
    refine (spec_l6Rd_pick.calls k g s0_0 p3 3 v q w0 _ HE.out.2.2.1 HE.out.2.2.2.1 h6).mono ?_
    rintro e w6 ⟨rfl, hI6, hB6, hK6⟩
    have hb := evKb HE.out.1 hK6 hwg
    have hx := evKb HE.out.2.1 hK6 hXg
    have HE := am (And.intro hb (And.intro hx (And.intro hI6 (And.intro hB6 (KeepBut.trans HE.out.2.2.2.2 hK6 (.inl rfl))))))
    clear hs0 hf0
    have hs0 := (blk_cell hx 0).trans rfl
    have hf0 := blk_frozen hx 0
    clear hI6 hB6 hK6 h6 hb hx
    by_cases c5 : v = 0
    rotate_left
    · rw [if_neg c5] at hkd
      subst hkd
      have e0 : (v == 0) = false := beq_eq_false_iff_ne.mpr c5
      clear c5
      go_wp2
      go_meet
      case rel => exact HE
    rw [if_pos c5] at hkd
    subst hkd c5
    go_wp2
    go_meet
    case rel => exact ⟨blk_far HE.out.1 hne2 _, blk_put HE.out.2.1 0 _ rfl, evEnd HE.out.2.2 hXw hL hgl 0 _⟩
  rw [if_neg c4] at h
  simp only [Option.some.injEq, Prod.mk.injEq] at h
  obtain ⟨rfl, rfl⟩ := h
  have e0 : (a3 == 0) = false := beq_eq_false_iff_ne.mpr (fun h => c2 (.inl h))
  have e1 : (a3 == 1) = false := beq_eq_false_iff_ne.mpr (fun h => c2 (.inr (.inl h)))
  have e2 : (a3 == 2) = false := beq_eq_false_iff_ne.mpr (fun h => c2 (.inr (.inr h)))
  have e3 : (a3 == 3) = false := beq_eq_false_iff_ne.mpr c3
  have e4 : (a3 == 4) = false := beq_eq_false_iff_ne.mpr c4
  clear c2 c3 c4
  go_wp2
  go_meet
  case rel => exact HE
 case rest =>
  clear hb hx hI3 hB3 K H4
  have HE := hcut
  have h := HH.out
  clear HH hcut
  go_wp2_with fail
  refine (spec_l6Rd_pick.calls k g s0_0 p4 4 a5 p5 w0 _ HE.out.2.2.1 HE.out.2.2.2.1 h5).mono ?_
  rintro e w6 ⟨rfl, hI6, hB6, hK6⟩
  have hb := evKb HE.out.1 hK6 hwg
  have hx := evKb HE.out.2.1 hK6 hXg
  have K := KeepBut.trans HE.out.2.2.2.2 hK6 (.inl rfl)
  clear HE hK6 h5
  have y0 := (blk_cell hb 0).trans rfl
  by_cases c5 : a5 = 0
  rotate_left
  · rw [if_neg c5] at h
    simp only [Option.some.injEq, Prod.mk.injEq] at h
    obtain ⟨rfl, rfl, rfl, rfl, rfl, rfl⟩ := h
    have e0 : (a5 == 0) = false := beq_eq_false_iff_ne.mpr c5
    clear c5 y0
    have hs0 := (blk_cell hx 0).trans rfl
    have hs1 := (blk_cell hx 1).trans rfl
    have hs2 := (blk_cell hx 2).trans rfl
    have hs3 := (blk_cell hx 3).trans rfl
    have hs4 := (blk_cell hx 4).trans rfl
    have y0 := (blk_cell hb 0).trans rfl
    have g0 := blk_frozen hb 0
    have y1 := (blk_cell hb 1).trans rfl
    have g1 := blk_frozen hb 1
    have y2 := (blk_cell hb 2).trans rfl
    have g2 := blk_frozen hb 2
    have y3 := (blk_cell hb 3).trans rfl
    have g3 := blk_frozen hb 3
    have y4 := (blk_cell hb 4).trans rfl
    have g4 := blk_frozen hb 4
    have HE := am (And.intro hI6 (And.intro hB6 K))
    have HB := am hb
    clear hI6 hB6 K hb hx
    go_wp2
    refine bodyPost_ret (results_cell_row rfl _ _ w.heap.size 71 #[.int .i64 kd, .int .i64 (wrap64 (1 + a1)), .int .i64 a2, .int .i64 9, .bool false] (0, 0) _ rfl (evPut5 HB.out _ _ _ _ _) Try.underlying71 rfl (by kernel_rfl)) rfl ?_
    exact ⟨rfl, evEnd (evEnd (evEnd (evEnd (evEnd HE.out (Nat.le_refl _) hL hgl 0 _) (Nat.le_refl _) hL hgl 1 _) (Nat.le_refl _) hL hgl 2 _) (Nat.le_refl _) hL hgl 3 _) (Nat.le_refl _) hL hgl 4 _⟩
  rw [if_pos c5] at h
  obtain ⟨⟨y, q1⟩, h7, h⟩ := Option.bind_eq_some_iff.1 h
  obtain ⟨⟨z, q2⟩, h8, h⟩ := Option.bind_eq_some_iff.1 h
  simp only [Option.some.injEq, Prod.mk.injEq] at h
  obtain ⟨rfl, rfl, rfl, rfl, rfl, rfl⟩ := h
  subst c5
  clear y0
  go_wp2_with fail
  refine (spec_l6Rd_pick.calls k g s0_0 p5 5 y q1 w0 _ hI6 hB6 h7).mono ?_
  rintro e w7 ⟨rfl, hI7, hB7, hK7⟩
  replace hb := evKb hb hK7 hwg
  replace hx := evKb hx hK7 hXg
  replace K := KeepBut.trans K hK7 (.inl rfl)
  clear hI6 hB6 hK7 h7
  have hs3 := (blk_cell hx 3).trans rfl
  have hf3 := blk_frozen hx 3
  go_wp2_with fail
  have HE := evEnd ⟨hI7, hB7, K⟩ hXw hL hgl 3 (.int .i64 y)
  replace hb := blk_far hb hne2 (p := ⟨X, 3, none⟩) (.int .i64 y)
  replace hx := blk_put hx 3 (.int .i64 y) rfl
  refine (spec_l6Rd_pick.calls k g s0_0 q1 3 z q2 w0 _ HE.1 HE.2.1 h8).mono ?_
  rintro e w8 ⟨rfl, hI8, hB8, hK8⟩
  replace hb := evKb hb hK8 hwg
  replace hx := evKb hx hK8 hXg
  replace K := KeepBut.trans HE.2.2 hK8 (.inl rfl)
  clear hI7 hB7 hK8 h8 HE hs3 hf3
  have hs0 := (blk_cell hx 0).trans rfl
  have hs1 := (blk_cell hx 1).trans rfl
  have hs2 := (blk_cell hx 2).trans rfl
  have hs3 := (blk_cell hx 3).trans rfl
  have hs4 := (blk_cell hx 4).trans rfl
  have hf4 := blk_frozen hx 4
  have y0 := (blk_cell hb 0).trans rfl
  have g0 := blk_frozen hb 0
  have y1 := (blk_cell hb 1).trans rfl
  have g1 := blk_frozen hb 1
  have y2 := (blk_cell hb 2).trans rfl
  have g2 := blk_frozen hb 2
  have y3 := (blk_cell hb 3).trans rfl
  have g3 := blk_frozen hb 3
  have y4 := (blk_cell hb 4).trans rfl
  have g4 := blk_frozen hb 4
  have HE := am (And.intro hI8 (And.intro hB8 K))
  have HB := am hb
  clear hI8 hB8 K hb hx
  go_wp2
  refine bodyPost_ret (results_cell_row rfl _ _ w.heap.size 71 #[.int .i64 kd, .int .i64 (wrap64 (1 + a1)), .int .i64 a2, .int .i64 y, .bool (decide (z > 0))] (0, 0) _ rfl (evPut5 (blk_far HB.out hne2 _) _ _ _ _ _) Try.underlying71 rfl (by kernel_rfl)) rfl ?_
  exact ⟨rfl, evEnd (evEnd (evEnd (evEnd (evEnd (evEnd HE.out hXw hL hgl 4 _) (Nat.le_refl _) hL hgl 0 _) (Nat.le_refl _) hL hgl 1 _) (Nat.le_refl _) hL hgl 2 _) (Nat.le_refl _) hL hgl 3 _) (Nat.le_refl _) hL hgl 4 _⟩
def spec_l6In.f (a0 : Int) (a1 : Int) (a2 : Int) : Option (Bool) := if a0 ≥ a1 then (some (decide (a0 ≤ a2))) else (some false)
set_option maxHeartbeats 8000000 in
set_option maxRecDepth 100000 in
theorem spec_l6In.calls (a0 : Int) (a1 : Int) (a2 : Int) (r : Bool) (w : World) (h : spec_l6In.f a0 a1 a2 = some r) :
 Calls Try.prog 19 #[.int .i64 a0, .int .i64 a1, .int .i64 a2] w fun e w' => e = .returned (.bool r) ∧ Drawn0 w w' := by
 have H : (if a0 ≥ a1 then (some (decide (a0 ≤ a2))) else (some false)) = some r := h
 clear h
 by_cases c4 : a0 ≥ a1
 · rw [if_pos c4] at H
   have c4b0 := decide_eq_true c4
   clear c4
   obtain rfl := Option.some.inj H
   go_enter Try.func19, Try.ntmps19
   go_wp2
   go_ret
   exact ⟨by first | rfl | (simp; done) | (simp [*]; done), by repeat (first | exact Drawn0.refl _ | apply Drawn0.step)⟩
 rw [if_neg c4] at H
 have c4b0 := decide_eq_false c4
 clear c4
 obtain rfl := Option.some.inj H
 go_enter Try.func19, Try.ntmps19
 go_wp2
 go_ret
 exact ⟨by first | rfl | (simp; done) | (simp [*]; done), by repeat (first | exact Drawn0.refl _ | apply Drawn0.step)⟩
def spec_l2Clean.l0 : Nat → Int → Int → List (S33) → Int → Option (Int)
 | 0, _, _, _, _ => none
 | k + 1, x3, x4, x124000, x124001 => if x4 < (x124000.length : Int) then (if 0 ≤ x4 then (if ((rd_T33 x124000 x4).f0) = 0 then (spec_l2Clean.l0 k (wrap64 (x3 + 1)) (wrap64 (x4 + 1)) x124000 x124001) else (spec_l2Clean.l0 k x3 (wrap64 (x4 + 1)) x124000 x124001)) else (none)) else (some x3)
def spec_l2Clean.f (k : Nat) (l0_0 : List (S33)) (a0_1 : Int) : Option (Int) := spec_l2Clean.l0 k 0 0 l0_0 a0_1
theorem spec_l2Clean.mono_l : ∀ k, (∀ y0 y1 y2 y3, LeO (spec_l2Clean.l0 k y0 y1 y2 y3) (spec_l2Clean.l0 (k + 1) y0 y1 y2 y3))
 | 0 => fun _ _ _ _ r h => by simp [spec_l2Clean.l0] at h
 | k + 1 => by
  have ih0 := spec_l2Clean.mono_l k
  · intro y0 y1 y2 y3
    unfold spec_l2Clean.l0
    with_reducible repeat' first | exact ih0 _ _ _ _ | exact LeO.refl _ | exact LeO.none _ | refine LeO.ite ?_ ?_ | refine LeO.bind ?_ (fun _ => ?_)
theorem spec_l2Clean.mono : ∀ a0 a1 k, LeO (spec_l2Clean.f k a0 a1) (spec_l2Clean.f (k + 1) a0 a1) := by
 intro a0 a1 k
 have ih0 := spec_l2Clean.mono_l k
 unfold spec_l2Clean.f
 with_reducible repeat' first | exact ih0 _ _ _ _ | exact LeO.refl _ | exact LeO.none _ | refine LeO.ite ?_ ?_ | refine LeO.bind ?_ (fun _ => ?_)
set_option maxHeartbeats 8000000 in
set_option maxRecDepth 100000 in
theorem spec_l2Clean.calls (k : Nat) (A0_0 : Option Addr) (c0_0 : Nat) (l0_0 : List (S33)) (a0_1 : Int) (r : Int) (w : World) (hr0_0 : Kd.C k33 w A0_0 l0_0.length l0_0) (hc0_0 : l0_0.length ≤ c0_0) (h : spec_l2Clean.f k l0_0 a0_1 = some r) :
 Calls Try.prog 32 #[.agg #[.slice A0_0 l0_0.length c0_0, .int .i64 a0_1]] w fun e w' => e = .returned (.int .i64 r) ∧ Below w.heap.size w w' := by
 have hu36 := Try.underlying36
 have HR0_0 := am hr0_0
 have HC0_0 := am hc0_0
 clear hr0_0 hc0_0
 have HB := am (Below.refl w.heap.size w)
 have H : (spec_l2Clean.l0 k 0 0 l0_0 a0_1) = some r := h
 clear h
 have H' := am H
 clear H
 go_enter Try.func32, Try.ntmps32
 go_wp2_with (first | (refine bx 1 #[.slice A0_0 l0_0.length c0_0, .int .i64 a0_1] 36 rfl ?_; intro gb123 hg w2 hbox hb; have BK123 := am (hbox); have GW123 := am (ge hg (ph HB.out)); have GE123 := GW123; replace HB := am (below_step (ph HB.out) hb); clear hb hbox hg))
 go_loopg [3, 4] k (fun kq v3 v4 w' => ∃ (x3_1 : Int) (x4_1 : Int), v3 = .int .i64 x3_1 ∧ v4 = .int .i64 x4_1 ∧ Aside0 (spec_l2Clean.l0 kq x3_1 x4_1 l0_0 a0_1 = some r) ∧ Aside0 (kq ≤ k) ∧ Aside0 (w'.heap[gb123]? = some (.cells #[(.slice A0_0 l0_0.length c0_0), .int .i64 a0_1] 36 (0, 0))) ∧ Aside0 (Below w.heap.size w w'))
 case atStart => exact ⟨(0), (0), rf, rf, H', ⟨Nat.le_refl _⟩, ⟨pb BK123.out⟩, ⟨bg1 HB.out GE123.out⟩⟩
 case round =>
  clear H'
  obtain ⟨x3_1, x4_1, rfl, rfl, HA, HK1, BK123, HB⟩ := hrel
  cases gk with
  | zero => exact absurd HA.out (by simp [spec_l2Clean.l0])
  | succ k1 =>
   have H := HA.out
   clear HA
   simp only [spec_l2Clean.l0] at H
   by_cases c3 : x4_1 < (l0_0.length : Int)
   rotate_left
   · rw [if_neg c3] at H
     have c3b0 := decide_eq_false c3
     clear c3
     obtain rfl := Option.some.inj H
     obtain ⟨hcz8_0, hcz8_1⟩ := b2 BK123.out
     obtain ⟨hfz8_0, hfz8_1⟩ := f2 BK123.out
     go_wp2
     go_ret
     exact (rq (bg1 HB.out GE123.out))
   rw [if_pos c3] at H
   have c3b0 := decide_eq_true c3
   clear c3
   obtain ⟨c4b0, H⟩ := ifd H
   by_cases c5 : ((rd_T33 l0_0 x4_1).f0) = 0
   rotate_left
   · rw [if_neg c5] at H
     have c5b0 : (((rd_T33 l0_0 x4_1).f0) == 0) = false := beq_eq_false_iff_ne.mpr c5
     have c5b1 : (((rd_T33 l0_0 x4_1).f0) != 0) = true := bne_iff_ne.mpr c5
     have H' := am H
     clear H
     obtain ⟨hcz7_0, hcz7_1⟩ := b2 BK123.out
     obtain ⟨hfz7_0, hfz7_1⟩ := f2 BK123.out
     have p124 : 0 ≤ (x4_1 : Int) := ofb
     have q124 : x4_1 < (l0_0.length : Int) := ofb
     obtain ⟨ad124, e124, hx124_0, hx124_1, hx124_2, hx124_3, hx124_4⟩ := at_T33 HR0_0.out x4_1 p124 q124
     cases e124
     replace hx124_0 := up HB.out hx124_0
     replace hx124_1 := up HB.out hx124_1
     replace hx124_2 := up HB.out hx124_2
     replace hx124_3 := up HB.out hx124_3
     replace hx124_4 := up HB.out hx124_4
     replace p124 := eq_true p124
     replace q124 := eq_true q124
     go_wp2
     go_roundg k1
     case measure => have := HK1.out; omega
     case rel => exact ⟨(x3_1), (wrap64 (x4_1 + 1)), rf, rf, H', ⟨by have := HK1.out; omega⟩, ⟨pb BK123.out⟩, ⟨bg1 HB.out GE123.out⟩⟩
   rw [if_pos c5] at H
   have c5b0 : (((rd_T33 l0_0 x4_1).f0) == 0) = true := beq_iff_eq.mpr c5
   have c5b1 : (((rd_T33 l0_0 x4_1).f0) != 0) = false := bne_eq_false_iff_eq.mpr c5
   clear c5
   have H' := am H
   clear H
   obtain ⟨hcz6_0, hcz6_1⟩ := b2 BK123.out
   obtain ⟨hfz6_0, hfz6_1⟩ := f2 BK123.out
   have p124 : 0 ≤ (x4_1 : Int) := ofb
   have q124 : x4_1 < (l0_0.length : Int) := ofb
   obtain ⟨ad124, e124, hx124_0, hx124_1, hx124_2, hx124_3, hx124_4⟩ := at_T33 HR0_0.out x4_1 p124 q124
   cases e124
   replace hx124_0 := up HB.out hx124_0
   replace hx124_1 := up HB.out hx124_1
   replace hx124_2 := up HB.out hx124_2
   replace hx124_3 := up HB.out hx124_3
   replace hx124_4 := up HB.out hx124_4
   replace p124 := eq_true p124
   replace q124 := eq_true q124
   go_wp2
   go_roundg k1
   case measure => have := HK1.out; omega
   case rel => exact ⟨(wrap64 (x3_1 + 1)), (wrap64 (x4_1 + 1)), rf, rf, H', ⟨by have := HK1.out; omega⟩, ⟨pb BK123.out⟩, ⟨bg1 HB.out GE123.out⟩⟩
mutual
def spec_l2Seq.l0 : Nat → List (S36) → Int → Int → Option (Bool)
 | 0, _, _, _ => none
 | k + 1, x0, x1, x5 => if x5 < (x0.length : Int) then (spec_l2Seq.l1 k x0 x1 x5 0) else (some false)
def spec_l2Seq.l1 : Nat → List (S36) → Int → Int → Int → Option (Bool)
 | 0, _, _, _, _ => none
 | k + 1, x0, x1, x5, x6 => if 0 ≤ x5 then (if x5 < (x0.length : Int) then (if x6 < (((rd_T36 x0 x5).f0).length : Int) then (if 0 ≤ x6 then (if ((rd_T33 ((rd_T36 x0 x5).f0) x6).f0) = 1 then (if ((rd_T33 ((rd_T36 x0 x5).f0) x6).f1.f1) = x1 then (some true) else (spec_l2Seq.l1 k x0 x1 x5 (wrap64 (x6 + 1)))) else (spec_l2Seq.l1 k x0 x1 x5 (wrap64 (x6 + 1)))) else (none)) else (spec_l2Seq.l0 k x0 x1 (wrap64 (x5 + 1)))) else (none)) else (none)
end
def spec_l2Seq.f (k : Nat) (l0 : List (S36)) (a1 : Int) : Option (Bool) := spec_l2Seq.l0 k l0 a1 0
theorem spec_l2Seq.mono_l : ∀ k, (∀ y0 y1 y2, LeO (spec_l2Seq.l0 k y0 y1 y2) (spec_l2Seq.l0 (k + 1) y0 y1 y2)) ∧ (∀ y0 y1 y2 y3, LeO (spec_l2Seq.l1 k y0 y1 y2 y3) (spec_l2Seq.l1 (k + 1) y0 y1 y2 y3))
 | 0 => ⟨fun _ _ _ r h => by simp [spec_l2Seq.l0] at h, fun _ _ _ _ r h => by simp [spec_l2Seq.l1] at h⟩
 | k + 1 => by
  obtain ⟨ih0, ih1⟩ := spec_l2Seq.mono_l k
  refine ⟨?_, ?_⟩
  · intro y0 y1 y2
    unfold spec_l2Seq.l0
    with_reducible repeat' first | exact ih0 _ _ _ | exact ih1 _ _ _ _ | exact LeO.refl _ | exact LeO.none _ | refine LeO.ite ?_ ?_ | refine LeO.bind ?_ (fun _ => ?_)
  · intro y0 y1 y2 y3
    unfold spec_l2Seq.l1
    with_reducible repeat' first | exact ih0 _ _ _ | exact ih1 _ _ _ _ | exact LeO.refl _ | exact LeO.none _ | refine LeO.ite ?_ ?_ | refine LeO.bind ?_ (fun _ => ?_)
theorem spec_l2Seq.mono : ∀ a0 a1 k, LeO (spec_l2Seq.f k a0 a1) (spec_l2Seq.f (k + 1) a0 a1) := by
 intro a0 a1 k
 obtain ⟨ih0, ih1⟩ := spec_l2Seq.mono_l k
 unfold spec_l2Seq.f
 with_reducible repeat' first | exact ih0 _ _ _ | exact ih1 _ _ _ _ | exact LeO.refl _ | exact LeO.none _ | refine LeO.ite ?_ ?_ | refine LeO.bind ?_ (fun _ => ?_)
set_option maxHeartbeats 8000000 in
set_option maxRecDepth 100000 in
theorem spec_l2Seq.calls (k : Nat) (A0 : Option Addr) (c0 : Nat) (l0 : List (S36)) (a1 : Int) (r : Bool) (w : World) (hr0 : Kd.C k36 w A0 l0.length l0) (hc0 : l0.length ≤ c0) (h : spec_l2Seq.f k l0 a1 = some r) :
 Calls Try.prog 34 #[.slice A0 l0.length c0, .int .i64 a1] w fun e w' => e = .returned (.bool r) ∧ Drawn0 w w' := by
 have HR0 := am hr0
 have HC0 := am hc0
 clear hr0 hc0
 have H : (spec_l2Seq.l0 k l0 a1 0) = some r := h
 clear h
 have H' := am H
 clear H
 go_enter Try.func34, Try.ntmps34
 go_wp2
 go_loopg [5] k (fun kq v5 w' => ∃ (x5_1 : Int), v5 = .int .i64 x5_1 ∧ Aside0 (spec_l2Seq.l0 kq l0 a1 x5_1 = some r) ∧ Aside0 (kq ≤ k) ∧ Drawn0 w w')
 case atStart => exact ⟨(0), rf, H', ⟨Nat.le_refl _⟩, by repeat (first | exact Drawn0.refl _ | apply Drawn0.step)⟩
 case round =>
  clear H'
  obtain ⟨x5_1, rfl, HA, HK1, ⟨m1, rfl⟩⟩ := hrel
  cases gk with
  | zero => exact absurd HA.out (by simp [spec_l2Seq.l0])
  | succ k1 =>
   have H := HA.out
   clear HA
   simp only [spec_l2Seq.l0] at H
   by_cases c3 : x5_1 < (l0.length : Int)
   rotate_left
   · rw [if_neg c3] at H
     have c3b0 := decide_eq_false c3
     clear c3
     obtain rfl := Option.some.inj H
     go_wp2
     go_ret
     exact ⟨by first | rfl | (simp; done) | (simp [*]; done), by repeat (first | exact Drawn0.refl _ | apply Drawn0.step)⟩
   rw [if_pos c3] at H
   have c3b0 := decide_eq_true c3
   clear c3
   have H' := am H
   clear H
   go_wp2
   go_loopg [6] k1 (fun kq v6 w' => ∃ (x6_2 : Int), v6 = .int .i64 x6_2 ∧ Aside0 (spec_l2Seq.l1 kq l0 a1 x5_1 x6_2 = some r) ∧ Aside0 (kq ≤ k1) ∧ Drawn0 w w')
   case atStart => exact ⟨(0), rf, H', ⟨Nat.le_refl _⟩, by repeat (first | exact Drawn0.refl _ | apply Drawn0.step)⟩
   case round =>
    clear H'
    obtain ⟨x6_2, rfl, HA, HK2, ⟨m2, rfl⟩⟩ := hrel
    cases gk with
    | zero => exact absurd HA.out (by simp [spec_l2Seq.l1])
    | succ k2 =>
     have H := HA.out
     clear HA
     simp only [spec_l2Seq.l1] at H
     obtain ⟨c4b0, H⟩ := ifd H
     obtain ⟨c5b0, H⟩ := ifd H
     by_cases c6 : x6_2 < (((rd_T36 l0 x5_1).f0).length : Int)
     rotate_left
     · rw [if_neg c6] at H
       have c6b0 := decide_eq_false c6
       clear c6
       have H' := am H
       clear H
       have p125 : 0 ≤ (x5_1 : Int) := ofb
       have q125 : x5_1 < (l0.length : Int) := ofb
       obtain ⟨ad125, A125_0, c125_0, e125, hx125_0, hx125_1, hl125_0, hi125_0⟩ := at_T36 HR0.out x5_1 p125 q125
       cases e125
       have HR125_0 := am hi125_0
       have HC125_0 := am hl125_0
       clear hi125_0 hl125_0
       replace p125 := eq_true p125
       replace q125 := eq_true q125
       go_wp2
       go_roundg k2
       case measure => have := HK1.out; have := HK2.out; omega
       case rel => exact ⟨(wrap64 (x5_1 + 1)), rf, H', ⟨by have := HK1.out; have := HK2.out; omega⟩, by repeat (first | exact Drawn0.refl _ | apply Drawn0.step)⟩
     rw [if_pos c6] at H
     have c6b0 := decide_eq_true c6
     clear c6
     obtain ⟨c7b0, H⟩ := ifd H
     by_cases c8 : ((rd_T33 ((rd_T36 l0 x5_1).f0) x6_2).f0) = 1
     rotate_left
     · rw [if_neg c8] at H
       have c8b0 : (((rd_T33 ((rd_T36 l0 x5_1).f0) x6_2).f0) == 1) = false := beq_eq_false_iff_ne.mpr c8
       have c8b1 : (((rd_T33 ((rd_T36 l0 x5_1).f0) x6_2).f0) != 1) = true := bne_iff_ne.mpr c8
       have H' := am H
       clear H
       have p125 : 0 ≤ (x5_1 : Int) := ofb
       have q125 : x5_1 < (l0.length : Int) := ofb
       obtain ⟨ad125, A125_0, c125_0, e125, hx125_0, hx125_1, hl125_0, hi125_0⟩ := at_T36 HR0.out x5_1 p125 q125
       cases e125
       have HR125_0 := am hi125_0
       have HC125_0 := am hl125_0
       clear hi125_0 hl125_0
       replace p125 := eq_true p125
       replace q125 := eq_true q125
       have p126 : 0 ≤ (x5_1 : Int) := ofb
       have q126 : x5_1 < (l0.length : Int) := ofb
       obtain ⟨ad126, A126_0, c126_0, e126, hx126_0, hx126_1, hl126_0, hi126_0⟩ := at_T36 HR0.out x5_1 p126 q126
       obtain rfl : ad125 = ad126 := (by injection e126)
       have HR126_0 := am hi126_0
       have HC126_0 := am hl126_0
       clear hi126_0 hl126_0
       replace p126 := eq_true p126
       replace q126 := eq_true q126
       have ea_ := Option.some.inj (hx125_0.symm.trans hx126_0)
       injection ea_ with ea_ en_ ec_
       subst ea_
       subst ec_
       clear en_
       have p127 : 0 ≤ (x6_2 : Int) := ofb
       have q127 : x6_2 < (((rd_T36 l0 x5_1).f0).length : Int) := ofb
       obtain ⟨ad127, e127, hx127_0, hx127_1, hx127_2, hx127_3, hx127_4⟩ := at_T33 HR126_0.out x6_2 p127 q127
       cases e127
       replace p127 := eq_true p127
       replace q127 := eq_true q127
       go_wp2
       go_roundg k2
       case measure => have := HK1.out; have := HK2.out; omega
       case rel => exact ⟨(wrap64 (x6_2 + 1)), rf, H', ⟨by have := HK1.out; have := HK2.out; omega⟩, by repeat (first | exact Drawn0.refl _ | apply Drawn0.step)⟩
     rw [if_pos c8] at H
     have c8b0 : (((rd_T33 ((rd_T36 l0 x5_1).f0) x6_2).f0) == 1) = true := beq_iff_eq.mpr c8
     have c8b1 : (((rd_T33 ((rd_T36 l0 x5_1).f0) x6_2).f0) != 1) = false := bne_eq_false_iff_eq.mpr c8
     clear c8
     by_cases c9 : ((rd_T33 ((rd_T36 l0 x5_1).f0) x6_2).f1.f1) = a1
     · rw [if_pos c9] at H
       have c9b0 : (((rd_T33 ((rd_T36 l0 x5_1).f0) x6_2).f1.f1) == a1) = true := beq_iff_eq.mpr c9
       have c9b1 : (((rd_T33 ((rd_T36 l0 x5_1).f0) x6_2).f1.f1) != a1) = false := bne_eq_false_iff_eq.mpr c9
       clear c9
       obtain rfl := Option.some.inj H
       have p125 : 0 ≤ (x5_1 : Int) := ofb
       have q125 : x5_1 < (l0.length : Int) := ofb
       obtain ⟨ad125, A125_0, c125_0, e125, hx125_0, hx125_1, hl125_0, hi125_0⟩ := at_T36 HR0.out x5_1 p125 q125
       cases e125
       have HR125_0 := am hi125_0
       have HC125_0 := am hl125_0
       clear hi125_0 hl125_0
       replace p125 := eq_true p125
       replace q125 := eq_true q125
       have p126 : 0 ≤ (x5_1 : Int) := ofb
       have q126 : x5_1 < (l0.length : Int) := ofb
       obtain ⟨ad126, A126_0, c126_0, e126, hx126_0, hx126_1, hl126_0, hi126_0⟩ := at_T36 HR0.out x5_1 p126 q126
       obtain rfl : ad125 = ad126 := (by injection e126)
       have HR126_0 := am hi126_0
       have HC126_0 := am hl126_0
       clear hi126_0 hl126_0
       replace p126 := eq_true p126
       replace q126 := eq_true q126
       have ea_ := Option.some.inj (hx125_0.symm.trans hx126_0)
       injection ea_ with ea_ en_ ec_
       subst ea_
       subst ec_
       clear en_
       have p127 : 0 ≤ (x6_2 : Int) := ofb
       have q127 : x6_2 < (((rd_T36 l0 x5_1).f0).length : Int) := ofb
       obtain ⟨ad127, e127, hx127_0, hx127_1, hx127_2, hx127_3, hx127_4⟩ := at_T33 HR126_0.out x6_2 p127 q127
       cases e127
       replace p127 := eq_true p127
       replace q127 := eq_true q127
       have p128 : 0 ≤ (x5_1 : Int) := ofb
       have q128 : x5_1 < (l0.length : Int) := ofb
       obtain ⟨ad128, A128_0, c128_0, e128, hx128_0, hx128_1, hl128_0, hi128_0⟩ := at_T36 HR0.out x5_1 p128 q128
       obtain rfl : ad125 = ad128 := (by injection e128)
       have HR128_0 := am hi128_0
       have HC128_0 := am hl128_0
       clear hi128_0 hl128_0
       replace p128 := eq_true p128
       replace q128 := eq_true q128
       have ea_ := Option.some.inj (hx125_0.symm.trans hx128_0)
       injection ea_ with ea_ en_ ec_
       subst ea_
       subst ec_
       clear en_
       have p129 : 0 ≤ (x6_2 : Int) := ofb
       have q129 : x6_2 < (((rd_T36 l0 x5_1).f0).length : Int) := ofb
       obtain ⟨ad129, e129, hx129_0, hx129_1, hx129_2, hx129_3, hx129_4⟩ := at_T33 HR128_0.out x6_2 p129 q129
       cases e129
       replace p129 := eq_true p129
       replace q129 := eq_true q129
       go_wp2
       go_ret
       exact ⟨by first | rfl | (simp; done) | (simp [*]; done), by repeat (first | exact Drawn0.refl _ | apply Drawn0.step)⟩
     rw [if_neg c9] at H
     have c9b0 : (((rd_T33 ((rd_T36 l0 x5_1).f0) x6_2).f1.f1) == a1) = false := beq_eq_false_iff_ne.mpr c9
     have c9b1 : (((rd_T33 ((rd_T36 l0 x5_1).f0) x6_2).f1.f1) != a1) = true := bne_iff_ne.mpr c9
     have H' := am H
     clear H
     have p125 : 0 ≤ (x5_1 : Int) := ofb
     have q125 : x5_1 < (l0.length : Int) := ofb
     obtain ⟨ad125, A125_0, c125_0, e125, hx125_0, hx125_1, hl125_0, hi125_0⟩ := at_T36 HR0.out x5_1 p125 q125
     cases e125
     have HR125_0 := am hi125_0
     have HC125_0 := am hl125_0
     clear hi125_0 hl125_0
     replace p125 := eq_true p125
     replace q125 := eq_true q125
     have p126 : 0 ≤ (x5_1 : Int) := ofb
     have q126 : x5_1 < (l0.length : Int) := ofb
     obtain ⟨ad126, A126_0, c126_0, e126, hx126_0, hx126_1, hl126_0, hi126_0⟩ := at_T36 HR0.out x5_1 p126 q126
     obtain rfl : ad125 = ad126 := (by injection e126)
     have HR126_0 := am hi126_0
     have HC126_0 := am hl126_0
     clear hi126_0 hl126_0
     replace p126 := eq_true p126
     replace q126 := eq_true q126
     have ea_ := Option.some.inj (hx125_0.symm.trans hx126_0)
     injection ea_ with ea_ en_ ec_
     subst ea_
     subst ec_
     clear en_
     have p127 : 0 ≤ (x6_2 : Int) := ofb
     have q127 : x6_2 < (((rd_T36 l0 x5_1).f0).length : Int) := ofb
     obtain ⟨ad127, e127, hx127_0, hx127_1, hx127_2, hx127_3, hx127_4⟩ := at_T33 HR126_0.out x6_2 p127 q127
     cases e127
     replace p127 := eq_true p127
     replace q127 := eq_true q127
     have p128 : 0 ≤ (x5_1 : Int) := ofb
     have q128 : x5_1 < (l0.length : Int) := ofb
     obtain ⟨ad128, A128_0, c128_0, e128, hx128_0, hx128_1, hl128_0, hi128_0⟩ := at_T36 HR0.out x5_1 p128 q128
     obtain rfl : ad125 = ad128 := (by injection e128)
     have HR128_0 := am hi128_0
     have HC128_0 := am hl128_0
     clear hi128_0 hl128_0
     replace p128 := eq_true p128
     replace q128 := eq_true q128
     have ea_ := Option.some.inj (hx125_0.symm.trans hx128_0)
     injection ea_ with ea_ en_ ec_
     subst ea_
     subst ec_
     clear en_
     have p129 : 0 ≤ (x6_2 : Int) := ofb
     have q129 : x6_2 < (((rd_T36 l0 x5_1).f0).length : Int) := ofb
     obtain ⟨ad129, e129, hx129_0, hx129_1, hx129_2, hx129_3, hx129_4⟩ := at_T33 HR128_0.out x6_2 p129 q129
     cases e129
     replace p129 := eq_true p129
     replace q129 := eq_true q129
     go_wp2
     go_roundg k2
     case measure => have := HK1.out; have := HK2.out; omega
     case rel => exact ⟨(wrap64 (x6_2 + 1)), rf, H', ⟨by have := HK1.out; have := HK2.out; omega⟩, by repeat (first | exact Drawn0.refl _ | apply Drawn0.step)⟩
def spec_l2Write.j0 : Nat → List (S36) → Int → Bool → Int → Bool → Int → Int → Int → Int → Option ((List (S36)) × Bool)
 | 0, _, _, _, _, _, _, _, _, _ => none
 | k + 1, x0, x1, x3, x10, x24, x131000, x131001, x131002, x131003 => if x24 = true then (some (x0, false)) else (if x3 = true then (if 0 ≤ x1 then (if x1 < (x0.length : Int) then (if 0 ≤ (wrap64 (4 - x10)) then (if (wrap64 (4 - x10)) < (((rd_T36 x0 x1).f0).length : Int) then (some ((x0.set (x1 : Int).toNat (⟨(((rd_T36 x0 x1).f0).set ((wrap64 (4 - x10)) : Int).toNat (⟨2, (⟨0, 0, 0, 0⟩ : S25)⟩ : S33)), (rd_T36 x0 x1).f1⟩ : S36)), true)) else (none)) else (none)) else (none)) else (none)) else (if 0 ≤ x1 then (if x1 < (x0.length : Int) then (if 0 ≤ (wrap64 (4 - x10)) then (if (wrap64 (4 - x10)) < (((rd_T36 x0 x1).f0).length : Int) then (some ((x0.set (x1 : Int).toNat (⟨(((rd_T36 x0 x1).f0).set ((wrap64 (4 - x10)) : Int).toNat (⟨1, (⟨x131000, x131001, x131002, x131003⟩ : S25)⟩ : S33)), (rd_T36 x0 x1).f1⟩ : S36)), true)) else (none)) else (none)) else (none)) else (none)))
def spec_l2Write.f (k : Nat) (l0 : List (S36)) (a1 : Int) (a2_0 : Int) (a2_1 : Int) (a2_2 : Int) (a2_3 : Int) (a3 : Bool) : Option ((List (S36)) × Bool) := if 0 ≤ a1 then (if a1 < (l0.length : Int) then ((spec_l2Clean.f k ((rd_T36 l0 a1).f0) ((rd_T36 l0 a1).f1)).bind fun t132 => (if t132 = 0 then (spec_l2Write.j0 k l0 a1 a3 t132 true a2_0 a2_1 a2_2 a2_3) else ((spec_l2Seq.f k l0 a2_1).bind fun t133 => (spec_l2Write.j0 k l0 a1 a3 t132 t133 a2_0 a2_1 a2_2 a2_3)))) else (none)) else (none)
theorem spec_l2Write.mono_l : ∀ k, (∀ y0 y1 y2 y3 y4 y5 y6 y7 y8, LeO (spec_l2Write.j0 k y0 y1 y2 y3 y4 y5 y6 y7 y8) (spec_l2Write.j0 (k + 1) y0 y1 y2 y3 y4 y5 y6 y7 y8))
 | 0 => fun _ _ _ _ _ _ _ _ _ r h => by simp [spec_l2Write.j0] at h
 | k + 1 => by
  have ih0 := spec_l2Write.mono_l k
  · intro y0 y1 y2 y3 y4 y5 y6 y7 y8
    unfold spec_l2Write.j0
    with_reducible repeat' first | exact ih0 _ _ _ _ _ _ _ _ _ | exact spec_l2Clean.mono _ _ _ | exact spec_l2Seq.mono _ _ _ | exact LeO.refl _ | exact LeO.none _ | refine LeO.ite ?_ ?_ | refine LeO.bind ?_ (fun _ => ?_)
theorem spec_l2Write.mono : ∀ a0 a1 a2 a3 a4 a5 a6 k, LeO (spec_l2Write.f k a0 a1 a2 a3 a4 a5 a6) (spec_l2Write.f (k + 1) a0 a1 a2 a3 a4 a5 a6) := by
 intro a0 a1 a2 a3 a4 a5 a6 k
 have ih0 := spec_l2Write.mono_l k
 unfold spec_l2Write.f
 with_reducible repeat' first | exact ih0 _ _ _ _ _ _ _ _ _ | exact spec_l2Clean.mono _ _ _ | exact spec_l2Seq.mono _ _ _ | exact LeO.refl _ | exact LeO.none _ | refine LeO.ite ?_ ?_ | refine LeO.bind ?_ (fun _ => ?_)
def spec_l2Write.T7 : Bool × List (List Nat × List Nat) := (true, [([], []), ([], []), ([0, 1], [0, 1]), ([2], [2]), ([3], [3]), ([], []), ([5], [5]), ([], []), ([4, 6, 0, 1, 2, 3, 4, 5, 6, 7], [4, 6]), ([8, 7, 0, 1, 2, 3, 4, 5, 6, 7], [7, 8])])
def spec_l2Write.B7 : List Nat := [0, 0, 3, 7, 15, 0, 32, 0, 255, 511]
theorem spec_l2Write.tab7 : rtab .any (opsOf Try.f21 7) = spec_l2Write.T7 := by kernel_rfl
theorem spec_l2Write.bits7 : waitsOk spec_l2Write.T7.2 spec_l2Write.B7 = true := by kernel_rfl
set_option maxHeartbeats 8000000 in
set_option maxRecDepth 100000 in
theorem spec_l2Write.calls (k : Nat) (P0_ : Nat → Prop) (u9000_ : Value) (l0 : List (S36)) (a1 : Int) (a2_0 : Int) (a2_1 : Int) (a2_2 : Int) (a2_3 : Int) (a3 : Bool) (r1 : List (S36)) (r2 : Bool) (w0 w : World) (hB : Below w0.heap.size w0 w) (ho0 : Kd.S k36 36 w w0.heap.size P0_ u9000_ l0) (h : spec_l2Write.f k l0 a1 a2_0 a2_1 a2_2 a2_3 a3 = some (r1, r2)) :
 Calls Try.prog 21 #[u9000_, .int .i64 a1, .agg #[.int .i64 a2_0, .int .i64 a2_1, .int .i64 a2_2, .int .i64 a2_3], .bool a3] w fun e w' => ∃ v0_ : Value, e = .returned (.tuple #[v0_, .bool r2]) ∧ Kd.S k36 36 w' w0.heap.size (fun k_ => (P0_ k_ ∨ w.heap.size ≤ k_)) v0_ r1 ∧ Below w0.heap.size w0 w' ∧ Kept w w' (fun k_ => P0_ k_) := by
 have hu25 := Try.underlying25
 have hu36 := Try.underlying36
 have hu33 := Try.underlying33
 have HO0 := am (show Kd.S k36 36 w w0.heap.size (fun k_ => (P0_ k_ ∨ w.heap.size ≤ k_)) u9000_ l0 from Kd.S_mono ho0 (fun k_ hk => (.inl hk)))
 have HK := am (Kept.refl w (fun k_ => P0_ k_))
 have HW0 := am hB.size
 have HB := am hB
 clear hB
 have H : (if 0 ≤ a1 then (if a1 < (l0.length : Int) then ((spec_l2Clean.f k ((rd_T36 l0 a1).f0) ((rd_T36 l0 a1).f1)).bind fun t132 => (if t132 = 0 then (spec_l2Write.j0 k l0 a1 a3 t132 true a2_0 a2_1 a2_2 a2_3) else ((spec_l2Seq.f k l0 a2_1).bind fun t133 => (spec_l2Write.j0 k l0 a1 a3 t132 t133 a2_0 a2_1 a2_2 a2_3)))) else (none)) else (none)) = some (r1, r2) := h
 clear h
 obtain ⟨c5b0, H⟩ := ifd H
 obtain ⟨c6b0, H⟩ := ifd H
 replace H := Option.bind_eq_some_iff.mp H
 obtain ⟨t132, A70, H⟩ := H
 have A7 := am A70
 clear A70
 have HC8 := am H
 clear H
 go_enter Try.func21, Try.ntmps21
 go_upto_region 2 with (first | (refine bx 6 #[.int .i64 a2_0, .int .i64 a2_1, .int .i64 a2_2, .int .i64 a2_3] 25 rfl ?_; intro gb130 hg w9 hbox hb; replace HO0 := am (Kd.S_below (ps HO0.out) hb); have BK130 := am (hbox); have GW130 := am (gw hg (pk HK.out)); replace HK := am (Kept.below (pk HK.out) hb); have GE130 := am (ge hg (ph HB.out)); replace HB := am (below_step (ph HB.out) hb); clear hb hbox hg; obtain ⟨Ao10, co10, eo10⟩ := Kd.S_slice HO0.out; subst eo10; have p131 : 0 ≤ (a1 : Int) := ofb; have q131 : a1 < (l0.length : Int) := ofb; obtain ⟨ad131, A131_0, c131_0, e131, hx131_0, hx131_1, hl131_0, hi131_0⟩ := at_T36 (Kd.S_reads' HO0.out).2.2 a1 p131 q131; cases e131; obtain ⟨ce131, hce131, hMe131, hcc131⟩ := Kd.S_get HO0.out z36 a1 p131 (by first | exact q131 | exact ofb | (have e_ := (Kd.S_reads' HO0.out).1; omega)); obtain ⟨ve131_0, rfl, ge131_0⟩ := k36_openM hMe131; have hv131_0 := hcc131 0 _ rfl; rw [Nat.add_zero] at hv131_0; replace hv131_0 := Option.some.inj (hv131_0.symm.trans hx131_0); rw [hv131_0] at ge131_0; have HL131_0 := am (show Kd.R k33 33 _ _ _ _ ((rd_T36 l0 a1).f0) from ge131_0); clear hv131_0 ge131_0; have HX131_0 := am hx131_0; clear hcc131 hce131; have HR131_0 := am hi131_0; have HC131_0 := am hl131_0; clear hi131_0 hl131_0; replace p131 := eq_true p131; replace q131 := eq_true q131) | (refine gl 16 Try.func32 #[.agg #[.slice A131_0 ((rd_T36 l0 a1).f0).length c131_0, .int .i64 ((rd_T36 l0 a1).f1)]] rfl ?_; (with_reducible refine (spec_l2Clean.calls k _ _ ((rd_T36 l0 a1).f0) ((rd_T36 l0 a1).f1) t132 _ ?side1 ?side2 A7.out).mono ?_); (case side1 => exact pc HR131_0.out); (case side2 => exact HC131_0.out); rintro e w11 ⟨rfl, hb⟩; refine ⟨_, rfl, ?_⟩; replace HO0 := am (Kd.S_below (ps HO0.out) hb); replace HL131_0 := am (Kd.R_below (pr HL131_0.out) hb); replace BK130 := am (blk_below (pb BK130.out) hb); replace HR131_0 := am (Kd.C_below (pc HR131_0.out) hb); replace HX131_0 := am (pw_cell_below hb HX131_0.out); replace HK := am (Kept.below (kg1 HK.out (.inr GW130.out)) hb); replace HB := am (below_step (bg1 HB.out GE130.out) hb); clear hb))
 (try simp only [Act.put, List.setIfInBounds_toArray, List.set_cons_zero, List.set_cons_succ])
 go_cut [24] (fun v24 wc => ∃ (kq : Nat) (x24_7 : Bool), v24 = .bool x24_7 ∧ Aside0 (spec_l2Write.j0 kq l0 a1 a3 t132 x24_7 a2_0 a2_1 a2_2 a2_3 = some (r1, r2)) ∧ Aside0 (kq ≤ k) ∧ Aside0 (Kd.S k36 36 wc w0.heap.size (fun k_ => (P0_ k_ ∨ w.heap.size ≤ k_)) (.slice (some ad131) l0.length co10) l0) ∧ Aside0 (wc.heap[gb130]? = some (.cells #[.int .i64 a2_0, .int .i64 a2_1, .int .i64 a2_2, .int .i64 a2_3] 25 (0, 0))) ∧ Aside0 (Kd.C k33 wc A131_0 ((rd_T36 l0 a1).f0).length ((rd_T36 l0 a1).f0)) ∧ Aside0 (Kept w wc (fun k_ => P0_ k_)) ∧ Aside0 (Below w0.heap.size w0 wc))
 case first =>
  have H := HC8.out
  clear HC8
  by_cases c12 : t132 = 0
  · rw [if_pos c12] at H
    have c12b0 : (t132 == 0) = true := beq_iff_eq.mpr c12
    have c12b1 : (t132 != 0) = false := bne_eq_false_iff_eq.mpr c12
    clear c12
    (first | rw [c12b0] | (simp only [i64_w, i32_w]; rw [c12b0]) | skip)
    have H' := am H
    clear H
    go_wp2
    go_meet
    case rel => exact ⟨_, (true), rf, H', ⟨by first | omega | exact Nat.le_refl _⟩, ⟨ps HO0.out⟩, ⟨pb BK130.out⟩, ⟨pc HR131_0.out⟩, ⟨kg1 HK.out (.inr GW130.out)⟩, ⟨bg1 HB.out GE130.out⟩⟩
  rw [if_neg c12] at H
  have c12b0 : (t132 == 0) = false := beq_eq_false_iff_ne.mpr c12
  have c12b1 : (t132 != 0) = true := bne_iff_ne.mpr c12
  (first | rw [c12b0] | (simp only [i64_w, i32_w]; rw [c12b0]) | skip)
  replace H := Option.bind_eq_some_iff.mp H
  obtain ⟨t133, A130, H⟩ := H
  have A13 := am A130
  clear A130
  have H' := am H
  clear H
  obtain ⟨hcz14_0, hcz14_1, hcz14_2, hcz14_3⟩ := b4 BK130.out
  obtain ⟨hfz14_0, hfz14_1, hfz14_2, hfz14_3⟩ := f4 BK130.out
  go_wp2_with (first | (go_at_call 34; (with_reducible refine (spec_l2Seq.calls k _ _ l0 a2_1 t133 _ ?side1 ?side2 A13.out).mono ?_); (case side1 => exact pc ((Kd.S_reads' HO0.out).2.2)); (case side2 => exact (Kd.S_reads' HO0.out).2.1); rintro e w' ⟨rfl, ⟨nd, rfl⟩⟩))
  go_meet
  case rel => exact ⟨_, (t133), rf, H', ⟨by first | omega | exact Nat.le_refl _⟩, ⟨ps HO0.out⟩, ⟨pb BK130.out⟩, ⟨pc HR131_0.out⟩, ⟨kg1 HK.out (.inr GW130.out)⟩, ⟨bg1 HB.out GE130.out⟩⟩
 case rest =>
  clear HC8
  obtain ⟨kq, x24_7, rfl, HA, HJ7, HO_0, BK130, HR131_0, HK, HB⟩ := hcut
  cases kq with
  | zero => exact absurd HA.out (by simp [spec_l2Write.j0])
  | succ kj7 =>
   have H := HA.out
   clear HA
   simp only [spec_l2Write.j0] at H
   by_cases c15 : x24_7 = true
   · subst c15
     rw [if_pos rfl] at H
     simp only [Option.some.injEq, Prod.mk.injEq] at H
     obtain ⟨rfl, rfl⟩ := H
     go_wp2
     go_ret2
     exact ⟨_, rq ⟨ps HO_0.out, bg1 HB.out GE130.out, kg1 HK.out (.inr GW130.out)⟩⟩
   replace c15 := Bool.eq_false_iff.mpr c15
   subst c15
   rw [if_neg (show ¬ (false = true) by decide)] at H
   by_cases c16 : a3 = true
   rotate_left
   · replace c16 := Bool.eq_false_iff.mpr c16
     subst c16
     rw [if_neg (show ¬ (false = true) by decide)] at H
     obtain ⟨c31b0, H⟩ := ifd H
     obtain ⟨c32b0, H⟩ := ifd H
     obtain ⟨ji33, hji33⟩ : ∃ j_ : Int, (wrap64 (4 - t132)) = j_ := ⟨_, rfl⟩
     replace H : (if 0 ≤ (ji33) then (if (ji33) < (((rd_T36 l0 a1).f0).length : Int) then (some ((l0.set (a1 : Int).toNat (⟨(((rd_T36 l0 a1).f0).set ((ji33) : Int).toNat (⟨1, (⟨a2_0, a2_1, a2_2, a2_3⟩ : S25)⟩ : S33)), (rd_T36 l0 a1).f1⟩ : S36)), true)) else (none)) else (none)) = some (r1, r2) := by first | (rw [hji33] at H; exact H) | (simp only [hji33] at H ⊢; exact H)
     have hji33w : (IntKind.i64.wrap (4 - t132)) = ji33 := (i64_w _).trans hji33
     obtain ⟨c34b0, H⟩ := ifd H
     obtain ⟨c35b0, H⟩ := ifd H
     obtain ⟨y140, hy140⟩ : ∃ y_ : List (S33), y_ = (((rd_T36 l0 a1).f0).set ((ji33) : Int).toNat (⟨1, (⟨a2_0, a2_1, a2_2, a2_3⟩ : S25)⟩ : S33)) := ⟨_, rfl⟩
     replace H : (some ((l0.set (a1 : Int).toNat (⟨y140, (rd_T36 l0 a1).f1⟩ : S36)), true)) = some (r1, r2) := yy hy140 H
     have Ny140 := am hy140
     clear hy140
     obtain ⟨y142, hy142⟩ : ∃ y_ : List (S36), y_ = (l0.set (a1 : Int).toNat (⟨y140, (rd_T36 l0 a1).f1⟩ : S36)) := ⟨_, rfl⟩
     replace H : (some (y142, true)) = some (r1, r2) := yy hy142 H
     have Ny142 := am hy142
     clear hy142
     simp only [Option.some.injEq, Prod.mk.injEq] at H
     obtain ⟨rfl, rfl⟩ := H
     obtain ⟨hcz37_0, hcz37_1, hcz37_2, hcz37_3⟩ := b4 BK130.out
     obtain ⟨hfz37_0, hfz37_1, hfz37_2, hfz37_3⟩ := f4 BK130.out
     try go_wp2_with (first | (refine bx 11 #[.int .i64 0, .int .i64 0, .int .i64 0, .int .i64 0, .int .i64 0] 33 rfl ?_; intro gb134 hg w38 hbox hb; replace HO_0 := am (Kd.S_below (Kd.S_elderB (ps HO_0.out) gb134 (Nat.le_of_eq hg.symm)) hb); replace HR131_0 := am (Kd.C_below (pc HR131_0.out) hb); have BK134 := am (hbox); have GW134 := am (gw hg (kg1 HK.out (.inr GW130.out))); replace HK := am (Kept.below (kg1 HK.out (.inr GW130.out)) hb); have GE134 := am (ge hg (bg1 HB.out GE130.out)); replace HB := am (below_step (bg1 HB.out GE130.out) hb); have NB130_134 := am (nb hg (pb BK130.out)); have NB134_130 := am (Ne.symm NB130_134.out); replace BK130 := am (blk_below (pb BK130.out) hb); clear hb hbox hg; have hnb39 := NB134_130.out; have hnc39 := NB130_134.out; obtain ⟨hcz40_0, hcz40_1, hcz40_2, hcz40_3, hcz40_4⟩ := b5 BK134.out; obtain ⟨hfz40_0, hfz40_1, hfz40_2, hfz40_3, hfz40_4⟩ := f5 BK134.out))
     have n0_ : Aside0 (Kd.S k36 36 (((((w38.setCell ⟨gb134, 0, none⟩ (.int .i64 1)).setCell ⟨gb134, 1, none⟩ (.int .i64 a2_0)).setCell ⟨gb134, 2, none⟩ (.int .i64 a2_1)).setCell ⟨gb134, 3, none⟩ (.int .i64 a2_2)).setCell ⟨gb134, 4, none⟩ (.int .i64 a2_3)) w0.heap.size (fun k_ => (P0_ k_ ∨ w.heap.size ≤ k_) ∧ k_ ≠ gb134) (.slice (some ad131) l0.length co10) l0) := ⟨ps (Kd.S_mono (Kd.S_far (p := ⟨gb134, 4, none⟩) (Kd.S_far (p := ⟨gb134, 3, none⟩) (Kd.S_far (p := ⟨gb134, 2, none⟩) (Kd.S_far (p := ⟨gb134, 1, none⟩) (Kd.S_far (p := ⟨gb134, 0, none⟩) (Kd.S_mono HO_0.out (fun k_ hk => (⟨hk, hk.2⟩ : _ ∧ k_ ≠ gb134))) (fun _ hk => hk.2) (.int .i64 1)) (fun _ hk => hk.2) (.int .i64 a2_0)) (fun _ hk => hk.2) (.int .i64 a2_1)) (fun _ hk => hk.2) (.int .i64 a2_2)) (fun _ hk => hk.2) (.int .i64 a2_3)) (fun _ hk => ⟨hk.1.1, hk.1.2⟩))⟩
     have n1_ : Aside0 ((((((w38.setCell ⟨gb134, 0, none⟩ (.int .i64 1)).setCell ⟨gb134, 1, none⟩ (.int .i64 a2_0)).setCell ⟨gb134, 2, none⟩ (.int .i64 a2_1)).setCell ⟨gb134, 3, none⟩ (.int .i64 a2_2)).setCell ⟨gb134, 4, none⟩ (.int .i64 a2_3)).heap[gb130]? = some (.cells #[.int .i64 a2_0, .int .i64 a2_1, .int .i64 a2_2, .int .i64 a2_3] 25 (0, 0))) := ⟨bf5 (pb BK130.out) NB130_134.out⟩
     have n2_ : Aside0 ((((((w38.setCell ⟨gb134, 0, none⟩ (.int .i64 1)).setCell ⟨gb134, 1, none⟩ (.int .i64 a2_0)).setCell ⟨gb134, 2, none⟩ (.int .i64 a2_1)).setCell ⟨gb134, 3, none⟩ (.int .i64 a2_2)).setCell ⟨gb134, 4, none⟩ (.int .i64 a2_3)).heap[gb134]? = some (.cells #[.int .i64 1, .int .i64 a2_0, .int .i64 a2_1, .int .i64 a2_2, .int .i64 a2_3] 33 (0, 0))) := ⟨bp5 (pb BK134.out)⟩
     have n3_ : Aside0 (Kept w (((((w38.setCell ⟨gb134, 0, none⟩ (.int .i64 1)).setCell ⟨gb134, 1, none⟩ (.int .i64 a2_0)).setCell ⟨gb134, 2, none⟩ (.int .i64 a2_1)).setCell ⟨gb134, 3, none⟩ (.int .i64 a2_2)).setCell ⟨gb134, 4, none⟩ (.int .i64 a2_3)) (fun k_ => P0_ k_)) := ⟨kg2 HK.out (.inr GW130.out) (.inr GW134.out)⟩
     have n4_ : Aside0 (Below w0.heap.size w0 (((((w38.setCell ⟨gb134, 0, none⟩ (.int .i64 1)).setCell ⟨gb134, 1, none⟩ (.int .i64 a2_0)).setCell ⟨gb134, 2, none⟩ (.int .i64 a2_1)).setCell ⟨gb134, 3, none⟩ (.int .i64 a2_2)).setCell ⟨gb134, 4, none⟩ (.int .i64 a2_3))) := ⟨bg2 HB.out GE130.out GE134.out⟩
     (try clear HO_0)
     (try clear BK130)
     (try clear BK134)
     (try clear HK)
     (try clear HB)
     generalize (((((w38.setCell ⟨gb134, 0, none⟩ (.int .i64 1)).setCell ⟨gb134, 1, none⟩ (.int .i64 a2_0)).setCell ⟨gb134, 2, none⟩ (.int .i64 a2_1)).setCell ⟨gb134, 3, none⟩ (.int .i64 a2_2)).setCell ⟨gb134, 4, none⟩ (.int .i64 a2_3)) = w41 at n0_ n1_ n2_ n3_ n4_ ⊢
     have HO_0 := n0_
     have BK130 := n1_
     have BK134 := n2_
     have HK := n3_
     have HB := n4_
     clear n0_ n1_ n2_ n3_ n4_
     replace HO_0 := am (Kd.S_drew HO_0.out)
     replace BK130 := am (blk_drew BK130.out)
     replace BK134 := am (blk_drew BK134.out)
     replace HK := am (Kept.drew HK.out)
     replace HB := am (below_drew1 HB.out)
     have p139 : 0 ≤ (a1 : Int) := ofb
     have q139 : a1 < (l0.length : Int) := ofb
     obtain ⟨ad139, A139_0, c139_0, e139, hx139_0, hx139_1, hl139_0, hi139_0⟩ := at_T36 (Kd.S_reads' HO_0.out).2.2 a1 p139 q139
     obtain rfl : ad131 = ad139 := (by injection e139)
     obtain ⟨ce139, hce139, hMe139, hcc139⟩ := Kd.S_get HO_0.out z36 a1 p139 (by first | exact q139 | exact ofb | (have e_ := (Kd.S_reads' HO_0.out).1; omega))
     obtain ⟨ve139_0, rfl, ge139_0⟩ := k36_openM hMe139
     have hv139_0 := hcc139 0 _ rfl
     rw [Nat.add_zero] at hv139_0
     replace hv139_0 := Option.some.inj (hv139_0.symm.trans hx139_0)
     rw [hv139_0] at ge139_0
     have HL139_0 := am (show Kd.R k33 33 _ _ _ _ ((rd_T36 l0 a1).f0) from ge139_0)
     clear hv139_0 ge139_0
     have HX139_0 := am hx139_0
     clear hcc139 hce139
     have HR139_0 := am hi139_0
     have HC139_0 := am hl139_0
     clear hi139_0 hl139_0
     replace p139 := eq_true p139
     replace q139 := eq_true q139
     have p36 : 0 ≤ ((ji33) : Int) := ofb
     have q36 : ((ji33) : Int) < ((((rd_T36 l0 a1).f0).length : Int) : Int) := ofb
     obtain ⟨go36, co36, eo36, gb36, gl36, cl36, HG36⟩ := Kd.R_form HL139_0.out (by omega)
     (first | cases eo36 | (injection eo36 with ea_ en_ ec_; (first | subst ea_ | (injection ea_ with ea_; subst ea_)); subst ec_; clear en_))
     have GB36 := am gb36
     have GG36 := am HG36
     clear gb36 gl36 HG36
     have HMgo36 := am (show (P0_ go36 ∨ w.heap.size ≤ go36) from (HL139_0.out.1 _ rfl).1.1)
     obtain ⟨ce36, hcl36, hM36, hcc36, hfr36⟩ := Kd.R_elem HL139_0.out z33 ((ji33) : Int) p36 q36
     obtain rfl := k33_openM hM36
     have hx36_0 : World.cell? _ ⟨go36, ((ji33) : Int).toNat * 5, none⟩ = some (.int .i64 ((rd_T33 ((rd_T36 l0 a1).f0) (ji33)).f0)) := hcc36 0 _ rfl
     have hx36_1 : World.cell? _ ⟨go36, ((ji33) : Int).toNat * 5 + 1, none⟩ = some (.int .i64 ((rd_T33 ((rd_T36 l0 a1).f0) (ji33)).f1.f0)) := hcc36 1 _ rfl
     have hx36_2 : World.cell? _ ⟨go36, ((ji33) : Int).toNat * 5 + 2, none⟩ = some (.int .i64 ((rd_T33 ((rd_T36 l0 a1).f0) (ji33)).f1.f1)) := hcc36 2 _ rfl
     have hx36_3 : World.cell? _ ⟨go36, ((ji33) : Int).toNat * 5 + 3, none⟩ = some (.int .i64 ((rd_T33 ((rd_T36 l0 a1).f0) (ji33)).f1.f2)) := hcc36 3 _ rfl
     have hx36_4 : World.cell? _ ⟨go36, ((ji33) : Int).toNat * 5 + 4, none⟩ = some (.int .i64 ((rd_T33 ((rd_T36 l0 a1).f0) (ji33)).f1.f3)) := hcc36 4 _ rfl
     have hf36_0 : World.frozen? _ ⟨go36, ((ji33) : Int).toNat * 5, none⟩ = false := hfr36 0
     have hf36_1 : World.frozen? _ ⟨go36, ((ji33) : Int).toNat * 5 + 1, none⟩ = false := hfr36 1
     have hf36_2 : World.frozen? _ ⟨go36, ((ji33) : Int).toNat * 5 + 2, none⟩ = false := hfr36 2
     have hf36_3 : World.frozen? _ ⟨go36, ((ji33) : Int).toNat * 5 + 3, none⟩ = false := hfr36 3
     have hf36_4 : World.frozen? _ ⟨go36, ((ji33) : Int).toNat * 5 + 4, none⟩ = false := hfr36 4
     clear hcl36 hcc36 hfr36 hM36
     replace p36 := eq_true p36
     replace q36 := eq_true q36
     have hq43 : (a1 : Int) < (l0.length : Int) := (by have h_ : (a1 : Int) < ((l0.length : Int) : Int) := ofb; first | exact h_ | (have e_ := (Kd.S_reads' HO_0.out).1; omega) | simpa only [List.length_set, List.length_set] using h_)
     obtain ⟨oki43, ce43, hcl43, hM43, hcc43, hok43, hbk43⟩ := Kd.S_borrow HO_0.out z36 (a1 : Int) (ofb) hq43
     obtain ⟨ve43_0, rfl, ge43_0⟩ := k36_openM hM43
     have hv43 := hcc43 0 _ rfl
     rw [Nat.add_zero] at hv43
     replace hv43 := Option.some.inj (hv43.symm.trans HX139_0.out)
     subst hv43
     clear hcc43 hcl43
     replace ge43_0 := (show Kd.R k33 33 _ _ _ _ ((rd_T36 l0 a1).f0) from ge43_0)
     obtain ⟨cf43, hcl43, hN43, hcc43, hfr43⟩ := Kd.R_elem ge43_0 z33 ((ji33) : Int) (ofb) (by have h_ : ((ji33) : Int) < ((((rd_T36 l0 a1).f0).length : Int) : Int) := ofb; first | exact h_ | (have e_ := (Kd.R_reads' HR139_0.out).1; omega) | simpa using h_)
     obtain rfl := k33_openM hN43
     have HP43 := Kd.R_seg ge43_0 ((ji33) : Int) (ofb) (by have h_ : ((ji33) : Int) < ((((rd_T36 l0 a1).f0).length : Int) : Int) := ofb; first | exact h_ | (have e_ := (Kd.R_reads' HR139_0.out).1; omega) | simpa using h_) (seg := [.int .i64 1, .int .i64 a2_0, .int .i64 a2_1, .int .i64 a2_2, .int .i64 a2_3]) (j := 0) hcl43 hcc43 (show 5 ≤ 5 from by decide) (x' := (⟨1, (⟨a2_0, a2_1, a2_2, a2_3⟩ : S25)⟩ : S33)) (k33_mkM _ _ _ (⟨1, (⟨a2_0, a2_1, a2_2, a2_3⟩ : S25)⟩ : S33)) (fun _ hk => hk)
     clear hcl43 hcc43 hfr43 hN43
     rw [← Ny140.out] at HP43
     have HS43 := hbk43 HP43.2 (fun k_ e_ => by injection e_ with e_; subst e_; exact ge43_0.1 _ rfl) (x' := (⟨y140, (rd_T36 l0 a1).f1⟩ : S36)) (k36_mkM _ _ _ (⟨y140, (rd_T36 l0 a1).f1⟩ : S36) HP43.1)
     rw [← Ny142.out] at HS43
     have HQ43 := am HS43
     clear HP43 HS43 hbk43 hok43
     refine start_ (n := 10) (S := fun w' => w'.cell? ⟨gb134, 0, none⟩ = some (.int .i64 1) ∧ w'.cell? ⟨gb134, 1, none⟩ = some (.int .i64 a2_0) ∧ w'.cell? ⟨gb134, 2, none⟩ = some (.int .i64 a2_1) ∧ w'.cell? ⟨gb134, 3, none⟩ = some (.int .i64 a2_2) ∧ w'.cell? ⟨gb134, 4, none⟩ = some (.int .i64 a2_3) ∧ w'.cell? (ad131.add ((a1).toNat * 2)) = some (.slice (some ⟨go36, 0, none⟩) ((rd_T36 l0 a1).f0).length c139_0) ∧ w'.cell? ⟨(ad131.add ((a1).toNat * 2)).block, (ad131.add ((a1).toNat * 2)).off + 1, none⟩ = some (.int .i64 ((rd_T36 l0 a1).f1))) (ds := [9]) (bt 10 0) (by kernel_rfl) rfl rfl ⟨(blk_cell BK134.out 0).trans rfl, (blk_cell BK134.out 1).trans rfl, (blk_cell BK134.out 2).trans rfl, (blk_cell BK134.out 3).trans rfl, (blk_cell BK134.out 4).trans rfl, hx139_0, hx139_1⟩ (fun hHeld => ?_); refine with_tabW spec_l2Write.tab7 spec_l2Write.bits7 (fun HT_ HW_ => ?_)
     generalize w41.drew = w42 at HO_0 BK130 BK134 HK HB GG36 HL139_0 HQ43 HR139_0 HX139_0 hf36_0 hf36_1 hf36_2 hf36_3 hf36_4 hx139_0 hx139_1 hx36_0 hx36_1 hx36_2 hx36_3 hx36_4 hHeld ⊢
     refine qj 0 30 (bt 10 1) rfl rfl HT_.out ?_
     refine qj 1 31 (bt 10 3) rfl rfl HT_.out ?_
     refine qj 2 32 (bt 10 7) rfl rfl HT_.out ?_
     refine qj 3 33 (bt 10 15) rfl rfl HT_.out ?_
     refine qj 5 35 (bt 10 47) rfl rfl HT_.out ?_
     refine qj 6 36 (bt 10 111) rfl rfl HT_.out ?_
     refine qm 4 34 (bt 10 127) rfl rfl HT_.out HW_.out hHeld ?_
     refine qm 7 37 (bt 10 255) rfl rfl HT_.out HW_.out hHeld ?_
     refine qj 8 38 (bt 10 511) rfl rfl HT_.out ?_
     refine last_ (i := 9) (N := none) (bt 10 1023) rfl rfl (one_of HT_.out (by kernel_rfl)) (by decide) (fun K hK => ?_)
     refine qs rfl ?_
     refine hK.out _ _ ?_
     clear hK K
     refine done_ (done_of HT_.out (by kernel_rfl)) ?_
     try go_wp2
     go_ret2
     exact ⟨_, by first | rfl | (simp [errW_none, errW_some] <;> rfl) | (simp only [← hji33]; first | rfl | (simp [errW_none, errW_some] <;> rfl)) | (simp [*, errW_none, errW_some] <;> rfl), Kd.S_mono HQ43.out (fun _ hk => hk.1), bg3 HB.out GB36.out GE130.out GE134.out, kg3 HK.out HMgo36.out (.inr GW130.out) (.inr GW134.out)⟩
   subst c16
   rw [if_pos rfl] at H
   obtain ⟨c17b0, H⟩ := ifd H
   obtain ⟨c18b0, H⟩ := ifd H
   obtain ⟨ji19, hji19⟩ : ∃ j_ : Int, (wrap64 (4 - t132)) = j_ := ⟨_, rfl⟩
   replace H : (if 0 ≤ (ji19) then (if (ji19) < (((rd_T36 l0 a1).f0).length : Int) then (some ((l0.set (a1 : Int).toNat (⟨(((rd_T36 l0 a1).f0).set ((ji19) : Int).toNat (⟨2, (⟨0, 0, 0, 0⟩ : S25)⟩ : S33)), (rd_T36 l0 a1).f1⟩ : S36)), true)) else (none)) else (none)) = some (r1, r2) := by first | (rw [hji19] at H; exact H) | (simp only [hji19] at H ⊢; exact H)
   have hji19w : (IntKind.i64.wrap (4 - t132)) = ji19 := (i64_w _).trans hji19
   obtain ⟨c20b0, H⟩ := ifd H
   obtain ⟨c21b0, H⟩ := ifd H
   obtain ⟨y136, hy136⟩ : ∃ y_ : List (S33), y_ = (((rd_T36 l0 a1).f0).set ((ji19) : Int).toNat (⟨2, (⟨0, 0, 0, 0⟩ : S25)⟩ : S33)) := ⟨_, rfl⟩
   replace H : (some ((l0.set (a1 : Int).toNat (⟨y136, (rd_T36 l0 a1).f1⟩ : S36)), true)) = some (r1, r2) := yy hy136 H
   have Ny136 := am hy136
   clear hy136
   obtain ⟨y138, hy138⟩ : ∃ y_ : List (S36), y_ = (l0.set (a1 : Int).toNat (⟨y136, (rd_T36 l0 a1).f1⟩ : S36)) := ⟨_, rfl⟩
   replace H : (some (y138, true)) = some (r1, r2) := yy hy138 H
   have Ny138 := am hy138
   clear hy138
   simp only [Option.some.injEq, Prod.mk.injEq] at H
   obtain ⟨rfl, rfl⟩ := H
   obtain ⟨hcz23_0, hcz23_1, hcz23_2, hcz23_3⟩ := b4 BK130.out
   obtain ⟨hfz23_0, hfz23_1, hfz23_2, hfz23_3⟩ := f4 BK130.out
   try go_wp2_with (first | (refine bx 11 #[.int .i64 0, .int .i64 0, .int .i64 0, .int .i64 0, .int .i64 0] 33 rfl ?_; intro gb134 hg w24 hbox hb; replace HO_0 := am (Kd.S_below (Kd.S_elderB (ps HO_0.out) gb134 (Nat.le_of_eq hg.symm)) hb); replace HR131_0 := am (Kd.C_below (pc HR131_0.out) hb); have BK134 := am (hbox); have GW134 := am (gw hg (kg1 HK.out (.inr GW130.out))); replace HK := am (Kept.below (kg1 HK.out (.inr GW130.out)) hb); have GE134 := am (ge hg (bg1 HB.out GE130.out)); replace HB := am (below_step (bg1 HB.out GE130.out) hb); have NB130_134 := am (nb hg (pb BK130.out)); have NB134_130 := am (Ne.symm NB130_134.out); replace BK130 := am (blk_below (pb BK130.out) hb); clear hb hbox hg; have hnb25 := NB134_130.out; have hnc25 := NB130_134.out; obtain ⟨hcz26_0, hcz26_1, hcz26_2, hcz26_3, hcz26_4⟩ := b5 BK134.out; obtain ⟨hfz26_0, hfz26_1, hfz26_2, hfz26_3, hfz26_4⟩ := f5 BK134.out))
   have n0_ : Aside0 (Kd.S k36 36 ((((((((((w24.setCell ⟨gb134, 0, none⟩ (.int .i64 1)).setCell ⟨gb134, 1, none⟩ (.int .i64 a2_0)).setCell ⟨gb134, 2, none⟩ (.int .i64 a2_1)).setCell ⟨gb134, 3, none⟩ (.int .i64 a2_2)).setCell ⟨gb134, 4, none⟩ (.int .i64 a2_3)).setCell ⟨gb134, 0, none⟩ (.int .i64 2)).setCell ⟨gb134, 1, none⟩ (.int .i64 0)).setCell ⟨gb134, 2, none⟩ (.int .i64 0)).setCell ⟨gb134, 3, none⟩ (.int .i64 0)).setCell ⟨gb134, 4, none⟩ (.int .i64 0)) w0.heap.size (fun k_ => (P0_ k_ ∨ w.heap.size ≤ k_) ∧ k_ ≠ gb134) (.slice (some ad131) l0.length co10) l0) := ⟨ps (Kd.S_mono (Kd.S_far (p := ⟨gb134, 4, none⟩) (Kd.S_far (p := ⟨gb134, 3, none⟩) (Kd.S_far (p := ⟨gb134, 2, none⟩) (Kd.S_far (p := ⟨gb134, 1, none⟩) (Kd.S_far (p := ⟨gb134, 0, none⟩) (Kd.S_far (p := ⟨gb134, 4, none⟩) (Kd.S_far (p := ⟨gb134, 3, none⟩) (Kd.S_far (p := ⟨gb134, 2, none⟩) (Kd.S_far (p := ⟨gb134, 1, none⟩) (Kd.S_far (p := ⟨gb134, 0, none⟩) (Kd.S_mono HO_0.out (fun k_ hk => (⟨hk, hk.2⟩ : _ ∧ k_ ≠ gb134))) (fun _ hk => hk.2) (.int .i64 1)) (fun _ hk => hk.2) (.int .i64 a2_0)) (fun _ hk => hk.2) (.int .i64 a2_1)) (fun _ hk => hk.2) (.int .i64 a2_2)) (fun _ hk => hk.2) (.int .i64 a2_3)) (fun _ hk => hk.2) (.int .i64 2)) (fun _ hk => hk.2) (.int .i64 0)) (fun _ hk => hk.2) (.int .i64 0)) (fun _ hk => hk.2) (.int .i64 0)) (fun _ hk => hk.2) (.int .i64 0)) (fun _ hk => ⟨hk.1.1, hk.1.2⟩))⟩
   have n1_ : Aside0 (((((((((((w24.setCell ⟨gb134, 0, none⟩ (.int .i64 1)).setCell ⟨gb134, 1, none⟩ (.int .i64 a2_0)).setCell ⟨gb134, 2, none⟩ (.int .i64 a2_1)).setCell ⟨gb134, 3, none⟩ (.int .i64 a2_2)).setCell ⟨gb134, 4, none⟩ (.int .i64 a2_3)).setCell ⟨gb134, 0, none⟩ (.int .i64 2)).setCell ⟨gb134, 1, none⟩ (.int .i64 0)).setCell ⟨gb134, 2, none⟩ (.int .i64 0)).setCell ⟨gb134, 3, none⟩ (.int .i64 0)).setCell ⟨gb134, 4, none⟩ (.int .i64 0)).heap[gb130]? = some (.cells #[.int .i64 a2_0, .int .i64 a2_1, .int .i64 a2_2, .int .i64 a2_3] 25 (0, 0))) := ⟨bf5 (bf5 (pb BK130.out) NB130_134.out) NB130_134.out⟩
   have n2_ : Aside0 (((((((((((w24.setCell ⟨gb134, 0, none⟩ (.int .i64 1)).setCell ⟨gb134, 1, none⟩ (.int .i64 a2_0)).setCell ⟨gb134, 2, none⟩ (.int .i64 a2_1)).setCell ⟨gb134, 3, none⟩ (.int .i64 a2_2)).setCell ⟨gb134, 4, none⟩ (.int .i64 a2_3)).setCell ⟨gb134, 0, none⟩ (.int .i64 2)).setCell ⟨gb134, 1, none⟩ (.int .i64 0)).setCell ⟨gb134, 2, none⟩ (.int .i64 0)).setCell ⟨gb134, 3, none⟩ (.int .i64 0)).setCell ⟨gb134, 4, none⟩ (.int .i64 0)).heap[gb134]? = some (.cells #[.int .i64 2, .int .i64 0, .int .i64 0, .int .i64 0, .int .i64 0] 33 (0, 0))) := ⟨bp5 (bp5 (pb BK134.out))⟩
   have n3_ : Aside0 (Kept w ((((((((((w24.setCell ⟨gb134, 0, none⟩ (.int .i64 1)).setCell ⟨gb134, 1, none⟩ (.int .i64 a2_0)).setCell ⟨gb134, 2, none⟩ (.int .i64 a2_1)).setCell ⟨gb134, 3, none⟩ (.int .i64 a2_2)).setCell ⟨gb134, 4, none⟩ (.int .i64 a2_3)).setCell ⟨gb134, 0, none⟩ (.int .i64 2)).setCell ⟨gb134, 1, none⟩ (.int .i64 0)).setCell ⟨gb134, 2, none⟩ (.int .i64 0)).setCell ⟨gb134, 3, none⟩ (.int .i64 0)).setCell ⟨gb134, 4, none⟩ (.int .i64 0)) (fun k_ => P0_ k_)) := ⟨kg2 HK.out (.inr GW130.out) (.inr GW134.out)⟩
   have n4_ : Aside0 (Below w0.heap.size w0 ((((((((((w24.setCell ⟨gb134, 0, none⟩ (.int .i64 1)).setCell ⟨gb134, 1, none⟩ (.int .i64 a2_0)).setCell ⟨gb134, 2, none⟩ (.int .i64 a2_1)).setCell ⟨gb134, 3, none⟩ (.int .i64 a2_2)).setCell ⟨gb134, 4, none⟩ (.int .i64 a2_3)).setCell ⟨gb134, 0, none⟩ (.int .i64 2)).setCell ⟨gb134, 1, none⟩ (.int .i64 0)).setCell ⟨gb134, 2, none⟩ (.int .i64 0)).setCell ⟨gb134, 3, none⟩ (.int .i64 0)).setCell ⟨gb134, 4, none⟩ (.int .i64 0))) := ⟨bg2 HB.out GE130.out GE134.out⟩
   (try clear HO_0)
   (try clear BK130)
   (try clear BK134)
   (try clear HK)
   (try clear HB)
   generalize ((((((((((w24.setCell ⟨gb134, 0, none⟩ (.int .i64 1)).setCell ⟨gb134, 1, none⟩ (.int .i64 a2_0)).setCell ⟨gb134, 2, none⟩ (.int .i64 a2_1)).setCell ⟨gb134, 3, none⟩ (.int .i64 a2_2)).setCell ⟨gb134, 4, none⟩ (.int .i64 a2_3)).setCell ⟨gb134, 0, none⟩ (.int .i64 2)).setCell ⟨gb134, 1, none⟩ (.int .i64 0)).setCell ⟨gb134, 2, none⟩ (.int .i64 0)).setCell ⟨gb134, 3, none⟩ (.int .i64 0)).setCell ⟨gb134, 4, none⟩ (.int .i64 0)) = w27 at n0_ n1_ n2_ n3_ n4_ ⊢
   have HO_0 := n0_
   have BK130 := n1_
   have BK134 := n2_
   have HK := n3_
   have HB := n4_
   clear n0_ n1_ n2_ n3_ n4_
   replace HO_0 := am (Kd.S_drew HO_0.out)
   replace BK130 := am (blk_drew BK130.out)
   replace BK134 := am (blk_drew BK134.out)
   replace HK := am (Kept.drew HK.out)
   replace HB := am (below_drew1 HB.out)
   have p135 : 0 ≤ (a1 : Int) := ofb
   have q135 : a1 < (l0.length : Int) := ofb
   obtain ⟨ad135, A135_0, c135_0, e135, hx135_0, hx135_1, hl135_0, hi135_0⟩ := at_T36 (Kd.S_reads' HO_0.out).2.2 a1 p135 q135
   obtain rfl : ad131 = ad135 := (by injection e135)
   obtain ⟨ce135, hce135, hMe135, hcc135⟩ := Kd.S_get HO_0.out z36 a1 p135 (by first | exact q135 | exact ofb | (have e_ := (Kd.S_reads' HO_0.out).1; omega))
   obtain ⟨ve135_0, rfl, ge135_0⟩ := k36_openM hMe135
   have hv135_0 := hcc135 0 _ rfl
   rw [Nat.add_zero] at hv135_0
   replace hv135_0 := Option.some.inj (hv135_0.symm.trans hx135_0)
   rw [hv135_0] at ge135_0
   have HL135_0 := am (show Kd.R k33 33 _ _ _ _ ((rd_T36 l0 a1).f0) from ge135_0)
   clear hv135_0 ge135_0
   have HX135_0 := am hx135_0
   clear hcc135 hce135
   have HR135_0 := am hi135_0
   have HC135_0 := am hl135_0
   clear hi135_0 hl135_0
   replace p135 := eq_true p135
   replace q135 := eq_true q135
   have p22 : 0 ≤ ((ji19) : Int) := ofb
   have q22 : ((ji19) : Int) < ((((rd_T36 l0 a1).f0).length : Int) : Int) := ofb
   obtain ⟨go22, co22, eo22, gb22, gl22, cl22, HG22⟩ := Kd.R_form HL135_0.out (by omega)
   (first | cases eo22 | (injection eo22 with ea_ en_ ec_; (first | subst ea_ | (injection ea_ with ea_; subst ea_)); subst ec_; clear en_))
   have GB22 := am gb22
   have GG22 := am HG22
   clear gb22 gl22 HG22
   have HMgo22 := am (show (P0_ go22 ∨ w.heap.size ≤ go22) from (HL135_0.out.1 _ rfl).1.1)
   obtain ⟨ce22, hcl22, hM22, hcc22, hfr22⟩ := Kd.R_elem HL135_0.out z33 ((ji19) : Int) p22 q22
   obtain rfl := k33_openM hM22
   have hx22_0 : World.cell? _ ⟨go22, ((ji19) : Int).toNat * 5, none⟩ = some (.int .i64 ((rd_T33 ((rd_T36 l0 a1).f0) (ji19)).f0)) := hcc22 0 _ rfl
   have hx22_1 : World.cell? _ ⟨go22, ((ji19) : Int).toNat * 5 + 1, none⟩ = some (.int .i64 ((rd_T33 ((rd_T36 l0 a1).f0) (ji19)).f1.f0)) := hcc22 1 _ rfl
   have hx22_2 : World.cell? _ ⟨go22, ((ji19) : Int).toNat * 5 + 2, none⟩ = some (.int .i64 ((rd_T33 ((rd_T36 l0 a1).f0) (ji19)).f1.f1)) := hcc22 2 _ rfl
   have hx22_3 : World.cell? _ ⟨go22, ((ji19) : Int).toNat * 5 + 3, none⟩ = some (.int .i64 ((rd_T33 ((rd_T36 l0 a1).f0) (ji19)).f1.f2)) := hcc22 3 _ rfl
   have hx22_4 : World.cell? _ ⟨go22, ((ji19) : Int).toNat * 5 + 4, none⟩ = some (.int .i64 ((rd_T33 ((rd_T36 l0 a1).f0) (ji19)).f1.f3)) := hcc22 4 _ rfl
   have hf22_0 : World.frozen? _ ⟨go22, ((ji19) : Int).toNat * 5, none⟩ = false := hfr22 0
   have hf22_1 : World.frozen? _ ⟨go22, ((ji19) : Int).toNat * 5 + 1, none⟩ = false := hfr22 1
   have hf22_2 : World.frozen? _ ⟨go22, ((ji19) : Int).toNat * 5 + 2, none⟩ = false := hfr22 2
   have hf22_3 : World.frozen? _ ⟨go22, ((ji19) : Int).toNat * 5 + 3, none⟩ = false := hfr22 3
   have hf22_4 : World.frozen? _ ⟨go22, ((ji19) : Int).toNat * 5 + 4, none⟩ = false := hfr22 4
   clear hcl22 hcc22 hfr22 hM22
   replace p22 := eq_true p22
   replace q22 := eq_true q22
   have hq29 : (a1 : Int) < (l0.length : Int) := (by have h_ : (a1 : Int) < ((l0.length : Int) : Int) := ofb; first | exact h_ | (have e_ := (Kd.S_reads' HO_0.out).1; omega) | simpa only [List.length_set, List.length_set] using h_)
   obtain ⟨oki29, ce29, hcl29, hM29, hcc29, hok29, hbk29⟩ := Kd.S_borrow HO_0.out z36 (a1 : Int) (ofb) hq29
   obtain ⟨ve29_0, rfl, ge29_0⟩ := k36_openM hM29
   have hv29 := hcc29 0 _ rfl
   rw [Nat.add_zero] at hv29
   replace hv29 := Option.some.inj (hv29.symm.trans HX135_0.out)
   subst hv29
   clear hcc29 hcl29
   replace ge29_0 := (show Kd.R k33 33 _ _ _ _ ((rd_T36 l0 a1).f0) from ge29_0)
   obtain ⟨cf29, hcl29, hN29, hcc29, hfr29⟩ := Kd.R_elem ge29_0 z33 ((ji19) : Int) (ofb) (by have h_ : ((ji19) : Int) < ((((rd_T36 l0 a1).f0).length : Int) : Int) := ofb; first | exact h_ | (have e_ := (Kd.R_reads' HR135_0.out).1; omega) | simpa using h_)
   obtain rfl := k33_openM hN29
   have HP29 := Kd.R_seg ge29_0 ((ji19) : Int) (ofb) (by have h_ : ((ji19) : Int) < ((((rd_T36 l0 a1).f0).length : Int) : Int) := ofb; first | exact h_ | (have e_ := (Kd.R_reads' HR135_0.out).1; omega) | simpa using h_) (seg := [.int .i64 2, .int .i64 0, .int .i64 0, .int .i64 0, .int .i64 0]) (j := 0) hcl29 hcc29 (show 5 ≤ 5 from by decide) (x' := (⟨2, (⟨0, 0, 0, 0⟩ : S25)⟩ : S33)) (k33_mkM _ _ _ (⟨2, (⟨0, 0, 0, 0⟩ : S25)⟩ : S33)) (fun _ hk => hk)
   clear hcl29 hcc29 hfr29 hN29
   rw [← Ny136.out] at HP29
   have HS29 := hbk29 HP29.2 (fun k_ e_ => by injection e_ with e_; subst e_; exact ge29_0.1 _ rfl) (x' := (⟨y136, (rd_T36 l0 a1).f1⟩ : S36)) (k36_mkM _ _ _ (⟨y136, (rd_T36 l0 a1).f1⟩ : S36) HP29.1)
   rw [← Ny138.out] at HS29
   have HQ29 := am HS29
   clear HP29 HS29 hbk29 hok29
   refine start_ (n := 10) (S := fun w' => w'.cell? ⟨gb134, 0, none⟩ = some (.int .i64 2) ∧ w'.cell? ⟨gb134, 1, none⟩ = some (.int .i64 0) ∧ w'.cell? ⟨gb134, 2, none⟩ = some (.int .i64 0) ∧ w'.cell? ⟨gb134, 3, none⟩ = some (.int .i64 0) ∧ w'.cell? ⟨gb134, 4, none⟩ = some (.int .i64 0) ∧ w'.cell? (ad131.add ((a1).toNat * 2)) = some (.slice (some ⟨go22, 0, none⟩) ((rd_T36 l0 a1).f0).length c135_0) ∧ w'.cell? ⟨(ad131.add ((a1).toNat * 2)).block, (ad131.add ((a1).toNat * 2)).off + 1, none⟩ = some (.int .i64 ((rd_T36 l0 a1).f1))) (ds := [9]) (bt 10 0) (by kernel_rfl) rfl rfl ⟨(blk_cell BK134.out 0).trans rfl, (blk_cell BK134.out 1).trans rfl, (blk_cell BK134.out 2).trans rfl, (blk_cell BK134.out 3).trans rfl, (blk_cell BK134.out 4).trans rfl, hx135_0, hx135_1⟩ (fun hHeld => ?_); refine with_tabW spec_l2Write.tab7 spec_l2Write.bits7 (fun HT_ HW_ => ?_)
   generalize w27.drew = w28 at HO_0 BK130 BK134 HK HB GG22 HL135_0 HQ29 HR135_0 HX135_0 hf22_0 hf22_1 hf22_2 hf22_3 hf22_4 hx135_0 hx135_1 hx22_0 hx22_1 hx22_2 hx22_3 hx22_4 hHeld ⊢
   refine qj 0 30 (bt 10 1) rfl rfl HT_.out ?_
   refine qj 1 31 (bt 10 3) rfl rfl HT_.out ?_
   refine qj 2 32 (bt 10 7) rfl rfl HT_.out ?_
   refine qj 3 33 (bt 10 15) rfl rfl HT_.out ?_
   refine qj 5 35 (bt 10 47) rfl rfl HT_.out ?_
   refine qj 6 36 (bt 10 111) rfl rfl HT_.out ?_
   refine qm 4 34 (bt 10 127) rfl rfl HT_.out HW_.out hHeld ?_
   refine qm 7 37 (bt 10 255) rfl rfl HT_.out HW_.out hHeld ?_
   refine qj 8 38 (bt 10 511) rfl rfl HT_.out ?_
   refine last_ (i := 9) (N := none) (bt 10 1023) rfl rfl (one_of HT_.out (by kernel_rfl)) (by decide) (fun K hK => ?_)
   refine qs rfl ?_
   refine hK.out _ _ ?_
   clear hK K
   refine done_ (done_of HT_.out (by kernel_rfl)) ?_
   try go_wp2
   go_ret2
   exact ⟨_, by first | rfl | (simp [errW_none, errW_some] <;> rfl) | (simp only [← hji19]; first | rfl | (simp [errW_none, errW_some] <;> rfl)) | (simp [*, errW_none, errW_some] <;> rfl), Kd.S_mono HQ29.out (fun _ hk => hk.1), bg3 HB.out GB22.out GE130.out GE134.out, kg3 HK.out HMgo22.out (.inr GW130.out) (.inr GW134.out)⟩
end Go.Proofs.Ythmgdljblidgjaa.Rw
