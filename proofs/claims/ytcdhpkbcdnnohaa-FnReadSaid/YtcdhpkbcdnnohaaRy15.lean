-- printed by wip/pp/pp.py
import Derived.Test.YtcdhpkbcdnnohaaRy0
import Derived.Test.YtcdhpkbcdnnohaaRy1
import Derived.Test.YtcdhpkbcdnnohaaRy3
import Derived.Test.YtcdhpkbcdnnohaaRy14
import Derived.WalkKit
import Derived.OwnWalkIn
import Derived.TacticsInMore
import Derived.LoopNIn
import Derived.LoopIn
import Derived.IntWalk
import Derived.WalkArith
import Derived.Test.YtcdhpkbcdnnohaaWStep
import Derived.RangeFuncLeaves
import Derived.Test.YtcdhpkbcdnnohaaRy4
import Derived.RangeFuncNested
import Derived.RangeFuncBound
import Derived.RangeFuncCalls
import Derived.Shelf.Abstract
import Derived.Test.YtcdhpkbcdnnohaaRy11
import Derived.Test.YtcdhpkbcdnnohaaRy13
namespace Go.Proofs.Ytcdhpkbcdnnohaa.Ry
open Go.RowKit Go.Proofs.YtcdhpkbcdnnohaaW.PrintWords Go.Proofs.YtcdhpkbcdnnohaaW.PrintLast Go.Proofs.YtcdhpkbcdnnohaaW.PrintMore
attribute [local go_sem] max2_int min2_int max_two min_two max_three min_three max_four min_four
set_option linter.unusedVariables false
set_option linter.unusedSimpArgs false
attribute [local go_sem] Oper.semAt_some
mutual
def spec_StoreOk.j0 : Nat → Bool → List (S60) → List Int → Option (Bool)
 | 0, _, _, _ => none
 | k + 1, x15, x230000, x230001 => if x15 = true then (some false) else (spec_StoreOk.l0 k 0 x230000 x230001)
def spec_StoreOk.l0 : Nat → Int → List (S60) → List Int → Option (Bool)
 | 0, _, _, _ => none
 | k + 1, x3, x230000, x230001 => if x3 < 6 then ((spec_l3Last.f k x230000 (wrap64 (x3 + 1))).bind fun bt231 => (if 0 ≤ x3 then (if x3 < (x230001.length : Int) then ((spec_l6In.f (rd x230001 x3) 0 9).bind fun t238 => (if t238 = true then (if bt231.2.2.2.2 = true then (if bt231.1 = 2 then (if bt231.2.2.2.1 = (rd x230001 x3) then (spec_StoreOk.l0 k (wrap64 (x3 + 1)) x230000 x230001) else (some false)) else (spec_StoreOk.l0 k (wrap64 (x3 + 1)) x230000 x230001)) else (spec_StoreOk.l0 k (wrap64 (x3 + 1)) x230000 x230001)) else (some false))) else (none)) else (none))) else (some true)
end
def spec_StoreOk.f (k : Nat) (l0_0 : List (S60)) (l0_1 : List Int) : Option (Bool) := (spec_FindOrder.f l0_0).bind fun t230 => (if t230 = true then (spec_StoreOk.j0 k ((l0_1.length : Int) != 6) l0_0 l0_1) else (spec_StoreOk.j0 k true l0_0 l0_1))
theorem spec_StoreOk.mono_l : ∀ k, (∀ y0 y1 y2, LeO (spec_StoreOk.j0 k y0 y1 y2) (spec_StoreOk.j0 (k + 1) y0 y1 y2)) ∧ (∀ y0 y1 y2, LeO (spec_StoreOk.l0 k y0 y1 y2) (spec_StoreOk.l0 (k + 1) y0 y1 y2))
 | 0 => ⟨fun _ _ _ r h => by simp [spec_StoreOk.j0] at h, fun _ _ _ r h => by simp [spec_StoreOk.l0] at h⟩
 | k + 1 => by
  obtain ⟨ih0, ih1⟩ := spec_StoreOk.mono_l k
  refine ⟨?_, ?_⟩
  · intro y0 y1 y2
    unfold spec_StoreOk.j0
    with_reducible repeat' first | exact ih0 _ _ _ | exact ih1 _ _ _ | exact spec_l3Last.mono _ _ _ | exact LeO.refl _ | exact LeO.none _ | refine LeO.ite ?_ ?_ | refine LeO.bind ?_ (fun _ => ?_)
  · intro y0 y1 y2
    unfold spec_StoreOk.l0
    with_reducible repeat' first | exact ih0 _ _ _ | exact ih1 _ _ _ | exact spec_l3Last.mono _ _ _ | exact LeO.refl _ | exact LeO.none _ | refine LeO.ite ?_ ?_ | refine LeO.bind ?_ (fun _ => ?_)
theorem spec_StoreOk.mono : ∀ a0 a1 k, LeO (spec_StoreOk.f k a0 a1) (spec_StoreOk.f (k + 1) a0 a1) := by
 intro a0 a1 k
 obtain ⟨ih0, ih1⟩ := spec_StoreOk.mono_l k
 unfold spec_StoreOk.f
 with_reducible repeat' first | exact ih0 _ _ _ | exact ih1 _ _ _ | exact spec_l3Last.mono _ _ _ | exact LeO.refl _ | exact LeO.none _ | refine LeO.ite ?_ ?_ | refine LeO.bind ?_ (fun _ => ?_)
def StS (w : World) (g : Nat) (A0 : Option Addr) (n0 c0 : Nat) (A1 : Option Addr) (c1 : Nat) (ad : Addr) (d : Int) (b : Nat) (q1 q2 q3 q4 : Int) (W : World) : Prop :=
 W.cell? ⟨b, 1, none⟩ = some (.slice A1 6 c1) ∧ W.cell? ⟨g, 0, none⟩ = some (.int .i64 q1) ∧ W.cell? ⟨g, 3, none⟩ = some (.int .i64 q4) ∧ W.cell? ad = some (.int .i64 d) ∧
 W.heap[b]? = some (.cells #[.slice A0 n0 c0, .slice A1 6 c1] 26 (0, 0)) ∧ W.heap[g]? = some (.cells #[.int .i64 q1, .int .i64 q2, .int .i64 q3, .int .i64 q4] 32 (0, 0)) ∧ Below w.heap.size w W
section
variable {w : World} {g : Nat} {A0 : Option Addr} {n0 c0 : Nat} {A1 : Option Addr} {c1 : Nat} {ad : Addr} {d : Int} {b : Nat} {q1 q2 q3 q4 : Int} {W W' : World}
theorem stStep (h : StS w g A0 n0 c0 A1 c1 ad d b q1 q2 q3 q4 W) (hb : Below W.heap.size W W') : StS w g A0 n0 c0 A1 c1 ad d b q1 q2 q3 q4 W' := by
 obtain ⟨_, _, _, h4, h5, h6, h7⟩ := h
 have h5 := blk_below h5 hb
 have h6 := blk_below h6 hb
 exact ⟨(blk_cell h5 1).trans rfl, (blk_cell h6 0).trans rfl, (blk_cell h6 3).trans rfl, up hb h4, h5, h6, below_then h7 h7.size hb⟩
theorem stC (h : StS w g A0 n0 c0 A1 c1 ad d b q1 q2 q3 q4 W) : W.cell? ⟨b, 1, none⟩ = some (.slice A1 6 c1) ∧ W.cell? ad = some (.int .i64 d) := ⟨h.1, h.2.2.2.1⟩
theorem stG (h : StS w g A0 n0 c0 A1 c1 ad d b q1 q2 q3 q4 W) : W.cell? ⟨g, 0, none⟩ = some (.int .i64 q1) ∧ W.cell? ⟨g, 3, none⟩ = some (.int .i64 q4) := ⟨h.2.1, h.2.2.1⟩
theorem stDrew (h : StS w g A0 n0 c0 A1 c1 ad d b q1 q2 q3 q4 W) : StS w g A0 n0 c0 A1 c1 ad d b q1 q2 q3 q4 W.drew := stStep h (below_drew (Below.refl _ _))
end
set_option maxRecDepth 100000 in
set_option maxHeartbeats 8000000 in
theorem spec_StoreOk.calls (k : Nat) (A0_0 : Option Addr) (c0_0 : Nat) (l0_0 : List (S60)) (A0_1 : Option Addr) (c0_1 : Nat) (l0_1 : List Int) (r : Bool) (w : World) (hr0_0 : Kd.C k60 w A0_0 l0_0.length l0_0) (hc0_0 : l0_0.length ≤ c0_0) (hr0_1 : Kd.C (Kd.int .i64) w A0_1 l0_1.length l0_1) (hc0_1 : l0_1.length ≤ c0_1) (h : spec_StoreOk.f k l0_0 l0_1 = some r) :
 Calls Try.prog 7 #[.agg #[.slice A0_0 l0_0.length c0_0, .slice A0_1 l0_1.length c0_1]] w fun e w' => e = .returned (.bool r) ∧ Below w.heap.size w w' := by
 refine (callsIn_wide (n := 3)).1 ?_
 have hu := Try.underlying26
 have hu2 := Try.underlying32
 have hbox := blk_new w (.cells #[.slice A0_0 l0_0.length c0_0, .slice A0_1 l0_1.length c0_1] 26)
 have hB1 := below_alloc (Below.refl _ w) (.cells #[.slice A0_0 l0_0.length c0_0, .slice A0_1 l0_1.length c0_1] 26)
 unfold spec_StoreOk.f at h
 obtain ⟨t, ht, h⟩ := Option.bind_eq_some_iff.1 h
 have hor := callsIn_wide (n := 2).2 (spec_FindOrder.calls A0_0 c0_0 l0_0 t _ (Kd.C_below hr0_0 hB1) hc0_0 ht)
 cases k with
 | zero => cases t <;> simp [spec_StoreOk.j0] at h
 | succ k =>
 cases t with
 | false =>
  rw [if_neg (by simp), spec_StoreOk.j0, if_pos rfl] at h
  obtain rfl := Option.some.inj h
  clear h ht
  refine callsIn_of_wp Try.func7 rfl trivial ?_ rfl
  simp only [Try.ntmps7, List.size_toArray, List.length_cons, List.length_nil, Nat.reduceAdd, Nat.reduceSub, Array.replicate_succ, Array.replicate_zero, List.push_toArray, List.append_toArray, List.nil_append, List.cons_append]
  gi_wp2_with (first | (refine ⟨trivial, ?_⟩; gi_at_call 17; refine hor.mono ?_; rintro e w1 ⟨rfl, hb⟩; have hB2 := below_then hB1 hB1.size hb))
  go_ret
  exact ⟨rfl, hB2⟩
 | true =>
 rw [if_pos rfl, spec_StoreOk.j0] at h
 by_cases c6 : (l0_1.length : Int) = 6
 rotate_left
 · have c6b : ((l0_1.length : Int) != 6) = true := by simp [c6]
   rw [c6b, if_pos rfl] at h
   obtain rfl := Option.some.inj h
   clear h ht c6
   refine callsIn_of_wp Try.func7 rfl trivial ?_ rfl
   simp only [Try.ntmps7, List.size_toArray, List.length_cons, List.length_nil, Nat.reduceAdd, Nat.reduceSub, Array.replicate_succ, Array.replicate_zero, List.push_toArray, List.append_toArray, List.nil_append, List.cons_append]
   gi_wp2_with (first | (refine ⟨trivial, ?_⟩; gi_at_call 17; refine hor.mono ?_; rintro e w1 ⟨rfl, hb⟩; have hbx := blk_below hbox hb; have hB2 := below_then hB1 hB1.size hb; have hq1 : w1.cell? ⟨w.heap.size, 1, none⟩ = some (.slice A0_1 l0_1.length c0_1) := (blk_cell hbx 1).trans rfl))
   go_ret
   exact ⟨rfl, hB2⟩
 · have c6b : ((l0_1.length : Int) != 6) = false := by simp [c6]
   rw [c6b, if_neg (by simp)] at h
   have H := am h
   have hl : l0_1.length = 6 := by omega
   clear h ht c6 c6b
   rw [hl] at hbox hB1 hor ⊢
   have hl3 : ∀ (W : World) (kk : Nat) (a q1 q2 q3 q4 : Int) (q5 : Bool), Below w.heap.size w W → spec_l3Last.f kk l0_0 a = some (q1, q2, q3, q4, q5) → CallsIn Fence.wide 2 Try.prog 18 #[.slice A0_0 l0_0.length c0_0, .int .i64 a] W fun e w' => e = .returned (.tuple #[.agg #[.int .i64 q1, .int .i64 q2, .int .i64 q3, .int .i64 q4], .bool q5]) ∧ Below W.heap.size W w' := fun W kk a q1 q2 q3 q4 q5 hb hq => callsIn_wide.2 (spec_l3Last.calls kk A0_0 c0_0 l0_0 a q1 q2 q3 q4 q5 W (Kd.C_below hr0_0 hb) hc0_0 hq)
   refine callsIn_of_wp Try.func7 rfl trivial ?_ rfl
   simp only [Try.ntmps7, List.size_toArray, List.length_cons, List.length_nil, Nat.reduceAdd, Nat.reduceSub, Array.replicate_succ, Array.replicate_zero, List.push_toArray, List.append_toArray, List.nil_append, List.cons_append]
   gi_wp2_with (first | (refine ⟨trivial, ?_⟩; gi_at_call 17; refine hor.mono ?_; rintro e w1 ⟨rfl, hb⟩; have hbx := blk_below hbox hb; have hB2 := below_then hB1 hB1.size hb; have hq1 : w1.cell? ⟨w.heap.size, 1, none⟩ = some (.slice A0_1 6 c0_1) := (blk_cell hbx 1).trans rfl))
   clear hor hq1 hbox hB1 hb
   gi_loopw [3] (fun v3 wr => ∃ (i kq : Nat), v3 = .int .i64 (i : Int) ∧ i ≤ 6 ∧ Aside0 (spec_StoreOk.l0 kq (i : Int) l0_0 l0_1 = some r) ∧ Aside0 (wr.heap[w.heap.size]? = some (.cells #[.slice A0_0 l0_0.length c0_0, .slice A0_1 6 c0_1] 26 (0, 0))) ∧ Aside0 (Below w.heap.size w wr)) (fun v3 _ => 6 - (intOf v3).toNat)
   case atStart => exact ⟨0, k, rfl, by omega, H, ⟨hbx⟩, ⟨hB2⟩⟩
   case round =>
    clear H hbx hB2
    obtain ⟨i, kq, rfl, hi, HA, hX, hB⟩ := hrel
    cases kq with
    | zero => exact absurd HA.out (by simp [spec_StoreOk.l0])
    | succ k1 =>
    have h := HA.out
    clear HA
    rw [spec_StoreOk.l0] at h
    by_cases ci : i < 6
    rotate_left
    · obtain rfl : i = 6 := by omega
      rw [if_neg (by omega)] at h
      obtain rfl := Option.some.inj h
      clear h
      gi_wp2
      go_ret
      exact ⟨rfl, hB.out⟩
    · have cib : decide ((i : Int) < 6) = true := decide_eq_true (by omega)
      have p1 : 0 ≤ (i : Int) := by omega
      have q1_ : (i : Int) < 6 := by omega
      rw [if_pos (by omega), IntWalk.wrap64_in _ (by omega)] at h
      obtain ⟨⟨q1, q2, q3, q4, q5⟩, hq, h⟩ := Option.bind_eq_some_iff.1 h
      dsimp only at h
      rw [if_pos (by omega), if_pos (by omega)] at h
      obtain ⟨b6, hb6, h⟩ := Option.bind_eq_some_iff.1 h
      obtain ⟨ad1, e1, hx1⟩ := Kd.at_int hr0_1 (i : Int) p1 (by omega)
      cases e1
      simp only [Int.toNat_natCast] at hx1
      generalize rd l0_1 (i : Int) = d at hx1 h hb6
      have HX1 := am hx1
      have h6 : ∀ W, Calls Try.prog 15 #[.int .i64 d, .int .i64 0, .int .i64 9] W fun e w' => e = .returned (.bool b6) ∧ Below W.heap.size W w' := fun W => (spec_l6In.calls d 0 9 b6 W hb6).mono fun e w' h => ⟨h.1, h.2.below⟩
      have hc3 := fun W hb => hl3 W k1 _ q1 q2 q3 q4 q5 hb hq
      have HC3 := am hc3
      have HN := fun (hn : spec_StoreOk.l0 k1 ((i : Int) + 1) l0_0 l0_1 = some r) => (show spec_StoreOk.l0 k1 ((i + 1 : Nat) : Int) l0_0 l0_1 = some r from by rw [show ((i + 1 : Nat) : Int) = (i : Int) + 1 by omega]; exact hn)
      have H := am h
      have HNN := am HN
      have hcx0 : wr.cell? ⟨w.heap.size, 0, none⟩ = some (.slice A0_0 l0_0.length c0_0) := (blk_cell hX.out 0).trans rfl
      clear h hq hb6 hx1 hc3 HN hl3
      gi_wp2_with (first | (refine ⟨trivial, ?_⟩; gi_at_call 18; refine (HC3.out _ hB.out).mono ?_; rintro e w4 ⟨rfl, hb⟩; have hX4 := am (blk_below hX.out hb); have hB4 := am (below_then hB.out hB.out.size hb); have HX4 := am (up hB4.out HX1.out); clear hb hcx0))
      have hg : (w4.alloc (.cells #[.int .i64 q1, .int .i64 q2, .int .i64 q3, .int .i64 q4] 32)).heap[w4.heap.size]? = some (.cells #[.int .i64 q1, .int .i64 q2, .int .i64 q3, .int .i64 q4] 32 (0, 0)) := blk_new w4 _
      have hX5 := blk_alloc hX4.out (.cells #[.int .i64 q1, .int .i64 q2, .int .i64 q3, .int .i64 q4] 32)
      have hSt : StS w w4.heap.size A0_0 l0_0.length c0_0 (some ad1) c0_1 (ad1.add i) d w.heap.size q1 q2 q3 q4 (w4.alloc (.cells #[.int .i64 q1, .int .i64 q2, .int .i64 q3, .int .i64 q4] 32)) := ⟨(blk_cell hX5 1).trans rfl, (blk_cell hg 0).trans rfl, (blk_cell hg 3).trans rfl, up (below_alloc (Below.refl _ _) _) HX4.out, hX5, hg, below_alloc hB4.out _⟩
      have h := H.out
      clear H hX hB HC3 HX1 hg hX5 hX4 hB4 HX4
      cases b6 with
      | false =>
       rw [if_neg (by simp)] at h
       obtain rfl := Option.some.inj h
       clear h HNN
       refine wpIn_wide.2 ?_
       refine start_ (n := 25) (S := StS w w4.heap.size A0_0 l0_0.length c0_0 (some ad1) c0_1 (ad1.add i) d w.heap.size q1 q2 q3 q4) (ds := []) (bt_ 25 0) (by kernel_rfl) rfl rfl (stDrew hSt) ?_
       intro hSt
       refine pi_ 0 28 (bt_ 25 1) rfl rfl (fun _ _ _ h => h) ?_
       refine pl_ 1 29 (bt_ 25 3) rfl rfl (fun _ _ _ h => h) hSt (fun _ h => stC h) ?_
       refine pi_ 2 30 (bt_ 25 7) rfl rfl (fun _ _ _ h => h) ?_
       refine pi_ 3 31 (bt_ 25 15) rfl rfl (fun _ _ _ h => h) ?_
       refine pl_ 4 32 (bt_ 25 31) rfl rfl (fun _ _ _ h => h) hSt (fun _ h => stC h) ?_
       refine pk_ 5 33 (bt_ 25 63) rfl rfl Try.func15 #[.int .i64 d, .int .i64 0, .int .i64 9] rfl (h6 _) (fun _ h => stStep hSt h) ?_; intro w5 hSt
       refine pi_ 6 34 (bt_ 25 127) rfl rfl (fun _ _ _ h => h) ?_
       refine pi_ 7 35 (bt_ 25 255) rfl rfl (fun _ _ _ h => h) ?_
       refine pu_ 8 36 (bt_ 25 511) rfl rfl (fun _ _ _ h => h) ?_
       refine pu_ 9 37 (bt_ 25 1023) rfl rfl (fun _ _ _ h => h) ?_
       refine pu_ 10 38 (bt_ 25 2047) rfl rfl (fun _ _ _ h => h) ?_
       refine pu_ 11 39 (bt_ 25 4095) rfl rfl (fun _ _ _ h => h) ?_
       refine pu_ 12 40 (bt_ 25 8191) rfl rfl (fun _ _ _ h => h) ?_
       refine pu_ 13 41 (bt_ 25 16383) rfl rfl (fun _ _ _ h => h) ?_
       refine pu_ 14 42 (bt_ 25 32767) rfl rfl (fun _ _ _ h => h) ?_
       refine pu_ 15 43 (bt_ 25 65535) rfl rfl (fun _ _ _ h => h) ?_
       refine pu_ 16 44 (bt_ 25 131071) rfl rfl (fun _ _ _ h => h) ?_
       refine pu_ 17 45 (bt_ 25 262143) rfl rfl (fun _ _ _ h => h) ?_
       refine pu_ 18 46 (bt_ 25 524287) rfl rfl (fun _ _ _ h => h) ?_
       refine pu_ 19 47 (bt_ 25 1048575) rfl rfl (fun _ _ _ h => h) ?_
       refine pu_ 20 48 (bt_ 25 2097151) rfl rfl (fun _ _ _ h => h) ?_
       refine pu_ 21 49 (bt_ 25 4194303) rfl rfl (fun _ _ _ h => h) ?_
       refine pu_ 22 50 (bt_ 25 8388607) rfl rfl (fun _ _ _ h => h) ?_
       refine pu_ 23 51 (bt_ 25 16777215) rfl rfl (fun _ _ _ h => h) ?_
       refine pi_ 24 52 (bt_ 25 33554431) rfl rfl (fun _ _ _ h => h) ?_
       refine done_ (by kernel_rfl) ?_
       obtain ⟨_, _, _, _, _, _, hB⟩ := hSt
       gi_wp2
       go_ret
       exact ⟨rfl, hB⟩
      | true =>
       rw [if_pos rfl] at h
       cases q5 with
       | false =>
        rw [if_neg (by simp)] at h
        have HN := am (HNN.out h)
        clear h HNN
        refine wpIn_wide.2 ?_
        refine start_ (n := 25) (S := StS w w4.heap.size A0_0 l0_0.length c0_0 (some ad1) c0_1 (ad1.add i) d w.heap.size q1 q2 q3 q4) (ds := []) (bt_ 25 0) (by kernel_rfl) rfl rfl (stDrew hSt) ?_
        intro hSt
        refine pi_ 0 28 (bt_ 25 1) rfl rfl (fun _ _ _ h => h) ?_
        refine pl_ 1 29 (bt_ 25 3) rfl rfl (fun _ _ _ h => h) hSt (fun _ h => stC h) ?_
        refine pi_ 2 30 (bt_ 25 7) rfl rfl (fun _ _ _ h => h) ?_
        refine pi_ 3 31 (bt_ 25 15) rfl rfl (fun _ _ _ h => h) ?_
        refine pl_ 4 32 (bt_ 25 31) rfl rfl (fun _ _ _ h => h) hSt (fun _ h => stC h) ?_
        refine pk_ 5 33 (bt_ 25 63) rfl rfl Try.func15 #[.int .i64 d, .int .i64 0, .int .i64 9] rfl (h6 _) (fun _ h => stStep hSt h) ?_; intro w5 hSt
        refine pi_ 6 34 (bt_ 25 127) rfl rfl (fun _ _ _ h => h) ?_
        refine pi_ 7 35 (bt_ 25 255) rfl rfl (fun _ _ _ h => h) ?_
        refine pi_ 8 36 (bt_ 25 511) rfl rfl (fun _ _ _ h => h) ?_
        refine pi_ 9 37 (bt_ 25 1023) rfl rfl (fun _ _ _ h => h) ?_
        refine pu_ 10 38 (bt_ 25 2047) rfl rfl (fun _ _ _ h => h) ?_
        refine pu_ 11 39 (bt_ 25 4095) rfl rfl (fun _ _ _ h => h) ?_
        refine pu_ 12 40 (bt_ 25 8191) rfl rfl (fun _ _ _ h => h) ?_
        refine pi_ 13 41 (bt_ 25 16383) rfl rfl (fun _ _ _ h => h) ?_
        refine pi_ 14 42 (bt_ 25 32767) rfl rfl (fun _ _ _ h => h) ?_
        refine pu_ 15 43 (bt_ 25 65535) rfl rfl (fun _ _ _ h => h) ?_
        refine pu_ 16 44 (bt_ 25 131071) rfl rfl (fun _ _ _ h => h) ?_
        refine pu_ 17 45 (bt_ 25 262143) rfl rfl (fun _ _ _ h => h) ?_
        refine pu_ 18 46 (bt_ 25 524287) rfl rfl (fun _ _ _ h => h) ?_
        refine pu_ 19 47 (bt_ 25 1048575) rfl rfl (fun _ _ _ h => h) ?_
        refine pu_ 20 48 (bt_ 25 2097151) rfl rfl (fun _ _ _ h => h) ?_
        refine pu_ 21 49 (bt_ 25 4194303) rfl rfl (fun _ _ _ h => h) ?_
        refine pu_ 22 50 (bt_ 25 8388607) rfl rfl (fun _ _ _ h => h) ?_
        refine pi_ 23 51 (bt_ 25 16777215) rfl rfl (fun _ _ _ h => h) ?_
        refine pi_ 24 52 (bt_ 25 33554431) rfl rfl (fun _ _ _ h => h) ?_
        refine done_ (by kernel_rfl) ?_
        obtain ⟨_, _, _, _, hX, _, hB⟩ := hSt
        gi_wp2
        exact ⟨⟨i + 1, k1, by simp, by omega, HN, ⟨hX⟩, ⟨hB⟩⟩, by simp [intOf]; omega⟩
       | true =>
        rw [if_pos rfl] at h
        by_cases k2 : q1 = 2
        rotate_left
        · have k2b : (q1 == 2) = false := by simp [k2]
          rw [if_neg k2] at h
          have HN := am (HNN.out h)
          clear h HNN k2
          refine wpIn_wide.2 ?_
          refine start_ (n := 25) (S := StS w w4.heap.size A0_0 l0_0.length c0_0 (some ad1) c0_1 (ad1.add i) d w.heap.size q1 q2 q3 q4) (ds := []) (bt_ 25 0) (by kernel_rfl) rfl rfl (stDrew hSt) ?_
          intro hSt
          refine pi_ 0 28 (bt_ 25 1) rfl rfl (fun _ _ _ h => h) ?_
          refine pl_ 1 29 (bt_ 25 3) rfl rfl (fun _ _ _ h => h) hSt (fun _ h => stC h) ?_
          refine pi_ 2 30 (bt_ 25 7) rfl rfl (fun _ _ _ h => h) ?_
          refine pi_ 3 31 (bt_ 25 15) rfl rfl (fun _ _ _ h => h) ?_
          refine pl_ 4 32 (bt_ 25 31) rfl rfl (fun _ _ _ h => h) hSt (fun _ h => stC h) ?_
          refine pk_ 5 33 (bt_ 25 63) rfl rfl Try.func15 #[.int .i64 d, .int .i64 0, .int .i64 9] rfl (h6 _) (fun _ h => stStep hSt h) ?_; intro w5 hSt
          refine pi_ 6 34 (bt_ 25 127) rfl rfl (fun _ _ _ h => h) ?_
          refine pi_ 7 35 (bt_ 25 255) rfl rfl (fun _ _ _ h => h) ?_
          refine pi_ 8 36 (bt_ 25 511) rfl rfl (fun _ _ _ h => h) ?_
          refine pi_ 9 37 (bt_ 25 1023) rfl rfl (fun _ _ _ h => h) ?_
          refine pi_ 10 38 (bt_ 25 2047) rfl rfl (fun _ _ _ h => h) ?_
          refine pl_ 11 39 (bt_ 25 4095) rfl rfl (fun _ _ _ h => h) hSt (fun _ h => stG h) ?_
          refine pi_ 12 40 (bt_ 25 8191) rfl rfl (fun _ _ _ h => h) ?_
          refine pi_ 13 41 (bt_ 25 16383) rfl rfl (fun _ _ _ h => h) ?_
          refine pi_ 14 42 (bt_ 25 32767) rfl rfl (fun _ _ _ h => h) ?_
          refine pu_ 15 43 (bt_ 25 65535) rfl rfl (fun _ _ _ h => h) ?_
          refine pu_ 16 44 (bt_ 25 131071) rfl rfl (fun _ _ _ h => h) ?_
          refine pu_ 17 45 (bt_ 25 262143) rfl rfl (fun _ _ _ h => h) ?_
          refine pu_ 18 46 (bt_ 25 524287) rfl rfl (fun _ _ _ h => h) ?_
          refine pu_ 19 47 (bt_ 25 1048575) rfl rfl (fun _ _ _ h => h) ?_
          refine pu_ 20 48 (bt_ 25 2097151) rfl rfl (fun _ _ _ h => h) ?_
          refine pu_ 21 49 (bt_ 25 4194303) rfl rfl (fun _ _ _ h => h) ?_
          refine pu_ 22 50 (bt_ 25 8388607) rfl rfl (fun _ _ _ h => h) ?_
          refine pi_ 23 51 (bt_ 25 16777215) rfl rfl (fun _ _ _ h => h) ?_
          refine pi_ 24 52 (bt_ 25 33554431) rfl rfl (fun _ _ _ h => h) ?_
          refine done_ (by kernel_rfl) ?_
          obtain ⟨_, _, _, _, hX, _, hB⟩ := hSt
          gi_wp2
          exact ⟨⟨i + 1, k1, by simp, by omega, HN, ⟨hX⟩, ⟨hB⟩⟩, by simp [intOf]; omega⟩
        · subst k2
          rw [if_pos rfl] at h
          by_cases k3 : q4 = d
          rotate_left
          · have k3b : (q4 != d) = true := by simp [k3]
            rw [if_neg k3] at h
            obtain rfl := Option.some.inj h
            clear h HNN k3
            refine wpIn_wide.2 ?_
            refine start_ (n := 25) (S := StS w w4.heap.size A0_0 l0_0.length c0_0 (some ad1) c0_1 (ad1.add i) d w.heap.size 2 q2 q3 q4) (ds := []) (bt_ 25 0) (by kernel_rfl) rfl rfl (stDrew hSt) ?_
            intro hSt
            refine pi_ 0 28 (bt_ 25 1) rfl rfl (fun _ _ _ h => h) ?_
            refine pl_ 1 29 (bt_ 25 3) rfl rfl (fun _ _ _ h => h) hSt (fun _ h => stC h) ?_
            refine pi_ 2 30 (bt_ 25 7) rfl rfl (fun _ _ _ h => h) ?_
            refine pi_ 3 31 (bt_ 25 15) rfl rfl (fun _ _ _ h => h) ?_
            refine pl_ 4 32 (bt_ 25 31) rfl rfl (fun _ _ _ h => h) hSt (fun _ h => stC h) ?_
            refine pk_ 5 33 (bt_ 25 63) rfl rfl Try.func15 #[.int .i64 d, .int .i64 0, .int .i64 9] rfl (h6 _) (fun _ h => stStep hSt h) ?_; intro w5 hSt
            refine pi_ 6 34 (bt_ 25 127) rfl rfl (fun _ _ _ h => h) ?_
            refine pi_ 7 35 (bt_ 25 255) rfl rfl (fun _ _ _ h => h) ?_
            refine pi_ 8 36 (bt_ 25 511) rfl rfl (fun _ _ _ h => h) ?_
            refine pi_ 9 37 (bt_ 25 1023) rfl rfl (fun _ _ _ h => h) ?_
            refine pi_ 10 38 (bt_ 25 2047) rfl rfl (fun _ _ _ h => h) ?_
            refine pl_ 11 39 (bt_ 25 4095) rfl rfl (fun _ _ _ h => h) hSt (fun _ h => stG h) ?_
            refine pi_ 12 40 (bt_ 25 8191) rfl rfl (fun _ _ _ h => h) ?_
            refine pi_ 13 41 (bt_ 25 16383) rfl rfl (fun _ _ _ h => h) ?_
            refine pi_ 14 42 (bt_ 25 32767) rfl rfl (fun _ _ _ h => h) ?_
            refine pi_ 15 43 (bt_ 25 65535) rfl rfl (fun _ _ _ h => h) ?_
            refine pl_ 16 44 (bt_ 25 131071) rfl rfl (fun _ _ _ h => h) hSt (fun _ h => stG h) ?_
            refine pi_ 17 45 (bt_ 25 262143) rfl rfl (fun _ _ _ h => h) ?_
            refine pl_ 18 46 (bt_ 25 524287) rfl rfl (fun _ _ _ h => h) hSt (fun _ h => stC h) ?_
            refine pi_ 19 47 (bt_ 25 1048575) rfl rfl (fun _ _ _ h => h) ?_
            refine pi_ 20 48 (bt_ 25 2097151) rfl rfl (fun _ _ _ h => h) ?_
            refine pl_ 21 49 (bt_ 25 4194303) rfl rfl (fun _ _ _ h => h) hSt (fun _ h => stC h) ?_
            refine pi_ 22 50 (bt_ 25 8388607) rfl rfl (fun _ _ _ h => h) ?_
            refine pi_ 23 51 (bt_ 25 16777215) rfl rfl (fun _ _ _ h => h) ?_
            refine pi_ 24 52 (bt_ 25 33554431) rfl rfl (fun _ _ _ h => h) ?_
            refine done_ (by kernel_rfl) ?_
            obtain ⟨_, _, _, _, _, _, hB⟩ := hSt
            gi_wp2
            go_ret
            exact ⟨rfl, hB⟩
          have k3b : (q4 != d) = false := by simp [k3]
          rw [if_pos k3] at h
          have HN := am (HNN.out h)
          clear h HNN k3
          refine wpIn_wide.2 ?_
          refine start_ (n := 25) (S := StS w w4.heap.size A0_0 l0_0.length c0_0 (some ad1) c0_1 (ad1.add i) d w.heap.size 2 q2 q3 q4) (ds := []) (bt_ 25 0) (by kernel_rfl) rfl rfl (stDrew hSt) ?_
          intro hSt
          refine pi_ 0 28 (bt_ 25 1) rfl rfl (fun _ _ _ h => h) ?_
          refine pl_ 1 29 (bt_ 25 3) rfl rfl (fun _ _ _ h => h) hSt (fun _ h => stC h) ?_
          refine pi_ 2 30 (bt_ 25 7) rfl rfl (fun _ _ _ h => h) ?_
          refine pi_ 3 31 (bt_ 25 15) rfl rfl (fun _ _ _ h => h) ?_
          refine pl_ 4 32 (bt_ 25 31) rfl rfl (fun _ _ _ h => h) hSt (fun _ h => stC h) ?_
          refine pk_ 5 33 (bt_ 25 63) rfl rfl Try.func15 #[.int .i64 d, .int .i64 0, .int .i64 9] rfl (h6 _) (fun _ h => stStep hSt h) ?_; intro w5 hSt
          refine pi_ 6 34 (bt_ 25 127) rfl rfl (fun _ _ _ h => h) ?_
          refine pi_ 7 35 (bt_ 25 255) rfl rfl (fun _ _ _ h => h) ?_
          refine pi_ 8 36 (bt_ 25 511) rfl rfl (fun _ _ _ h => h) ?_
          refine pi_ 9 37 (bt_ 25 1023) rfl rfl (fun _ _ _ h => h) ?_
          refine pi_ 10 38 (bt_ 25 2047) rfl rfl (fun _ _ _ h => h) ?_
          refine pl_ 11 39 (bt_ 25 4095) rfl rfl (fun _ _ _ h => h) hSt (fun _ h => stG h) ?_
          refine pi_ 12 40 (bt_ 25 8191) rfl rfl (fun _ _ _ h => h) ?_
          refine pi_ 13 41 (bt_ 25 16383) rfl rfl (fun _ _ _ h => h) ?_
          refine pi_ 14 42 (bt_ 25 32767) rfl rfl (fun _ _ _ h => h) ?_
          refine pi_ 15 43 (bt_ 25 65535) rfl rfl (fun _ _ _ h => h) ?_
          refine pl_ 16 44 (bt_ 25 131071) rfl rfl (fun _ _ _ h => h) hSt (fun _ h => stG h) ?_
          refine pi_ 17 45 (bt_ 25 262143) rfl rfl (fun _ _ _ h => h) ?_
          refine pl_ 18 46 (bt_ 25 524287) rfl rfl (fun _ _ _ h => h) hSt (fun _ h => stC h) ?_
          refine pi_ 19 47 (bt_ 25 1048575) rfl rfl (fun _ _ _ h => h) ?_
          refine pi_ 20 48 (bt_ 25 2097151) rfl rfl (fun _ _ _ h => h) ?_
          refine pl_ 21 49 (bt_ 25 4194303) rfl rfl (fun _ _ _ h => h) hSt (fun _ h => stC h) ?_
          refine pi_ 22 50 (bt_ 25 8388607) rfl rfl (fun _ _ _ h => h) ?_
          refine pi_ 23 51 (bt_ 25 16777215) rfl rfl (fun _ _ _ h => h) ?_
          refine pi_ 24 52 (bt_ 25 33554431) rfl rfl (fun _ _ _ h => h) ?_
          refine done_ (by kernel_rfl) ?_
          obtain ⟨_, _, _, _, hX, _, hB⟩ := hSt
          gi_wp2
          exact ⟨⟨i + 1, k1, by simp, by omega, HN, ⟨hX⟩, ⟨hB⟩⟩, by simp [intOf]; omega⟩
def spec_StoreRead.f (k : Nat) (l0_0 : List (S60)) (l0_1 : List Int) (a1 : Int) : Option (Int) := (spec_StoreOk.f k l0_0 l0_1).bind fun t416 => (if t416 = true then ((spec_l6In.f a1 1 6).bind fun t417 => (if t417 = true then ((spec_l11Read.f k l0_0 l0_1 a1).bind fun t418 => (some t418)) else (some (-1)))) else (some (-1)))
theorem spec_StoreRead.mono : ∀ a0 a1 a2 k, LeO (spec_StoreRead.f k a0 a1 a2) (spec_StoreRead.f (k + 1) a0 a1 a2) := by
 intro a0 a1 a2 k
 unfold spec_StoreRead.f
 with_reducible repeat' first | exact spec_StoreOk.mono _ _ _ | exact spec_l11Read.mono _ _ _ _ | exact LeO.refl _ | exact LeO.none _ | refine LeO.ite ?_ ?_ | refine LeO.bind ?_ (fun _ => ?_)
set_option maxHeartbeats 8000000 in
set_option maxRecDepth 100000 in
theorem spec_StoreRead.calls (k : Nat) (A0_0 : Option Addr) (c0_0 : Nat) (l0_0 : List (S60)) (A0_1 : Option Addr) (c0_1 : Nat) (l0_1 : List Int) (a1 : Int) (r : Int) (w : World) (hr0_0 : Kd.C k60 w A0_0 l0_0.length l0_0) (hc0_0 : l0_0.length ≤ c0_0) (hr0_1 : Kd.C (Kd.int .i64) w A0_1 l0_1.length l0_1) (hc0_1 : l0_1.length ≤ c0_1) (h : spec_StoreRead.f k l0_0 l0_1 a1 = some r) :
 Calls Try.prog 6 #[.agg #[.slice A0_0 l0_0.length c0_0, .slice A0_1 l0_1.length c0_1], .int .i64 a1] w fun e w' => e = .returned (.int .i64 r) ∧ Below w.heap.size w w' := by
 have hu26 := Try.underlying26
 have HR0_0 := am hr0_0
 have HC0_0 := am hc0_0
 clear hr0_0 hc0_0
 have HR0_1 := am hr0_1
 have HC0_1 := am hc0_1
 clear hr0_1 hc0_1
 have HB := am (Below.refl w.heap.size w)
 have H : ((spec_StoreOk.f k l0_0 l0_1).bind fun t416 => (if t416 = true then ((spec_l6In.f a1 1 6).bind fun t417 => (if t417 = true then ((spec_l11Read.f k l0_0 l0_1 a1).bind fun t418 => (some t418)) else (some (-1)))) else (some (-1)))) = some r := h
 clear h
 replace H := Option.bind_eq_some_iff.mp H
 obtain ⟨t416, A30, H⟩ := H
 have A3 := am A30
 clear A30
 by_cases c4 : t416 = true
 rotate_left
 · replace c4 := Bool.eq_false_iff.mpr c4
   subst c4
   rw [if_neg (show ¬ (false = true) by decide)] at H
   obtain rfl := Option.some.inj H
   go_enter Try.func6, Try.ntmps6
   go_wp2_with (first | (refine bx 2 #[.slice A0_0 l0_0.length c0_0, .slice A0_1 l0_1.length c0_1] 26 rfl ?_; intro gb415 hg w16 hbox hb; have BK415 := am (hbox); have GW415 := am (ge hg (ph HB.out)); have GE415 := GW415; replace HB := am (below_step (ph HB.out) hb); clear hb hbox hg; obtain ⟨hcz17_0, hcz17_1⟩ := b2 BK415.out; obtain ⟨hfz17_0, hfz17_1⟩ := f2 BK415.out) | (refine gl 6 Try.func7 #[.agg #[.slice A0_0 l0_0.length c0_0, .slice A0_1 l0_1.length c0_1]] rfl ?_; (with_reducible refine (spec_StoreOk.calls k _ _ l0_0 _ _ l0_1 false _ ?side1 ?side2 ?side3 ?side4 A3.out).mono ?_); (case side1 => exact pc (Kd.C_below HR0_0.out HB.out)); (case side2 => exact HC0_0.out); (case side3 => exact pc (Kd.C_below HR0_1.out HB.out)); (case side4 => exact HC0_1.out); rintro e w18 ⟨rfl, hb⟩; refine ⟨_, rfl, ?_⟩; replace BK415 := am (blk_below (pb BK415.out) hb); replace HB := am (below_step (bg1 HB.out GE415.out) hb); (try clear hb); (try clear hb2); (try clear hk); (try clear hi)))
   go_ret
   exact (rq (bg1 HB.out GE415.out))
 subst c4
 rw [if_pos rfl] at H
 replace H := Option.bind_eq_some_iff.mp H
 obtain ⟨t417, A50, H⟩ := H
 have A5 := am A50
 clear A50
 by_cases c6 : t417 = true
 rotate_left
 · replace c6 := Bool.eq_false_iff.mpr c6
   subst c6
   rw [if_neg (show ¬ (false = true) by decide)] at H
   obtain rfl := Option.some.inj H
   go_enter Try.func6, Try.ntmps6
   go_wp2_with (first | (refine bx 2 #[.slice A0_0 l0_0.length c0_0, .slice A0_1 l0_1.length c0_1] 26 rfl ?_; intro gb415 hg w13 hbox hb; have BK415 := am (hbox); have GW415 := am (ge hg (ph HB.out)); have GE415 := GW415; replace HB := am (below_step (ph HB.out) hb); clear hb hbox hg; obtain ⟨hcz14_0, hcz14_1⟩ := b2 BK415.out; obtain ⟨hfz14_0, hfz14_1⟩ := f2 BK415.out) | (refine gl 6 Try.func7 #[.agg #[.slice A0_0 l0_0.length c0_0, .slice A0_1 l0_1.length c0_1]] rfl ?_; (with_reducible refine (spec_StoreOk.calls k _ _ l0_0 _ _ l0_1 true _ ?side1 ?side2 ?side3 ?side4 A3.out).mono ?_); (case side1 => exact pc (Kd.C_below HR0_0.out HB.out)); (case side2 => exact HC0_0.out); (case side3 => exact pc (Kd.C_below HR0_1.out HB.out)); (case side4 => exact HC0_1.out); rintro e w15 ⟨rfl, hb⟩; refine ⟨_, rfl, ?_⟩; replace BK415 := am (blk_below (pb BK415.out) hb); replace HB := am (below_step (bg1 HB.out GE415.out) hb); (try clear hb); (try clear hb2); (try clear hk); (try clear hi)) | (go_at_call 15; (with_reducible refine (spec_l6In.calls a1 1 6 false _ A5.out).mono ?_); rintro e w' ⟨rfl, ⟨nd, rfl⟩⟩))
   go_ret
   exact (rq (bg1 HB.out GE415.out))
 subst c6
 rw [if_pos rfl] at H
 replace H := Option.bind_eq_some_iff.mp H
 obtain ⟨t418, A70, H⟩ := H
 have A7 := am A70
 clear A70
 obtain rfl := Option.some.inj H
 go_enter Try.func6, Try.ntmps6
 go_wp2_with (first | (refine bx 2 #[.slice A0_0 l0_0.length c0_0, .slice A0_1 l0_1.length c0_1] 26 rfl ?_; intro gb415 hg w8 hbox hb; have BK415 := am (hbox); have GW415 := am (ge hg (ph HB.out)); have GE415 := GW415; replace HB := am (below_step (ph HB.out) hb); clear hb hbox hg; obtain ⟨hcz9_0, hcz9_1⟩ := b2 BK415.out; obtain ⟨hfz9_0, hfz9_1⟩ := f2 BK415.out) | (refine gl 6 Try.func7 #[.agg #[.slice A0_0 l0_0.length c0_0, .slice A0_1 l0_1.length c0_1]] rfl ?_; (with_reducible refine (spec_StoreOk.calls k _ _ l0_0 _ _ l0_1 true _ ?side1 ?side2 ?side3 ?side4 A3.out).mono ?_); (case side1 => exact pc (Kd.C_below HR0_0.out HB.out)); (case side2 => exact HC0_0.out); (case side3 => exact pc (Kd.C_below HR0_1.out HB.out)); (case side4 => exact HC0_1.out); rintro e w10 ⟨rfl, hb⟩; refine ⟨_, rfl, ?_⟩; replace BK415 := am (blk_below (pb BK415.out) hb); replace HB := am (below_step (bg1 HB.out GE415.out) hb); (try clear hb); (try clear hb2); (try clear hk); (try clear hi)) | (go_at_call 15; (with_reducible refine (spec_l6In.calls a1 1 6 true _ A5.out).mono ?_); rintro e w' ⟨rfl, ⟨nd, rfl⟩⟩; obtain ⟨hcz11_0, hcz11_1⟩ := b2 BK415.out; obtain ⟨hfz11_0, hfz11_1⟩ := f2 BK415.out) | (refine gl 15 Try.func16 #[.agg #[.slice A0_0 l0_0.length c0_0, .slice A0_1 l0_1.length c0_1], .int .i64 a1] rfl ?_; (with_reducible refine (spec_l11Read.calls k _ _ l0_0 _ _ l0_1 a1 t418 _ ?side1 ?side2 ?side3 ?side4 A7.out).mono ?_); (case side1 => repeat (first | exact (Kd.C_below HR0_0.out (bg1 HB.out GE415.out)) | (with_reducible refine Kd.C_alloc ?_ _) | (with_reducible refine Kd.C_drewN ?_ _) | (with_reducible refine Kd.C_drew ?_))); (case side2 => exact HC0_0.out); (case side3 => repeat (first | exact (Kd.C_below HR0_1.out (bg1 HB.out GE415.out)) | (with_reducible refine Kd.C_alloc ?_ _) | (with_reducible refine Kd.C_drewN ?_ _) | (with_reducible refine Kd.C_drew ?_))); (case side4 => exact HC0_1.out); rintro e w12 ⟨rfl, hb⟩; refine ⟨_, rfl, ?_⟩; replace BK415 := am (blk_below (pb BK415.out) hb); replace HB := am (below_step (bg1 HB.out GE415.out) hb); (try clear hb); (try clear hb2); (try clear hk); (try clear hi)))
 go_ret
 exact (rq (bg1 HB.out GE415.out))
attribute [local go_sem] Oper.semAt_some
def lastStep (a : Int) (r : S32) (p : S51) : S32 := if p.f0 = 1 ∧ p.f1.f2 = a ∧ p.f1.f1 > r.f1 then p.f1 else r
def lastA (l : List S60) (a : Int) : S32 := (pagesL l).foldl (lastStep a) ⟨0, 0, 0, 0⟩
def impl_FindLast.f (l0 : List (S60)) (a1 : Int) : Option (Int × Int × Int × Int × Bool) := some (if addrB a1 = true ∧ flashOkB l0 = true then ((lastA l0 a1).f0, (lastA l0 a1).f1, (lastA l0 a1).f2, (lastA l0 a1).f3, decide ((lastA l0 a1).f1 > 0)) else (0, 0, 0, 0, false))
def lastOf (a : Int) (pre : List AnyPage) : S32 := pre.foldl (fun m x => lastStep a m x.1.2.2) ⟨0, 0, 0, 0⟩
theorem lastOf_snoc (a : Int) (pre : List AnyPage) (x : AnyPage) : lastOf a (pre ++ [x]) = lastStep a (lastOf a pre) x.1.2.2 := by simp [lastOf]
theorem lastOf_all {a : Int} {ys : List AnyPage} {l0 : List S60} (h : ys.map (·.1) = spotsF 0 l0) : lastOf a ys = lastA l0 a := by
 unfold lastOf lastA pagesL
 rw [← h, List.foldl_map, List.foldl_map]
set_option maxRecDepth 100000 in
set_option maxHeartbeats 4000000 in
theorem impl_FindLast.calls (A0 : Option Addr) (c0 : Nat) (l0 : List (S60)) (a1 : Int) (r1 : Int) (r2 : Int) (r3 : Int) (r4 : Int) (r5 : Bool) (w : World) (hr0 : Kd.C k60 w A0 l0.length l0) (hc0 : l0.length ≤ c0) (h : impl_FindLast.f l0 a1 = some (r1, r2, r3, r4, r5)) :
 Calls Try.prog 8 #[.slice A0 l0.length c0, .int .i64 a1] w fun e w' => e = .returned (.tuple #[.agg #[.int .i64 r1, .int .i64 r2, .int .i64 r3, .int .i64 r4], .bool r5]) ∧ Below w.heap.size w w' := by
 have hu := Try.underlying32
 refine (callsIn_wide (n := 3)).1 ?_
 have hak : ∀ w, CallsIn Fence.wide 2 Try.prog 13 #[.int .i64 a1] w fun e w' => e = .returned (.bool (addrB a1)) ∧ w = w' := fun w => callsIn_wide.2 (addrOk_any a1 w)
 unfold impl_FindLast.f at h
 have h := Option.some.inj h
 have b3 := Boxed.new w 3 (.int .i64 a1)
 have b4 : RecBox ((w.alloc (.cells #[.int .i64 a1] 3)).alloc (.cells #[.int .i64 0, .int .i64 0, .int .i64 0, .int .i64 0] 32)) (w.heap.size + 1) ⟨0, 0, 0, 0⟩ := by have := blk_new (w.alloc (.cells #[.int .i64 a1] 3)) (.cells #[.int .i64 0, .int .i64 0, .int .i64 0, .int .i64 0] 32); rw [World.size_alloc] at this; exact this
 replace b3 := b3.alloc (.cells #[.int .i64 0, .int .i64 0, .int .i64 0, .int .i64 0] 32)
 have hbw : Below w.heap.size w ((w.alloc (.cells #[.int .i64 a1] 3)).alloc (.cells #[.int .i64 0, .int .i64 0, .int .i64 0, .int .i64 0] 32)) := ((Below.refl _ w).alloc (Nat.le_refl _) _).alloc (by simp) _
 cases ha : addrB a1 with
 | false =>
  simp only [ha] at hak
  rw [ha, if_neg (by simp)] at h
  cases h
  refine callsIn_of_wp_marks Try.func8 rfl trivial ?_ rfl
  simp only [Try.ntmps8, List.size_toArray, List.length_cons, List.length_nil, Nat.reduceAdd, Nat.reduceSub, Array.replicate_succ, Array.replicate_zero, List.push_toArray, List.append_toArray, List.nil_append, List.cons_append]
  gi_wp2_with (first | (refine ⟨trivial, ?_⟩; gi_at_call 13; refine (hak _).mono ?_; rintro e w1 ⟨rfl, rfl⟩) | (refine And.intro (show Fence.wide.fn 19 from trivial) ?_))
  exact ⟨_, results_ct rfl _ _ (w.heap.size + 1) _ _ _ _ rfl b4 hu rfl (by kernel_rfl), rfl, hbw⟩
 | true =>
  simp only [ha] at hak
  have hok := callsIn_wide (n := 2).2 (impl_FlashOk.calls A0 c0 l0 _ _ (Kd.C_below hr0 hbw) hc0 rfl)
  cases hf : flashOkB l0 with
  | false =>
   rw [hf] at hok
   rw [hf, if_neg (by simp)] at h
   cases h
   refine callsIn_of_wp_marks Try.func8 rfl trivial ?_ rfl
   simp only [Try.ntmps8, List.size_toArray, List.length_cons, List.length_nil, Nat.reduceAdd, Nat.reduceSub, Array.replicate_succ, Array.replicate_zero, List.push_toArray, List.append_toArray, List.nil_append, List.cons_append]
   gi_wp2_with (first | (refine ⟨trivial, ?_⟩; gi_at_call 13; refine (hak _).mono ?_; rintro e w1 ⟨rfl, rfl⟩) | (refine ⟨trivial, ?_⟩; gi_at_call 19; refine hok.mono ?_; rintro e w1 ⟨rfl, hb⟩; have b4' : RecBox w1 (w.heap.size + 1) ⟨0, 0, 0, 0⟩ := blk_below b4 hb; obtain ⟨hq0, hq1, hq2, hq3⟩ := b4'.cells; have hg0 := b4'.frozen 0; have hg1 := b4'.frozen 1; have hg2 := b4'.frozen 2; have hg3 := b4'.frozen 3))
   exact ⟨_, results_ct rfl _ _ (w.heap.size + 1) _ _ _ _ rfl (b4'.put ⟨0, 0, 0, 0⟩) hu rfl (by kernel_rfl), rfl, below_set4 (below_then hbw hbw.size hb) (by omega) ⟨0, 0, 0, 0⟩⟩
  | true =>
   rw [hf] at hok
   rw [ha, hf, if_pos ⟨rfl, rfl⟩] at h
   refine callsIn_of_wp_marks Try.func8 rfl trivial ?_ rfl
   simp only [Try.ntmps8, List.size_toArray, List.length_cons, List.length_nil, Nat.reduceAdd, Nat.reduceSub, Array.replicate_succ, Array.replicate_zero, List.push_toArray, List.append_toArray, List.nil_append, List.cons_append]
   gi_wp2_with (first | (refine ⟨trivial, ?_⟩; gi_at_call 13; refine (hak _).mono ?_; rintro e w1 ⟨rfl, rfl⟩) | (refine ⟨trivial, ?_⟩; gi_at_call 19; refine hok.mono ?_; rintro e w1 ⟨rfl, hb⟩) | (refine ⟨trivial, ?_⟩; gi_at_call 20; refine (eachPage_in Fence.wide 2 trivial rfl _ _ _ _).mono ?_; rintro e w2 ⟨rfl, rfl⟩))
   have hs1 := hb.size
   simp only [World.size_alloc] at hs1
   have b3' : Boxed w1 w.heap.size 3 (.int .i64 a1) := blk_below b3 hb
   have b4' : RecBox w1 (w.heap.size + 1) ⟨0, 0, 0, 0⟩ := blk_below b4 hb
   have hbw1 := below_then hbw hbw.size hb
   have bL : RecBox (w1.alloc (.cells #[.int .i64 0, .int .i64 0, .int .i64 0, .int .i64 0] 32)) w1.heap.size ⟨0, 0, 0, 0⟩ := blk_new w1 _
   have bN := Boxed.new (w1.alloc (.cells #[.int .i64 0, .int .i64 0, .int .i64 0, .int .i64 0] 32)) 23 (.slice A0 l0.length c0)
   rw [World.size_alloc] at bN
   have bL2 : RecBox ((w1.alloc (.cells #[.int .i64 0, .int .i64 0, .int .i64 0, .int .i64 0] 32)).alloc (.cells #[.slice A0 l0.length c0] 23)) w1.heap.size ⟨0, 0, 0, 0⟩ := blk_alloc bL _
   have hB0 : Below w.heap.size w ((w1.alloc (.cells #[.int .i64 0, .int .i64 0, .int .i64 0, .int .i64 0] 32)).alloc (.cells #[.slice A0 l0.length c0] 23)) := (hbw1.alloc hbw1.size _).alloc (hbw1.alloc hbw1.size _).size _
   refine wpIn_rangeFunc_ownH (F := Fence.wide) rfl (by decide) (gf := 32) (lb := #[.pointer (some ⟨w1.heap.size + 1, 0, none⟩)]) rfl trivial (enters_of Try.func32 (by kernel_rfl) rfl)
    (eachPage_stops Fence.wide 2 trivial rfl (by decide) (fun _ => True) (w1.heap.size + 1) A0 c0 l0 w _ hr0 (fun _ _ => trivial) hB0 bN.cell) belowK_t (belowK_b hB0.size) (Below.refl _ _) (fun _ => rfl)
    (fun pre W => RecBox W w1.heap.size (lastOf a1 pre) ∧ Boxed W w.heap.size 3 (.int .i64 a1) ∧ RecBox W (w.heap.size + 1) ⟨0, 0, 0, 0⟩ ∧ Below w.heap.size w W) (fun _ _ _ => False)
    (OwnFrom.and (Own.from (RecBox.own _ _) _) (OwnFrom.and (Own.from (boxed_own _ _ _) _) (OwnFrom.and (Own.from (RecBox.own _ _) _) (ownFrom_below (Nat.le_refl _) hB0.size)))) (fun _ _ _ _ _ hs _ _ => hs)
    ⟨bL2, (b3'.alloc _).alloc _, blk_alloc (blk_alloc b4' _) _, hB0⟩
    (fun x a' W => ∃ Bx, w1.heap.size < Bx ∧ PageBox W Bx x.1.2.2 ∧ a' = { tmps := #[.slice A0 l0.length c0, .int .i64 a1, undef, .pointer (some ⟨w.heap.size, 0, none⟩), .pointer (some ⟨w.heap.size + 1, 0, none⟩), .bool false, .pointer (some ⟨w1.heap.size, 0, none⟩), undef, .pointer (some ⟨Bx, 0, none⟩), .int .i64 a1, .bool true, .bool false, .bool false, .slice A0 l0.length c0, .bool true, .bool false, .bool false, undef, .slice A0 l0.length c0, .func (.func 32) #[] #[.pointer (some ⟨w1.heap.size + 1, 0, none⟩)], .agg #[.int .i64 (x.1.1 : Int), .int .i64 (x.1.2.1 : Int)], .agg #[.int .i64 x.1.2.2.f0, .int .i64 x.1.2.2.f1.f0, .int .i64 x.1.2.2.f1.f1, .int .i64 x.1.2.2.f1.f2, .int .i64 x.1.2.2.f1.f3], undef, undef, undef, undef, undef, undef, undef, undef, undef, undef, undef, undef, undef, undef, undef, undef, undef, undef, undef, undef, undef, undef, undef, undef], defers := [] })
    (fun x a' s X Y row hs hg hr => by obtain ⟨Bx, h1, h2, h3⟩ := hs; exact ⟨Bx, h1, PageBox.own Bx _ _ () X Y row h2 hg hr, h3⟩) ?assign ?body ?done ?stop
   case assign =>
    rintro l pre x W K ⟨hbx, hb3, hb4, hB⟩ hK
    gi_wp2
    exact hK _ _ ((KeepsOthers.alloc _ _).from _) ((Below.refl _ W).alloc hB.size _) ⟨blk_alloc hbx _, hb3.alloc _, blk_alloc hb4 _, hB.alloc hB.size _⟩ ⟨W.heap.size, blk_lt hbx, blk_new W _, rfl⟩
   case body =>
    rintro l pre x a' W hl ⟨r, hr⟩ ⟨hbx, hb3, hb4, hB⟩ ⟨Bx, hBx, bX, rfl⟩ hlt
    obtain ⟨hc0_, hc1_, hc2_, hc3_, hc4_⟩ := bX.cells
    have hcl := hb3.cell
    obtain ⟨hq0, hq1, hq2, hq3⟩ := hbx.cells
    have hg0 := hbx.frozen 0
    have hg1 := hbx.frozen 1
    have hg2 := hbx.frozen 2
    have hg3 := hbx.frozen 3
    have hsn := lastOf_snoc a1 pre x
    unfold lastStep at hsn
    by_cases hs1 : x.1.2.2.f0 = 1
    rotate_left
    · have hs2 : (x.1.2.2.f0 == 1) = false := by simp [hs1]
      rw [if_neg (fun h => hs1 h.1)] at hsn
      gi_wp2
      exact ⟨KeepsFrom.refl _ _, Below.refl _ _, by rw [hsn]; exact hbx, hb3, hb4, hB⟩
    have hs2 : (x.1.2.2.f0 == 1) = true := by simp [hs1]
    by_cases ht1 : x.1.2.2.f1.f2 = a1
    rotate_left
    · have ht2 : (x.1.2.2.f1.f2 == a1) = false := by simp [ht1]
      rw [if_neg (fun h => ht1 h.2.1)] at hsn
      gi_wp2
      exact ⟨KeepsFrom.refl _ _, Below.refl _ _, by rw [hsn]; exact hbx, hb3, hb4, hB⟩
    have ht2 : (x.1.2.2.f1.f2 == a1) = true := by simp [ht1]
    by_cases hv1 : x.1.2.2.f1.f1 > (lastOf a1 pre).f1
    rotate_left
    · have hv2 : decide ((lastOf a1 pre).f1 < x.1.2.2.f1.f1) = false := decide_eq_false hv1
      rw [if_neg (fun h => hv1 h.2.2)] at hsn
      gi_wp2
      exact ⟨KeepsFrom.refl _ _, Below.refl _ _, by rw [hsn]; exact hbx, hb3, hb4, hB⟩
    have hv2 : decide ((lastOf a1 pre).f1 < x.1.2.2.f1.f1) = true := decide_eq_true hv1
    rw [if_pos ⟨hs1, ht1, hv1⟩] at hsn
    obtain ⟨q, hq, hq_⟩ : ∃ q : S32, q = ⟨x.1.2.2.f1.f0, x.1.2.2.f1.f1, a1, x.1.2.2.f1.f3⟩ ∧ x.1.2.2.f1 = q := ⟨_, rfl, by rw [← ht1]⟩
    rw [hq_] at hsn
    have ok1 : RecBox (set4 W w1.heap.size q) w1.heap.size (lastOf a1 (pre ++ [x])) := by rw [hsn]; exact RecBox.put hbx _
    have ok2 : Boxed (set4 W w1.heap.size q) w.heap.size 3 (.int .i64 a1) := Boxed.far4 hb3 (by omega) _
    have ok3 : RecBox (set4 W w1.heap.size q) (w.heap.size + 1) ⟨0, 0, 0, 0⟩ := RecBox.far hb4 (by omega) _
    have ok4 : Below w.heap.size w (set4 W w1.heap.size q) := below_set4 hB (by omega) _
    have ok5 : Below w.heap.size W (set4 W w1.heap.size q) := below_set4 (Below.refl _ W) (by omega) _
    have OK1 := am ok1
    have OK2 := am ok2
    have OK3 := am ok3
    have OK4 := am ok4
    have OK5 := am ok5
    have OK6 := am ((keeps_set4 W w1.heap.size q).from ((w1.alloc (.cells #[.int .i64 0, .int .i64 0, .int .i64 0, .int .i64 0] 32)).alloc (.cells #[.slice A0 l0.length c0] 23)).heap.size)
    subst hq
    clear ok1 ok2 ok3 ok4 ok5 hsn hq_
    gi_wp2
    exact ⟨OK6.out, OK5.out, OK1.out, OK2.out, OK3.out, OK4.out⟩
   case done =>
    rintro D ys W hD hys ⟨hbx, hb3, hb4, hB⟩ hK
    rw [lastOf_all hys] at hbx
    cases h
    obtain ⟨hq0, hq1, hq2, hq3⟩ := hbx.cells
    obtain ⟨ho0, ho1, ho2, ho3⟩ := hb4.cells
    have hg0 := hb4.frozen 0
    have hg1 := hb4.frozen 1
    have hg2 := hb4.frozen 2
    have hg3 := hb4.frozen 3
    gi_wp2
    gi_region
    gi_wp2
    have hbp : RecBox (set4 W (w.heap.size + 1) (lastA l0 a1)).drew (w.heap.size + 1) (lastA l0 a1) := RecBox.put hb4 _
    have hK' : (set4 W (w.heap.size + 1) (lastA l0 a1)).drew.heap[D]? = some (.deferred (some [])) := (keeps_set4 W (w.heap.size + 1) (lastA l0 a1)).same D _ hK rfl
    have hB' : Below w.heap.size w (set4 W (w.heap.size + 1) (lastA l0 a1)).drew := below_drew (below_set4 hB (by omega) _)
    refine ⟨by simp, .inl ⟨_, _, rfl, run_takeDeferred hK', ?_⟩⟩
    have hbq := RecBox.own (β := Unit) _ (fun _ => lastA l0 a1) () _ _ _ hbp (grownBy_putObj' _ D (.deferred none)) (fun r e => by cases e; exact ⟨_, hK', rfl⟩)
    exact ⟨_, results_ct rfl _ _ (w.heap.size + 1) _ _ _ _ rfl hbq hu rfl (by kernel_rfl), rfl, hB'.trans (belowK_b (w := w) (Nat.le_refl _) _ D _ _ (by have := hB0.size; omega) hK' rfl rfl)⟩
   case stop =>
    rintro D c pre W _ _ h _
    exact h.elim
def laws_FnRead.j0 : Nat → Int → Int → Bool → List (S60) → List Int → Option (Bool)
 | 0, _, _, _, _, _ => none
 | k + 1, x4, x5, x36, x427000, x427001 => if x36 = true then ((spec_StoreRead.f k x427000 x427001 x4).bind fun t430 => (some (x5 == t430))) else ((impl_FindLast.f x427000 x4).bind fun bt431 => (if bt431.2.2.2.2 = true then (some (x5 == bt431.2.2.2.1)) else (if 0 ≤ (wrap64 (x4 - 1)) then (if (wrap64 (x4 - 1)) < (x427001.length : Int) then (some (x5 == (rd x427001 (wrap64 (x4 - 1))))) else (none)) else (none))))
def laws_FnRead.f (k : Nat) (l0 : List Int) : Option (Bool) := if (l0.length : Int) > 1048576 then (some true) else ((spec_DrawStoreRead.f k l0).bind fun bt419 => ((impl_StoreRead.f bt419.1 bt419.2.1 bt419.2.2).bind fun t427 => ((spec_StoreRead.f k bt419.1 bt419.2.1 bt419.2.2).bind fun t428 => (if t427 = t428 then ((spec_StoreOk.f k bt419.1 bt419.2.1).bind fun t429 => (if t429 = true then (if bt419.2.2 < 1 then (laws_FnRead.j0 k bt419.2.2 t427 true bt419.1 bt419.2.1) else (laws_FnRead.j0 k bt419.2.2 t427 (decide (bt419.2.2 > 6)) bt419.1 bt419.2.1)) else (laws_FnRead.j0 k bt419.2.2 t427 true bt419.1 bt419.2.1))) else (laws_FnRead.j0 k bt419.2.2 t427 true bt419.1 bt419.2.1)))))
theorem laws_FnRead.mono_l : ∀ k, (∀ y0 y1 y2 y3 y4, LeO (laws_FnRead.j0 k y0 y1 y2 y3 y4) (laws_FnRead.j0 (k + 1) y0 y1 y2 y3 y4))
 | 0 => fun _ _ _ _ _ r h => by simp [laws_FnRead.j0] at h
 | k + 1 => by
  have ih0 := laws_FnRead.mono_l k
  · intro y0 y1 y2 y3 y4
    unfold laws_FnRead.j0
    with_reducible repeat' first | exact ih0 _ _ _ _ _ | exact spec_DrawStoreRead.mono _ _ | exact spec_StoreOk.mono _ _ _ | exact spec_StoreRead.mono _ _ _ _ | exact LeO.refl _ | exact LeO.none _ | refine LeO.ite ?_ ?_ | refine LeO.bind ?_ (fun _ => ?_)
theorem laws_FnRead.mono : ∀ a0 k, LeO (laws_FnRead.f k a0) (laws_FnRead.f (k + 1) a0) := by
 intro a0 k
 have ih0 := laws_FnRead.mono_l k
 unfold laws_FnRead.f
 with_reducible repeat' first | exact ih0 _ _ _ _ _ | exact spec_DrawStoreRead.mono _ _ | exact spec_StoreOk.mono _ _ _ | exact spec_StoreRead.mono _ _ _ _ | exact LeO.refl _ | exact LeO.none _ | refine LeO.ite ?_ ?_ | refine LeO.bind ?_ (fun _ => ?_)
set_option maxHeartbeats 8000000 in
set_option maxRecDepth 100000 in
theorem laws_FnRead.calls (k : Nat) (A0 : Option Addr) (c0 : Nat) (l0 : List Int) (r : Bool) (w : World) (hr0 : Kd.C (Kd.int .u8) w A0 l0.length l0) (hc0 : l0.length ≤ c0) (h : laws_FnRead.f k l0 = some r) :
 Calls Try.prog 3 #[.slice A0 l0.length c0] w fun e w' => e = .returned (.bool r) ∧ Below w.heap.size w w' := by
 have hu26 := Try.underlying26
 have hu32 := Try.underlying32
 have HR0 := am hr0
 have HC0 := am hc0
 clear hr0 hc0
 have HB := am (Below.refl w.heap.size w)
 have H : (if (l0.length : Int) > 1048576 then (some true) else ((spec_DrawStoreRead.f k l0).bind fun bt419 => ((impl_StoreRead.f bt419.1 bt419.2.1 bt419.2.2).bind fun t427 => ((spec_StoreRead.f k bt419.1 bt419.2.1 bt419.2.2).bind fun t428 => (if t427 = t428 then ((spec_StoreOk.f k bt419.1 bt419.2.1).bind fun t429 => (if t429 = true then (if bt419.2.2 < 1 then (laws_FnRead.j0 k bt419.2.2 t427 true bt419.1 bt419.2.1) else (laws_FnRead.j0 k bt419.2.2 t427 (decide (bt419.2.2 > 6)) bt419.1 bt419.2.1)) else (laws_FnRead.j0 k bt419.2.2 t427 true bt419.1 bt419.2.1))) else (laws_FnRead.j0 k bt419.2.2 t427 true bt419.1 bt419.2.1)))))) = some r := h
 clear h
 by_cases c2 : (l0.length : Int) > 1048576
 · rw [if_pos c2] at H
   have c2b0 := decide_eq_true c2
   have c2b1 : decide (1048576 < l0.length) = true := decide_eq_true (by omega)
   clear c2
   obtain rfl := Option.some.inj H
   go_enter Try.func3, Try.ntmps3
   go_wp2
   go_ret
   exact (rq (ph HB.out))
 rw [if_neg c2] at H
 have c2b0 := decide_eq_false c2
 have c2b1 : decide (1048576 < l0.length) = false := decide_eq_false (by omega)
 clear c2
 replace H := Option.bind_eq_some_iff.mp H
 obtain ⟨⟨t419, t422, t425⟩, A30, H⟩ := H
 have A3 := am A30
 clear A30
 replace H := Option.bind_eq_some_iff.mp H
 obtain ⟨t427, A40, H⟩ := H
 have A4 := am A40
 clear A40
 have HC5 := am H
 clear H
 go_enter Try.func3, Try.ntmps3
 go_upto_region 5 with (first | (refine gl 13 Try.func4 #[.slice A0 l0.length c0] rfl ?_; (with_reducible refine (spec_DrawStoreRead.calls k _ _ l0 t419 t422 t425 _ ?side1 ?side2 A3.out).mono ?_); (case side1 => repeat (first | exact HR0.out | (with_reducible refine Kd.C_alloc ?_ _) | (with_reducible refine Kd.C_drewN ?_ _) | (with_reducible refine Kd.C_drew ?_))); (case side2 => exact HC0.out); rintro e w6 ⟨v420, v423, rfl, ho0, ho1, hb⟩; refine ⟨_, rfl, ?_⟩; have HO421 := am (Kd.V_lower (Kd.V_mono (ok' := fun k_ => some k_ ≠ (v423 : Value).ownBlock) ho0 (fun k_ hk_ => hk_.2)) (below_size (ph HB.out))); have HO424 := am (Kd.Q_lower (Kd.Q_mono (ok' := fun k_ => True) ho1 (fun _ hk_ => trivial)) (below_size (ph HB.out))); replace HB := am (below_step (ph HB.out) hb); (try clear hb); (try clear hb2); (try clear hk); (try clear hi); (try clear ho0); (try clear ho1)) | (refine bx 3 #[.slice none 0 0, .slice none 0 0] 26 rfl ?_; intro gb426 hg w7 hbox hb; replace HO421 := am (Kd.V_below (Kd.V_elderB (by (with_reducible repeat (first | apply Kd.V_alloc | apply Kd.V_drewN | apply Kd.V_drew)); exact HO421.out) gb426 (Nat.le_of_eq hg.symm)) hb); replace HO424 := am (Kd.Q_below (by (with_reducible repeat (first | apply Kd.Q_alloc | apply Kd.Q_drewN | apply Kd.Q_drew)); exact HO424.out) hb); have BK426 := am (hbox); have GW426 := am (ge hg (ph HB.out)); have GE426 := GW426; replace HB := am (below_step (ph HB.out) hb); clear hb hbox hg; obtain ⟨Ao8, co8, eo8⟩ := Kd.V_slice HO421.out; subst eo8; obtain ⟨hcz9_0, hcz9_1⟩ := b2 BK426.out; obtain ⟨hfz9_0, hfz9_1⟩ := f2 BK426.out; obtain ⟨Ao10, co10, eo10, _⟩ := Kd.Q_slice HO424.out; subst eo10) | (refine gl 18 Try.func5 #[.agg #[.slice Ao8 t419.length co8, .slice Ao10 t422.length co10], .int .i64 t425] rfl ?_; (with_reducible refine (impl_StoreRead.calls _ _ t419 _ _ t422 t425 t427 _ ?side1 ?side2 ?side3 ?side4 A4.out).mono ?_); (case side1 => refine (Kd.V_reads' (e := 60) (base := w.heap.size) (ok := fun k_ => (some k_ ≠ (.slice Ao10 t422.length co10 : Value).ownBlock ∧ k_ ≠ gb426)) (n := t419.length) (c := co8) ?_).2.2; exact (by (with_reducible repeat (first | apply Kd.V_alloc | apply Kd.V_drewN | apply Kd.V_drew)); exact (Kd.V_mono (Kd.V_far (p := ⟨gb426, 1, none⟩) (Kd.V_far (p := ⟨gb426, 0, none⟩) (Kd.V_mono HO421.out (fun k_ hk => (⟨hk, hk.2⟩ : _ ∧ k_ ≠ gb426))) (fun _ hk => hk.2) (.slice Ao8 t419.length co8)) (fun _ hk => hk.2) (.slice Ao10 t422.length co10)) (fun _ h_ => h_.1)))); (case side2 => exact (Kd.V_reads' HO421.out).2.1); (case side3 => refine (Kd.Q_reads' (e := 3) (base := w.heap.size) (ok := fun k_ => True) (n := t422.length) (c := co10) ?_).2.2; exact (by (with_reducible repeat (first | apply Kd.Q_alloc | apply Kd.Q_drewN | apply Kd.Q_drew)); exact (Kd.Q_mono (Kd.Q_far (p := ⟨gb426, 1, none⟩) (Kd.Q_far (p := ⟨gb426, 0, none⟩) (Kd.Q_types HO424.out BK426.out (by decide)) (fun _ hk => hk.2) (.slice Ao8 t419.length co8)) (fun _ hk => hk.2) (.slice Ao10 t422.length co10)) (fun _ h_ => h_.1)))); (case side4 => exact (Kd.Q_reads' HO424.out).2.1); rintro e w11 ⟨rfl, hb⟩; refine ⟨_, rfl, ?_⟩; replace HO421 := am (Kd.V_below (by (with_reducible repeat (first | apply Kd.V_alloc | apply Kd.V_drewN | apply Kd.V_drew)); exact (Kd.V_mono (Kd.V_far (p := ⟨gb426, 1, none⟩) (Kd.V_far (p := ⟨gb426, 0, none⟩) (Kd.V_mono HO421.out (fun k_ hk => (⟨hk, hk.2⟩ : _ ∧ k_ ≠ gb426))) (fun _ hk => hk.2) (.slice Ao8 t419.length co8)) (fun _ hk => hk.2) (.slice Ao10 t422.length co10)) (fun _ h_ => h_.1))) hb); replace HO424 := am (Kd.Q_below (by (with_reducible repeat (first | apply Kd.Q_alloc | apply Kd.Q_drewN | apply Kd.Q_drew)); exact (Kd.Q_mono (Kd.Q_far (p := ⟨gb426, 1, none⟩) (Kd.Q_far (p := ⟨gb426, 0, none⟩) (Kd.Q_types HO424.out BK426.out (by decide)) (fun _ hk => hk.2) (.slice Ao8 t419.length co8)) (fun _ hk => hk.2) (.slice Ao10 t422.length co10)) (fun _ h_ => h_.1))) hb); replace BK426 := am (blk_below (bp2 (pb BK426.out)) hb); replace HB := am (below_step (bg1 HB.out GE426.out) hb); (try clear hb); (try clear hb2); (try clear hk); (try clear hi)))
 (try simp only [Act.put, List.setIfInBounds_toArray, List.set_cons_zero, List.set_cons_succ])
 go_cut [36] (fun v36 wc => ∃ (kq : Nat) (x36_4 : Bool), v36 = .bool x36_4 ∧ Aside0 (laws_FnRead.j0 kq t425 t427 x36_4 t419 t422 = some r) ∧ Aside0 (kq ≤ k) ∧ Aside0 (Kd.V k60 60 wc w.heap.size (fun k_ => some k_ ≠ ((.slice Ao10 t422.length co10) : Value).ownBlock ∧ k_ ≠ gb426) (.slice Ao8 t419.length co8) t419) ∧ Aside0 (Kd.Q (Kd.int .i64) 3 wc w.heap.size (fun _ => True) (.slice Ao10 t422.length co10) t422) ∧ Aside0 (wc.heap[gb426]? = some (.cells #[(.slice Ao8 t419.length co8), (.slice Ao10 t422.length co10)] 26 (0, 0))) ∧ Aside0 (Below w.heap.size w wc))
 case first =>
  have H := HC5.out
  clear HC5
  replace H := Option.bind_eq_some_iff.mp H
  obtain ⟨t428, A120, H⟩ := H
  have A12 := am A120
  clear A120
  by_cases c13 : t427 = t428
  rotate_left
  · rw [if_neg c13] at H
    have c13b0 : (t427 == t428) = false := beq_eq_false_iff_ne.mpr c13
    have c13b1 : (t427 != t428) = true := bne_iff_ne.mpr c13
    (first | rw [c13b0] | (simp only [i64_w, i32_w]; rw [c13b0]) | skip)
    have H' := am H
    clear H
    obtain ⟨hcz29_0, hcz29_1⟩ := b2 BK426.out
    obtain ⟨hfz29_0, hfz29_1⟩ := f2 BK426.out
    go_wp2_with (first | (refine gl 22 Try.func6 #[.agg #[.slice Ao8 t419.length co8, .slice Ao10 t422.length co10], .int .i64 t425] rfl ?_; (with_reducible refine (spec_StoreRead.calls k _ _ t419 _ _ t422 t425 t428 _ ?side1 ?side2 ?side3 ?side4 A12.out).mono ?_); (case side1 => repeat (first | exact (Kd.V_reads' HO421.out).2.2 | (with_reducible refine Kd.C_alloc ?_ _) | (with_reducible refine Kd.C_drewN ?_ _) | (with_reducible refine Kd.C_drew ?_))); (case side2 => exact (Kd.V_reads' HO421.out).2.1); (case side3 => repeat (first | exact (Kd.Q_reads' HO424.out).2.2 | (with_reducible refine Kd.C_alloc ?_ _) | (with_reducible refine Kd.C_drewN ?_ _) | (with_reducible refine Kd.C_drew ?_))); (case side4 => exact (Kd.Q_reads' HO424.out).2.1); rintro e w30 ⟨rfl, hb⟩; refine ⟨_, rfl, ?_⟩; replace HO421 := am (Kd.V_below (by (with_reducible repeat (first | apply Kd.V_alloc | apply Kd.V_drewN | apply Kd.V_drew)); exact HO421.out) hb); replace HO424 := am (Kd.Q_below (by (with_reducible repeat (first | apply Kd.Q_alloc | apply Kd.Q_drewN | apply Kd.Q_drew)); exact HO424.out) hb); replace BK426 := am (blk_below (pb BK426.out) hb); replace HB := am (below_step (bg1 HB.out GE426.out) hb); (try clear hb); (try clear hb2); (try clear hk); (try clear hi)))
    go_meet
    case rel => exact ⟨_, (true), rf, H', ⟨by first | omega | exact Nat.le_refl _⟩, ⟨by (with_reducible repeat (first | apply Kd.V_alloc | apply Kd.V_drewN | apply Kd.V_drew)); exact HO421.out⟩, ⟨by (with_reducible repeat (first | apply Kd.Q_alloc | apply Kd.Q_drewN | apply Kd.Q_drew)); exact HO424.out⟩, ⟨pb BK426.out⟩, ⟨bg1 HB.out GE426.out⟩⟩
  rw [if_pos c13] at H
  have c13b0 : (t427 == t428) = true := beq_iff_eq.mpr c13
  have c13b1 : (t427 != t428) = false := bne_eq_false_iff_eq.mpr c13
  clear c13
  (first | rw [c13b0] | (simp only [i64_w, i32_w]; rw [c13b0]) | skip)
  replace H := Option.bind_eq_some_iff.mp H
  obtain ⟨t429, A140, H⟩ := H
  have A14 := am A140
  clear A140
  by_cases c15 : t429 = true
  rotate_left
  · replace c15 := Bool.eq_false_iff.mpr c15
    subst c15
    rw [if_neg (show ¬ (false = true) by decide)] at H
    have H' := am H
    clear H
    obtain ⟨hcz25_0, hcz25_1⟩ := b2 BK426.out
    obtain ⟨hfz25_0, hfz25_1⟩ := f2 BK426.out
    go_wp2_with (first | (refine gl 22 Try.func6 #[.agg #[.slice Ao8 t419.length co8, .slice Ao10 t422.length co10], .int .i64 t425] rfl ?_; (with_reducible refine (spec_StoreRead.calls k _ _ t419 _ _ t422 t425 t428 _ ?side1 ?side2 ?side3 ?side4 A12.out).mono ?_); (case side1 => repeat (first | exact (Kd.V_reads' HO421.out).2.2 | (with_reducible refine Kd.C_alloc ?_ _) | (with_reducible refine Kd.C_drewN ?_ _) | (with_reducible refine Kd.C_drew ?_))); (case side2 => exact (Kd.V_reads' HO421.out).2.1); (case side3 => repeat (first | exact (Kd.Q_reads' HO424.out).2.2 | (with_reducible refine Kd.C_alloc ?_ _) | (with_reducible refine Kd.C_drewN ?_ _) | (with_reducible refine Kd.C_drew ?_))); (case side4 => exact (Kd.Q_reads' HO424.out).2.1); rintro e w26 ⟨rfl, hb⟩; refine ⟨_, rfl, ?_⟩; replace HO421 := am (Kd.V_below (by (with_reducible repeat (first | apply Kd.V_alloc | apply Kd.V_drewN | apply Kd.V_drew)); exact HO421.out) hb); replace HO424 := am (Kd.Q_below (by (with_reducible repeat (first | apply Kd.Q_alloc | apply Kd.Q_drewN | apply Kd.Q_drew)); exact HO424.out) hb); replace BK426 := am (blk_below (pb BK426.out) hb); replace HB := am (below_step (bg1 HB.out GE426.out) hb); (try clear hb); (try clear hb2); (try clear hk); (try clear hi); obtain ⟨hcz27_0, hcz27_1⟩ := b2 BK426.out; obtain ⟨hfz27_0, hfz27_1⟩ := f2 BK426.out) | (go_at_call 7; (with_reducible refine (spec_StoreOk.calls k _ _ t419 _ _ t422 false _ ?side1 ?side2 ?side3 ?side4 A14.out).mono ?_); (case side1 => repeat (first | exact (Kd.V_reads' HO421.out).2.2 | (with_reducible refine Kd.C_alloc ?_ _) | (with_reducible refine Kd.C_drewN ?_ _) | (with_reducible refine Kd.C_drew ?_))); (case side2 => exact (Kd.V_reads' HO421.out).2.1); (case side3 => repeat (first | exact (Kd.Q_reads' HO424.out).2.2 | (with_reducible refine Kd.C_alloc ?_ _) | (with_reducible refine Kd.C_drewN ?_ _) | (with_reducible refine Kd.C_drew ?_))); (case side4 => exact (Kd.Q_reads' HO424.out).2.1); rintro e w28 ⟨rfl, hb⟩; replace HO421 := am (Kd.V_below (by (with_reducible repeat (first | apply Kd.V_alloc | apply Kd.V_drewN | apply Kd.V_drew)); exact HO421.out) hb); replace HO424 := am (Kd.Q_below (by (with_reducible repeat (first | apply Kd.Q_alloc | apply Kd.Q_drewN | apply Kd.Q_drew)); exact HO424.out) hb); replace BK426 := am (blk_below (pb BK426.out) hb); replace HB := am (below_step (bg1 HB.out GE426.out) hb); (try clear hb); (try clear hb2); (try clear hk); (try clear hi)))
    go_meet
    case rel => exact ⟨_, (true), rf, H', ⟨by first | omega | exact Nat.le_refl _⟩, ⟨by (with_reducible repeat (first | apply Kd.V_alloc | apply Kd.V_drewN | apply Kd.V_drew)); exact HO421.out⟩, ⟨by (with_reducible repeat (first | apply Kd.Q_alloc | apply Kd.Q_drewN | apply Kd.Q_drew)); exact HO424.out⟩, ⟨pb BK426.out⟩, ⟨bg1 HB.out GE426.out⟩⟩
  subst c15
  rw [if_pos rfl] at H
  by_cases c16 : t425 < 1
  · rw [if_pos c16] at H
    have c16b0 := decide_eq_true c16
    clear c16
    have H' := am H
    clear H
    obtain ⟨hcz17_0, hcz17_1⟩ := b2 BK426.out
    obtain ⟨hfz17_0, hfz17_1⟩ := f2 BK426.out
    go_wp2_with (first | (refine gl 22 Try.func6 #[.agg #[.slice Ao8 t419.length co8, .slice Ao10 t422.length co10], .int .i64 t425] rfl ?_; (with_reducible refine (spec_StoreRead.calls k _ _ t419 _ _ t422 t425 t428 _ ?side1 ?side2 ?side3 ?side4 A12.out).mono ?_); (case side1 => repeat (first | exact (Kd.V_reads' HO421.out).2.2 | (with_reducible refine Kd.C_alloc ?_ _) | (with_reducible refine Kd.C_drewN ?_ _) | (with_reducible refine Kd.C_drew ?_))); (case side2 => exact (Kd.V_reads' HO421.out).2.1); (case side3 => repeat (first | exact (Kd.Q_reads' HO424.out).2.2 | (with_reducible refine Kd.C_alloc ?_ _) | (with_reducible refine Kd.C_drewN ?_ _) | (with_reducible refine Kd.C_drew ?_))); (case side4 => exact (Kd.Q_reads' HO424.out).2.1); rintro e w18 ⟨rfl, hb⟩; refine ⟨_, rfl, ?_⟩; replace HO421 := am (Kd.V_below (by (with_reducible repeat (first | apply Kd.V_alloc | apply Kd.V_drewN | apply Kd.V_drew)); exact HO421.out) hb); replace HO424 := am (Kd.Q_below (by (with_reducible repeat (first | apply Kd.Q_alloc | apply Kd.Q_drewN | apply Kd.Q_drew)); exact HO424.out) hb); replace BK426 := am (blk_below (pb BK426.out) hb); replace HB := am (below_step (bg1 HB.out GE426.out) hb); (try clear hb); (try clear hb2); (try clear hk); (try clear hi); obtain ⟨hcz19_0, hcz19_1⟩ := b2 BK426.out; obtain ⟨hfz19_0, hfz19_1⟩ := f2 BK426.out) | (go_at_call 7; (with_reducible refine (spec_StoreOk.calls k _ _ t419 _ _ t422 true _ ?side1 ?side2 ?side3 ?side4 A14.out).mono ?_); (case side1 => repeat (first | exact (Kd.V_reads' HO421.out).2.2 | (with_reducible refine Kd.C_alloc ?_ _) | (with_reducible refine Kd.C_drewN ?_ _) | (with_reducible refine Kd.C_drew ?_))); (case side2 => exact (Kd.V_reads' HO421.out).2.1); (case side3 => repeat (first | exact (Kd.Q_reads' HO424.out).2.2 | (with_reducible refine Kd.C_alloc ?_ _) | (with_reducible refine Kd.C_drewN ?_ _) | (with_reducible refine Kd.C_drew ?_))); (case side4 => exact (Kd.Q_reads' HO424.out).2.1); rintro e w20 ⟨rfl, hb⟩; replace HO421 := am (Kd.V_below (by (with_reducible repeat (first | apply Kd.V_alloc | apply Kd.V_drewN | apply Kd.V_drew)); exact HO421.out) hb); replace HO424 := am (Kd.Q_below (by (with_reducible repeat (first | apply Kd.Q_alloc | apply Kd.Q_drewN | apply Kd.Q_drew)); exact HO424.out) hb); replace BK426 := am (blk_below (pb BK426.out) hb); replace HB := am (below_step (bg1 HB.out GE426.out) hb); (try clear hb); (try clear hb2); (try clear hk); (try clear hi)))
    go_meet
    case rel => exact ⟨_, (true), rf, H', ⟨by first | omega | exact Nat.le_refl _⟩, ⟨by (with_reducible repeat (first | apply Kd.V_alloc | apply Kd.V_drewN | apply Kd.V_drew)); exact HO421.out⟩, ⟨by (with_reducible repeat (first | apply Kd.Q_alloc | apply Kd.Q_drewN | apply Kd.Q_drew)); exact HO424.out⟩, ⟨pb BK426.out⟩, ⟨bg1 HB.out GE426.out⟩⟩
  rw [if_neg c16] at H
  have c16b0 := decide_eq_false c16
  clear c16
  have H' := am H
  clear H
  obtain ⟨hcz21_0, hcz21_1⟩ := b2 BK426.out
  obtain ⟨hfz21_0, hfz21_1⟩ := f2 BK426.out
  go_wp2_with (first | (refine gl 22 Try.func6 #[.agg #[.slice Ao8 t419.length co8, .slice Ao10 t422.length co10], .int .i64 t425] rfl ?_; (with_reducible refine (spec_StoreRead.calls k _ _ t419 _ _ t422 t425 t428 _ ?side1 ?side2 ?side3 ?side4 A12.out).mono ?_); (case side1 => repeat (first | exact (Kd.V_reads' HO421.out).2.2 | (with_reducible refine Kd.C_alloc ?_ _) | (with_reducible refine Kd.C_drewN ?_ _) | (with_reducible refine Kd.C_drew ?_))); (case side2 => exact (Kd.V_reads' HO421.out).2.1); (case side3 => repeat (first | exact (Kd.Q_reads' HO424.out).2.2 | (with_reducible refine Kd.C_alloc ?_ _) | (with_reducible refine Kd.C_drewN ?_ _) | (with_reducible refine Kd.C_drew ?_))); (case side4 => exact (Kd.Q_reads' HO424.out).2.1); rintro e w22 ⟨rfl, hb⟩; refine ⟨_, rfl, ?_⟩; replace HO421 := am (Kd.V_below (by (with_reducible repeat (first | apply Kd.V_alloc | apply Kd.V_drewN | apply Kd.V_drew)); exact HO421.out) hb); replace HO424 := am (Kd.Q_below (by (with_reducible repeat (first | apply Kd.Q_alloc | apply Kd.Q_drewN | apply Kd.Q_drew)); exact HO424.out) hb); replace BK426 := am (blk_below (pb BK426.out) hb); replace HB := am (below_step (bg1 HB.out GE426.out) hb); (try clear hb); (try clear hb2); (try clear hk); (try clear hi); obtain ⟨hcz23_0, hcz23_1⟩ := b2 BK426.out; obtain ⟨hfz23_0, hfz23_1⟩ := f2 BK426.out) | (go_at_call 7; (with_reducible refine (spec_StoreOk.calls k _ _ t419 _ _ t422 true _ ?side1 ?side2 ?side3 ?side4 A14.out).mono ?_); (case side1 => repeat (first | exact (Kd.V_reads' HO421.out).2.2 | (with_reducible refine Kd.C_alloc ?_ _) | (with_reducible refine Kd.C_drewN ?_ _) | (with_reducible refine Kd.C_drew ?_))); (case side2 => exact (Kd.V_reads' HO421.out).2.1); (case side3 => repeat (first | exact (Kd.Q_reads' HO424.out).2.2 | (with_reducible refine Kd.C_alloc ?_ _) | (with_reducible refine Kd.C_drewN ?_ _) | (with_reducible refine Kd.C_drew ?_))); (case side4 => exact (Kd.Q_reads' HO424.out).2.1); rintro e w24 ⟨rfl, hb⟩; replace HO421 := am (Kd.V_below (by (with_reducible repeat (first | apply Kd.V_alloc | apply Kd.V_drewN | apply Kd.V_drew)); exact HO421.out) hb); replace HO424 := am (Kd.Q_below (by (with_reducible repeat (first | apply Kd.Q_alloc | apply Kd.Q_drewN | apply Kd.Q_drew)); exact HO424.out) hb); replace BK426 := am (blk_below (pb BK426.out) hb); replace HB := am (below_step (bg1 HB.out GE426.out) hb); (try clear hb); (try clear hb2); (try clear hk); (try clear hi)))
  go_meet
  case rel => exact ⟨_, (decide (t425 > 6)), rf, H', ⟨by first | omega | exact Nat.le_refl _⟩, ⟨by (with_reducible repeat (first | apply Kd.V_alloc | apply Kd.V_drewN | apply Kd.V_drew)); exact HO421.out⟩, ⟨by (with_reducible repeat (first | apply Kd.Q_alloc | apply Kd.Q_drewN | apply Kd.Q_drew)); exact HO424.out⟩, ⟨pb BK426.out⟩, ⟨bg1 HB.out GE426.out⟩⟩
 case rest =>
  clear HC5
  obtain ⟨kq, x36_4, rfl, HA, HJ4, HO_427000, HO_427001, BK426, HB⟩ := hcut
  cases kq with
  | zero => exact absurd HA.out (by simp [laws_FnRead.j0])
  | succ kj4 =>
   have H := HA.out
   clear HA
   simp only [laws_FnRead.j0] at H
   by_cases c31 : x36_4 = true
   · subst c31
     rw [if_pos rfl] at H
     replace H := Option.bind_eq_some_iff.mp H
     obtain ⟨t430, A320, H⟩ := H
     have A32 := am A320
     clear A320
     obtain rfl := Option.some.inj H
     obtain ⟨hcz33_0, hcz33_1⟩ := b2 BK426.out
     obtain ⟨hfz33_0, hfz33_1⟩ := f2 BK426.out
     go_wp2_with (first | (refine gl 40 Try.func6 #[.agg #[.slice Ao8 t419.length co8, .slice Ao10 t422.length co10], .int .i64 t425] rfl ?_; (with_reducible refine (spec_StoreRead.calls kj4 _ _ t419 _ _ t422 t425 t430 _ ?side1 ?side2 ?side3 ?side4 A32.out).mono ?_); (case side1 => repeat (first | exact (Kd.V_reads' HO_427000.out).2.2 | (with_reducible refine Kd.C_alloc ?_ _) | (with_reducible refine Kd.C_drewN ?_ _) | (with_reducible refine Kd.C_drew ?_))); (case side2 => exact (Kd.V_reads' HO_427000.out).2.1); (case side3 => repeat (first | exact (Kd.Q_reads' HO_427001.out).2.2 | (with_reducible refine Kd.C_alloc ?_ _) | (with_reducible refine Kd.C_drewN ?_ _) | (with_reducible refine Kd.C_drew ?_))); (case side4 => exact (Kd.Q_reads' HO_427001.out).2.1); rintro e w34 ⟨rfl, hb⟩; refine ⟨_, rfl, ?_⟩; replace HO_427000 := am (Kd.V_below (by (with_reducible repeat (first | apply Kd.V_alloc | apply Kd.V_drewN | apply Kd.V_drew)); exact HO_427000.out) hb); replace HO_427001 := am (Kd.Q_below (by (with_reducible repeat (first | apply Kd.Q_alloc | apply Kd.Q_drewN | apply Kd.Q_drew)); exact HO_427001.out) hb); replace BK426 := am (blk_below (pb BK426.out) hb); replace HB := am (below_step (bg1 HB.out GE426.out) hb); (try clear hb); (try clear hb2); (try clear hk); (try clear hi)))
     go_ret
     exact (rq (bg1 HB.out GE426.out))
   replace c31 := Bool.eq_false_iff.mpr c31
   subst c31
   rw [if_neg (show ¬ (false = true) by decide)] at H
   replace H := Option.bind_eq_some_iff.mp H
   obtain ⟨⟨t431, t432, t433, t434, t435⟩, A350, H⟩ := H
   have A35 := am A350
   clear A350
   by_cases c36 : t435 = true
   · subst c36
     rw [if_pos rfl] at H
     obtain rfl := Option.some.inj H
     obtain ⟨hcz37_0, hcz37_1⟩ := b2 BK426.out
     obtain ⟨hfz37_0, hfz37_1⟩ := f2 BK426.out
     go_wp2_with (first | (refine gl 46 Try.func8 #[.slice Ao8 t419.length co8, .int .i64 t425] rfl ?_; (with_reducible refine (impl_FindLast.calls _ _ t419 t425 t431 t432 t433 t434 true _ ?side1 ?side2 A35.out).mono ?_); (case side1 => repeat (first | exact (Kd.V_reads' HO_427000.out).2.2 | (with_reducible refine Kd.C_alloc ?_ _) | (with_reducible refine Kd.C_drewN ?_ _) | (with_reducible refine Kd.C_drew ?_))); (case side2 => exact (Kd.V_reads' HO_427000.out).2.1); rintro e w38 ⟨rfl, hb⟩; refine ⟨_, rfl, ?_⟩; replace HO_427000 := am (Kd.V_below (by (with_reducible repeat (first | apply Kd.V_alloc | apply Kd.V_drewN | apply Kd.V_drew)); exact HO_427000.out) hb); replace HO_427001 := am (Kd.Q_below (by (with_reducible repeat (first | apply Kd.Q_alloc | apply Kd.Q_drewN | apply Kd.Q_drew)); exact HO_427001.out) hb); replace BK426 := am (blk_below (pb BK426.out) hb); replace HB := am (below_step (bg1 HB.out GE426.out) hb); (try clear hb); (try clear hb2); (try clear hk); (try clear hi)) | (refine bx 6 #[.int .i64 0, .int .i64 0, .int .i64 0, .int .i64 0] 32 rfl ?_; intro gb436 hg w39 hbox hb; replace HO_427000 := am (Kd.V_below (Kd.V_elderB (by (with_reducible repeat (first | apply Kd.V_alloc | apply Kd.V_drewN | apply Kd.V_drew)); exact HO_427000.out) gb436 (Nat.le_of_eq hg.symm)) hb); replace HO_427001 := am (Kd.Q_below (by (with_reducible repeat (first | apply Kd.Q_alloc | apply Kd.Q_drewN | apply Kd.Q_drew)); exact HO_427001.out) hb); have BK436 := am (hbox); have GW436 := am (ge hg (bg1 HB.out GE426.out)); have GE436 := GW436; replace HB := am (below_step (bg1 HB.out GE426.out) hb); have NB426_436 := am (nb hg (pb BK426.out)); have NB436_426 := am (Ne.symm NB426_436.out); replace BK426 := am (blk_below (pb BK426.out) hb); clear hb hbox hg; have hnb40 := NB436_426.out; have hnc40 := NB426_436.out; obtain ⟨hcz41_0, hcz41_1, hcz41_2, hcz41_3⟩ := b4 BK436.out; obtain ⟨hfz41_0, hfz41_1, hfz41_2, hfz41_3⟩ := f4 BK436.out))
     go_ret
     exact (rq (bg2 HB.out GE426.out GE436.out))
   replace c36 := Bool.eq_false_iff.mpr c36
   subst c36
   rw [if_neg (show ¬ (false = true) by decide)] at H
   obtain ⟨ji42, hji42⟩ : ∃ j_ : Int, (wrap64 (t425 - 1)) = j_ := ⟨_, rfl⟩
   replace H : (if 0 ≤ (ji42) then (if (ji42) < (t422.length : Int) then (some (t427 == (rd t422 (ji42)))) else (none)) else (none)) = some r := by first | (rw [hji42] at H; exact H) | (simp only [hji42] at H ⊢; exact H)
   (try rw [hji42] at A35)
   have hji42w : (IntKind.i64.wrap (t425 - 1)) = ji42 := (i64_w _).trans hji42
   by_cases c43 : 0 ≤ (ji42)
   rotate_left
   · rw [if_neg c43] at H
     exact absurd H (by simp)
   rw [if_pos c43] at H
   have c43b0 := decide_eq_true c43
   clear c43
   by_cases c44 : (ji42) < (t422.length : Int)
   rotate_left
   · rw [if_neg c44] at H
     exact absurd H (by simp)
   rw [if_pos c44] at H
   have c44b0 := decide_eq_true c44
   clear c44
   obtain rfl := Option.some.inj H
   obtain ⟨hcz45_0, hcz45_1⟩ := b2 BK426.out
   obtain ⟨hfz45_0, hfz45_1⟩ := f2 BK426.out
   go_wp2_with (first | (refine gl 46 Try.func8 #[.slice Ao8 t419.length co8, .int .i64 t425] rfl ?_; (with_reducible refine (impl_FindLast.calls _ _ t419 t425 t431 t432 t433 t434 false _ ?side1 ?side2 A35.out).mono ?_); (case side1 => repeat (first | exact (Kd.V_reads' HO_427000.out).2.2 | (with_reducible refine Kd.C_alloc ?_ _) | (with_reducible refine Kd.C_drewN ?_ _) | (with_reducible refine Kd.C_drew ?_))); (case side2 => exact (Kd.V_reads' HO_427000.out).2.1); rintro e w46 ⟨rfl, hb⟩; refine ⟨_, rfl, ?_⟩; replace HO_427000 := am (Kd.V_below (by (with_reducible repeat (first | apply Kd.V_alloc | apply Kd.V_drewN | apply Kd.V_drew)); exact HO_427000.out) hb); replace HO_427001 := am (Kd.Q_below (by (with_reducible repeat (first | apply Kd.Q_alloc | apply Kd.Q_drewN | apply Kd.Q_drew)); exact HO_427001.out) hb); replace BK426 := am (blk_below (pb BK426.out) hb); replace HB := am (below_step (bg1 HB.out GE426.out) hb); (try clear hb); (try clear hb2); (try clear hk); (try clear hi)) | (refine bx 6 #[.int .i64 0, .int .i64 0, .int .i64 0, .int .i64 0] 32 rfl ?_; intro gb436 hg w47 hbox hb; replace HO_427000 := am (Kd.V_below (Kd.V_elderB (by (with_reducible repeat (first | apply Kd.V_alloc | apply Kd.V_drewN | apply Kd.V_drew)); exact HO_427000.out) gb436 (Nat.le_of_eq hg.symm)) hb); replace HO_427001 := am (Kd.Q_below (by (with_reducible repeat (first | apply Kd.Q_alloc | apply Kd.Q_drewN | apply Kd.Q_drew)); exact HO_427001.out) hb); have BK436 := am (hbox); have GW436 := am (ge hg (bg1 HB.out GE426.out)); have GE436 := GW436; replace HB := am (below_step (bg1 HB.out GE426.out) hb); have NB426_436 := am (nb hg (pb BK426.out)); have NB436_426 := am (Ne.symm NB426_436.out); replace BK426 := am (blk_below (pb BK426.out) hb); clear hb hbox hg; have hnb48 := NB436_426.out; have hnc48 := NB426_436.out; obtain ⟨hcz49_0, hcz49_1, hcz49_2, hcz49_3⟩ := b4 BK436.out; obtain ⟨hfz49_0, hfz49_1, hfz49_2, hfz49_3⟩ := f4 BK436.out; obtain ⟨hcz50_0, hcz50_1⟩ := b2 BK426.out; obtain ⟨hfz50_0, hfz50_1⟩ := f2 BK426.out; have p437 : 0 ≤ ((ji42) : Int) := ofb; have q437 : (ji42) < (t422.length : Int) := ofb; obtain ⟨ad437, e437, hx437_0⟩ := Kd.at_int (Kd.Q_reads' HO_427001.out).2.2 (ji42) p437 q437; cases e437; have hn437_0 : ad437.block ≠ gb436 := Kd.own_blk (Kd.Q_ne HO_427001.out BK436.out (by decide)); have hn437_1 : ad437.block ≠ gb436 := Kd.own_blk (Kd.Q_ne HO_427001.out BK436.out (by decide)); have hn437_2 : ad437.block ≠ gb436 := Kd.own_blk (Kd.Q_ne HO_427001.out BK436.out (by decide)); have hn437_3 : ad437.block ≠ gb436 := Kd.own_blk (Kd.Q_ne HO_427001.out BK436.out (by decide)); replace hx437_0 := (cell_far (p := ⟨gb436, 0, none⟩) (by first | (rw [add_block]; exact hn437_0) | (show (Addr.add _ _).block ≠ _; rw [add_block]; exact hn437_0) | exact hn437_0) (.int .i64 t431)).trans hx437_0; replace hx437_0 := (cell_far (p := ⟨gb436, 1, none⟩) (by first | (rw [add_block]; exact hn437_1) | (show (Addr.add _ _).block ≠ _; rw [add_block]; exact hn437_1) | exact hn437_1) (.int .i64 t432)).trans hx437_0; replace hx437_0 := (cell_far (p := ⟨gb436, 2, none⟩) (by first | (rw [add_block]; exact hn437_2) | (show (Addr.add _ _).block ≠ _; rw [add_block]; exact hn437_2) | exact hn437_2) (.int .i64 t433)).trans hx437_0; replace hx437_0 := (cell_far (p := ⟨gb436, 3, none⟩) (by first | (rw [add_block]; exact hn437_3) | (show (Addr.add _ _).block ≠ _; rw [add_block]; exact hn437_3) | exact hn437_3) (.int .i64 t434)).trans hx437_0; clear hn437_0; clear hn437_1; clear hn437_2; clear hn437_3; replace p437 := eq_true p437; replace q437 := eq_true q437))
   go_ret
   exact ⟨by first | rfl | (simp [errW_none, errW_some] <;> rfl) | (simp only [← hji42]; first | rfl | (simp [errW_none, errW_some] <;> rfl)) | (simp [*, errW_none, errW_some] <;> rfl), bg2 HB.out GE426.out GE436.out⟩
def laws_FnRead.Pure : Prop := ∀ (l0 : List Int), l0.length ≤ maxLen → l0.length * 1 ≤ 140737488351232 → (∀ x ∈ l0, (Lit.int .u8 x).wf = true) → ∃ k, laws_FnRead.f k l0 = some true
theorem laws_FnRead.walk (P : laws_FnRead.Pure) (a0 : Option Addr) (len0 cap0 : Nat) (z0 : List Int) (w : World) (w0 : (a0 = none ∧ len0 = 0 ∧ cap0 = 0 ∧ z0 = []) ∨ ∃ x, a0 = some x ∧ len0 ≤ cap0 ∧ cap0 ≤ maxLen ∧ z0.length = cap0 ∧ (∀ i, i < z0.length → w.cell? (x.add i) = some (.int .u8 (z0.getD i 0))) ∧ ∀ n ∈ z0, (Lit.int .u8 n).wf = true) (y0 : len0 * 1 ≤ 140737488351232) :
 Calls Try.prog 3 #[.slice a0 len0 cap0] w fun e w' => e = .returned (.bool true) ∧ Below w.heap.size w w' := by
 obtain ⟨l0, rfl, hr0, hm0, hw0, hc0⟩ := ReadsInt.ofRowC w0
 obtain ⟨k, h⟩ := P l0 hm0 y0 hw0
 refine (laws_FnRead.calls k _ _ l0 true w (Kd.C_of_reads (d := (0 : Int)) (h1 := fun _ => rfl) hr0) hc0 h).mono ?_
 rintro e w' ⟨rfl, hd⟩
 exact ⟨rfl, hd⟩
end Go.Proofs.Ytcdhpkbcdnnohaa.Ry
