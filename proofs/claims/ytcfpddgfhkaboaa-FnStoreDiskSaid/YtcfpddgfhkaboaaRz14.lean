-- printed by wip/pp/pp.py
import Derived.Test.YtcfpddgfhkaboaaRz0
import Derived.Test.YtcfpddgfhkaboaaRz1
import Derived.Test.YtcfpddgfhkaboaaRz4
import Derived.Test.YtcfpddgfhkaboaaRz13
import Derived.WalkKit
import Derived.OwnWalkIn
import Derived.TacticsInMore
import Derived.LoopNIn
import Derived.LoopIn
import Derived.IntWalk
import Derived.WalkArith
import Derived.Test.YtcfpddgfhkaboaaWStep
import Derived.RangeFuncLeaves
import Derived.RangeFuncNested
import Derived.RangeFuncBound
import Derived.RangeFuncCalls
import Derived.Shelf.Abstract
import Derived.Test.YtcfpddgfhkaboaaRz10
import Derived.Test.YtcfpddgfhkaboaaRz11
import Derived.Test.YtcfpddgfhkaboaaWMap
import Derived.Maps.OwnOps
import Derived.Maps.Own
import Derived.Maps.OwnIn
import Derived.Laws.MakeOwn
namespace Go.Proofs.Ytcfpddgfhkaboaa.Rz
open Go.RowKit Go.Proofs.YtcfpddgfhkaboaaW.PrintWords Go.Proofs.YtcfpddgfhkaboaaW.PrintLast Go.Proofs.YtcfpddgfhkaboaaW.PrintMore
attribute [local go_sem] max2_int min2_int max_two min_two max_three min_three max_four min_four
set_option linter.unusedVariables false
set_option linter.unusedSimpArgs false
attribute [local go_sem] Oper.semAt_some
mutual
def spec_StoreOk.j0 : Nat → Bool → List (S60) → List Int → Option (Bool)
 | 0, _, _, _ => none
 | k + 1, x15, x230000, x230001 => if x15 = true then (some false) else (spec_StoreOk.l0 k 0 x230000 x230001)
def spec_StoreOk.l0 : Nat → Int → List (S60) → List Int → Option (Bool)
 | 0, _, _, _ => none
 | k + 1, x3, x230000, x230001 => if x3 < 6 then ((spec_l3Last.f k x230000 (wrap64 (x3 + 1))).bind fun bt231 => (if 0 ≤ x3 then (if x3 < (x230001.length : Int) then ((spec_l6In.f (rd x230001 x3) 0 9).bind fun t238 => (if t238 = true then (if bt231.2.2.2.2 = true then (if bt231.1 = 2 then (if bt231.2.2.2.1 = (rd x230001 x3) then (spec_StoreOk.l0 k (wrap64 (x3 + 1)) x230000 x230001) else (some false)) else (spec_StoreOk.l0 k (wrap64 (x3 + 1)) x230000 x230001)) else (spec_StoreOk.l0 k (wrap64 (x3 + 1)) x230000 x230001)) else (some false))) else (none)) else (none))) else (some true)
end
def spec_StoreOk.f (k : Nat) (l0_0 : List (S60)) (l0_1 : List Int) : Option (Bool) := (spec_FindOrder.f l0_0).bind fun t230 => (if t230 = true then (spec_StoreOk.j0 k ((l0_1.length : Int) != 6) l0_0 l0_1) else (spec_StoreOk.j0 k true l0_0 l0_1))
theorem spec_StoreOk.mono_l : ∀ k, (∀ y0 y1 y2, LeO (spec_StoreOk.j0 k y0 y1 y2) (spec_StoreOk.j0 (k + 1) y0 y1 y2)) ∧ (∀ y0 y1 y2, LeO (spec_StoreOk.l0 k y0 y1 y2) (spec_StoreOk.l0 (k + 1) y0 y1 y2))
 | 0 => ⟨fun _ _ _ r h => by simp [spec_StoreOk.j0] at h, fun _ _ _ r h => by simp [spec_StoreOk.l0] at h⟩
 | k + 1 => by
  obtain ⟨ih0, ih1⟩ := spec_StoreOk.mono_l k
  refine ⟨?_, ?_⟩
  · intro y0 y1 y2
    unfold spec_StoreOk.j0
    with_reducible repeat' first | exact ih0 _ _ _ | exact ih1 _ _ _ | exact spec_l3Last.mono _ _ _ | exact LeO.refl _ | exact LeO.none _ | refine LeO.ite ?_ ?_ | refine LeO.bind ?_ (fun _ => ?_)
  · intro y0 y1 y2
    unfold spec_StoreOk.l0
    with_reducible repeat' first | exact ih0 _ _ _ | exact ih1 _ _ _ | exact spec_l3Last.mono _ _ _ | exact LeO.refl _ | exact LeO.none _ | refine LeO.ite ?_ ?_ | refine LeO.bind ?_ (fun _ => ?_)
theorem spec_StoreOk.mono : ∀ a0 a1 k, LeO (spec_StoreOk.f k a0 a1) (spec_StoreOk.f (k + 1) a0 a1) := by
 intro a0 a1 k
 obtain ⟨ih0, ih1⟩ := spec_StoreOk.mono_l k
 unfold spec_StoreOk.f
 with_reducible repeat' first | exact ih0 _ _ _ | exact ih1 _ _ _ | exact spec_l3Last.mono _ _ _ | exact LeO.refl _ | exact LeO.none _ | refine LeO.ite ?_ ?_ | refine LeO.bind ?_ (fun _ => ?_)
def StS (w : World) (g : Nat) (A0 : Option Addr) (n0 c0 : Nat) (A1 : Option Addr) (c1 : Nat) (ad : Addr) (d : Int) (b : Nat) (q1 q2 q3 q4 : Int) (W : World) : Prop :=
 W.cell? ⟨b, 1, none⟩ = some (.slice A1 6 c1) ∧ W.cell? ⟨g, 0, none⟩ = some (.int .i64 q1) ∧ W.cell? ⟨g, 3, none⟩ = some (.int .i64 q4) ∧ W.cell? ad = some (.int .i64 d) ∧
 W.heap[b]? = some (.cells #[.slice A0 n0 c0, .slice A1 6 c1] 26 (0, 0)) ∧ W.heap[g]? = some (.cells #[.int .i64 q1, .int .i64 q2, .int .i64 q3, .int .i64 q4] 30 (0, 0)) ∧ Below w.heap.size w W
section
variable {w : World} {g : Nat} {A0 : Option Addr} {n0 c0 : Nat} {A1 : Option Addr} {c1 : Nat} {ad : Addr} {d : Int} {b : Nat} {q1 q2 q3 q4 : Int} {W W' : World}
theorem stStep (h : StS w g A0 n0 c0 A1 c1 ad d b q1 q2 q3 q4 W) (hb : Below W.heap.size W W') : StS w g A0 n0 c0 A1 c1 ad d b q1 q2 q3 q4 W' := by
 obtain ⟨_, _, _, h4, h5, h6, h7⟩ := h
 have h5 := blk_below h5 hb
 have h6 := blk_below h6 hb
 exact ⟨(blk_cell h5 1).trans rfl, (blk_cell h6 0).trans rfl, (blk_cell h6 3).trans rfl, up hb h4, h5, h6, below_then h7 h7.size hb⟩
theorem stC (h : StS w g A0 n0 c0 A1 c1 ad d b q1 q2 q3 q4 W) : W.cell? ⟨b, 1, none⟩ = some (.slice A1 6 c1) ∧ W.cell? ad = some (.int .i64 d) := ⟨h.1, h.2.2.2.1⟩
theorem stG (h : StS w g A0 n0 c0 A1 c1 ad d b q1 q2 q3 q4 W) : W.cell? ⟨g, 0, none⟩ = some (.int .i64 q1) ∧ W.cell? ⟨g, 3, none⟩ = some (.int .i64 q4) := ⟨h.2.1, h.2.2.1⟩
theorem stDrew (h : StS w g A0 n0 c0 A1 c1 ad d b q1 q2 q3 q4 W) : StS w g A0 n0 c0 A1 c1 ad d b q1 q2 q3 q4 W.drew := stStep h (below_drew (Below.refl _ _))
end
set_option maxRecDepth 100000 in
set_option maxHeartbeats 8000000 in
theorem spec_StoreOk.calls (k : Nat) (A0_0 : Option Addr) (c0_0 : Nat) (l0_0 : List (S60)) (A0_1 : Option Addr) (c0_1 : Nat) (l0_1 : List Int) (r : Bool) (w : World) (hr0_0 : Kd.C k60 w A0_0 l0_0.length l0_0) (hc0_0 : l0_0.length ≤ c0_0) (hr0_1 : Kd.C (Kd.int .i64) w A0_1 l0_1.length l0_1) (hc0_1 : l0_1.length ≤ c0_1) (h : spec_StoreOk.f k l0_0 l0_1 = some r) :
 Calls Try.prog 6 #[.agg #[.slice A0_0 l0_0.length c0_0, .slice A0_1 l0_1.length c0_1]] w fun e w' => e = .returned (.bool r) ∧ Below w.heap.size w w' := by
 refine (callsIn_wide (n := 3)).1 ?_
 have hu := Try.underlying26
 have hu2 := Try.underlying30
 have hbox := blk_new w (.cells #[.slice A0_0 l0_0.length c0_0, .slice A0_1 l0_1.length c0_1] 26)
 have hB1 := below_alloc (Below.refl _ w) (.cells #[.slice A0_0 l0_0.length c0_0, .slice A0_1 l0_1.length c0_1] 26)
 unfold spec_StoreOk.f at h
 obtain ⟨t, ht, h⟩ := Option.bind_eq_some_iff.1 h
 have hor := callsIn_wide (n := 2).2 (spec_FindOrder.calls A0_0 c0_0 l0_0 t _ (Kd.C_below hr0_0 hB1) hc0_0 ht)
 cases k with
 | zero => cases t <;> simp [spec_StoreOk.j0] at h
 | succ k =>
 cases t with
 | false =>
  rw [if_neg (by simp), spec_StoreOk.j0, if_pos rfl] at h
  obtain rfl := Option.some.inj h
  clear h ht
  refine callsIn_of_wp Try.func6 rfl trivial ?_ rfl
  simp only [Try.ntmps6, List.size_toArray, List.length_cons, List.length_nil, Nat.reduceAdd, Nat.reduceSub, Array.replicate_succ, Array.replicate_zero, List.push_toArray, List.append_toArray, List.nil_append, List.cons_append]
  gi_wp2_with (first | (refine ⟨trivial, ?_⟩; gi_at_call 16; refine hor.mono ?_; rintro e w1 ⟨rfl, hb⟩; have hB2 := below_then hB1 hB1.size hb))
  go_ret
  exact ⟨rfl, hB2⟩
 | true =>
 rw [if_pos rfl, spec_StoreOk.j0] at h
 by_cases c6 : (l0_1.length : Int) = 6
 rotate_left
 · have c6b : ((l0_1.length : Int) != 6) = true := by simp [c6]
   rw [c6b, if_pos rfl] at h
   obtain rfl := Option.some.inj h
   clear h ht c6
   refine callsIn_of_wp Try.func6 rfl trivial ?_ rfl
   simp only [Try.ntmps6, List.size_toArray, List.length_cons, List.length_nil, Nat.reduceAdd, Nat.reduceSub, Array.replicate_succ, Array.replicate_zero, List.push_toArray, List.append_toArray, List.nil_append, List.cons_append]
   gi_wp2_with (first | (refine ⟨trivial, ?_⟩; gi_at_call 16; refine hor.mono ?_; rintro e w1 ⟨rfl, hb⟩; have hbx := blk_below hbox hb; have hB2 := below_then hB1 hB1.size hb; have hq1 : w1.cell? ⟨w.heap.size, 1, none⟩ = some (.slice A0_1 l0_1.length c0_1) := (blk_cell hbx 1).trans rfl))
   go_ret
   exact ⟨rfl, hB2⟩
 · have c6b : ((l0_1.length : Int) != 6) = false := by simp [c6]
   rw [c6b, if_neg (by simp)] at h
   have H := am h
   have hl : l0_1.length = 6 := by omega
   clear h ht c6 c6b
   rw [hl] at hbox hB1 hor ⊢
   have hl3 : ∀ (W : World) (kk : Nat) (a q1 q2 q3 q4 : Int) (q5 : Bool), Below w.heap.size w W → spec_l3Last.f kk l0_0 a = some (q1, q2, q3, q4, q5) → CallsIn Fence.wide 2 Try.prog 17 #[.slice A0_0 l0_0.length c0_0, .int .i64 a] W fun e w' => e = .returned (.tuple #[.agg #[.int .i64 q1, .int .i64 q2, .int .i64 q3, .int .i64 q4], .bool q5]) ∧ Below W.heap.size W w' := fun W kk a q1 q2 q3 q4 q5 hb hq => callsIn_wide.2 (spec_l3Last.calls kk A0_0 c0_0 l0_0 a q1 q2 q3 q4 q5 W (Kd.C_below hr0_0 hb) hc0_0 hq)
   refine callsIn_of_wp Try.func6 rfl trivial ?_ rfl
   simp only [Try.ntmps6, List.size_toArray, List.length_cons, List.length_nil, Nat.reduceAdd, Nat.reduceSub, Array.replicate_succ, Array.replicate_zero, List.push_toArray, List.append_toArray, List.nil_append, List.cons_append]
   gi_wp2_with (first | (refine ⟨trivial, ?_⟩; gi_at_call 16; refine hor.mono ?_; rintro e w1 ⟨rfl, hb⟩; have hbx := blk_below hbox hb; have hB2 := below_then hB1 hB1.size hb; have hq1 : w1.cell? ⟨w.heap.size, 1, none⟩ = some (.slice A0_1 6 c0_1) := (blk_cell hbx 1).trans rfl))
   clear hor hq1 hbox hB1 hb
   gi_loopw [3] (fun v3 wr => ∃ (i kq : Nat), v3 = .int .i64 (i : Int) ∧ i ≤ 6 ∧ Aside0 (spec_StoreOk.l0 kq (i : Int) l0_0 l0_1 = some r) ∧ Aside0 (wr.heap[w.heap.size]? = some (.cells #[.slice A0_0 l0_0.length c0_0, .slice A0_1 6 c0_1] 26 (0, 0))) ∧ Aside0 (Below w.heap.size w wr)) (fun v3 _ => 6 - (intOf v3).toNat)
   case atStart => exact ⟨0, k, rfl, by omega, H, ⟨hbx⟩, ⟨hB2⟩⟩
   case round =>
    clear H hbx hB2
    obtain ⟨i, kq, rfl, hi, HA, hX, hB⟩ := hrel
    cases kq with
    | zero => exact absurd HA.out (by simp [spec_StoreOk.l0])
    | succ k1 =>
    have h := HA.out
    clear HA
    rw [spec_StoreOk.l0] at h
    by_cases ci : i < 6
    rotate_left
    · obtain rfl : i = 6 := by omega
      rw [if_neg (by omega)] at h
      obtain rfl := Option.some.inj h
      clear h
      gi_wp2
      go_ret
      exact ⟨rfl, hB.out⟩
    · have cib : decide ((i : Int) < 6) = true := decide_eq_true (by omega)
      have p1 : 0 ≤ (i : Int) := by omega
      have q1_ : (i : Int) < 6 := by omega
      rw [if_pos (by omega), IntWalk.wrap64_in _ (by omega)] at h
      obtain ⟨⟨q1, q2, q3, q4, q5⟩, hq, h⟩ := Option.bind_eq_some_iff.1 h
      dsimp only at h
      rw [if_pos (by omega), if_pos (by omega)] at h
      obtain ⟨b6, hb6, h⟩ := Option.bind_eq_some_iff.1 h
      obtain ⟨ad1, e1, hx1⟩ := Kd.at_int hr0_1 (i : Int) p1 (by omega)
      cases e1
      simp only [Int.toNat_natCast] at hx1
      generalize rd l0_1 (i : Int) = d at hx1 h hb6
      have HX1 := am hx1
      have h6 : ∀ W, Calls Try.prog 18 #[.int .i64 d, .int .i64 0, .int .i64 9] W fun e w' => e = .returned (.bool b6) ∧ Below W.heap.size W w' := fun W => (spec_l6In.calls d 0 9 b6 W hb6).mono fun e w' h => ⟨h.1, h.2.below⟩
      have hc3 := fun W hb => hl3 W k1 _ q1 q2 q3 q4 q5 hb hq
      have HC3 := am hc3
      have HN := fun (hn : spec_StoreOk.l0 k1 ((i : Int) + 1) l0_0 l0_1 = some r) => (show spec_StoreOk.l0 k1 ((i + 1 : Nat) : Int) l0_0 l0_1 = some r from by rw [show ((i + 1 : Nat) : Int) = (i : Int) + 1 by omega]; exact hn)
      have H := am h
      have HNN := am HN
      have hcx0 : wr.cell? ⟨w.heap.size, 0, none⟩ = some (.slice A0_0 l0_0.length c0_0) := (blk_cell hX.out 0).trans rfl
      clear h hq hb6 hx1 hc3 HN hl3
      gi_wp2_with (first | (refine ⟨trivial, ?_⟩; gi_at_call 17; refine (HC3.out _ hB.out).mono ?_; rintro e w4 ⟨rfl, hb⟩; have hX4 := am (blk_below hX.out hb); have hB4 := am (below_then hB.out hB.out.size hb); have HX4 := am (up hB4.out HX1.out); clear hb hcx0))
      have hg : (w4.alloc (.cells #[.int .i64 q1, .int .i64 q2, .int .i64 q3, .int .i64 q4] 30)).heap[w4.heap.size]? = some (.cells #[.int .i64 q1, .int .i64 q2, .int .i64 q3, .int .i64 q4] 30 (0, 0)) := blk_new w4 _
      have hX5 := blk_alloc hX4.out (.cells #[.int .i64 q1, .int .i64 q2, .int .i64 q3, .int .i64 q4] 30)
      have hSt : StS w w4.heap.size A0_0 l0_0.length c0_0 (some ad1) c0_1 (ad1.add i) d w.heap.size q1 q2 q3 q4 (w4.alloc (.cells #[.int .i64 q1, .int .i64 q2, .int .i64 q3, .int .i64 q4] 30)) := ⟨(blk_cell hX5 1).trans rfl, (blk_cell hg 0).trans rfl, (blk_cell hg 3).trans rfl, up (below_alloc (Below.refl _ _) _) HX4.out, hX5, hg, below_alloc hB4.out _⟩
      have h := H.out
      clear H hX hB HC3 HX1 hg hX5 hX4 hB4 HX4
      cases b6 with
      | false =>
       rw [if_neg (by simp)] at h
       obtain rfl := Option.some.inj h
       clear h HNN
       refine wpIn_wide.2 ?_
       refine start_ (n := 25) (S := StS w w4.heap.size A0_0 l0_0.length c0_0 (some ad1) c0_1 (ad1.add i) d w.heap.size q1 q2 q3 q4) (ds := []) (bt_ 25 0) (by kernel_rfl) rfl rfl (stDrew hSt) ?_
       intro hSt
       refine pi_ 0 28 (bt_ 25 1) rfl rfl (fun _ _ _ h => h) ?_
       refine pl_ 1 29 (bt_ 25 3) rfl rfl (fun _ _ _ h => h) hSt (fun _ h => stC h) ?_
       refine pi_ 2 30 (bt_ 25 7) rfl rfl (fun _ _ _ h => h) ?_
       refine pi_ 3 31 (bt_ 25 15) rfl rfl (fun _ _ _ h => h) ?_
       refine pl_ 4 32 (bt_ 25 31) rfl rfl (fun _ _ _ h => h) hSt (fun _ h => stC h) ?_
       refine pk_ 5 33 (bt_ 25 63) rfl rfl Try.func18 #[.int .i64 d, .int .i64 0, .int .i64 9] rfl (h6 _) (fun _ h => stStep hSt h) ?_; intro w5 hSt
       refine pi_ 6 34 (bt_ 25 127) rfl rfl (fun _ _ _ h => h) ?_
       refine pi_ 7 35 (bt_ 25 255) rfl rfl (fun _ _ _ h => h) ?_
       refine pu_ 8 36 (bt_ 25 511) rfl rfl (fun _ _ _ h => h) ?_
       refine pu_ 9 37 (bt_ 25 1023) rfl rfl (fun _ _ _ h => h) ?_
       refine pu_ 10 38 (bt_ 25 2047) rfl rfl (fun _ _ _ h => h) ?_
       refine pu_ 11 39 (bt_ 25 4095) rfl rfl (fun _ _ _ h => h) ?_
       refine pu_ 12 40 (bt_ 25 8191) rfl rfl (fun _ _ _ h => h) ?_
       refine pu_ 13 41 (bt_ 25 16383) rfl rfl (fun _ _ _ h => h) ?_
       refine pu_ 14 42 (bt_ 25 32767) rfl rfl (fun _ _ _ h => h) ?_
       refine pu_ 15 43 (bt_ 25 65535) rfl rfl (fun _ _ _ h => h) ?_
       refine pu_ 16 44 (bt_ 25 131071) rfl rfl (fun _ _ _ h => h) ?_
       refine pu_ 17 45 (bt_ 25 262143) rfl rfl (fun _ _ _ h => h) ?_
       refine pu_ 18 46 (bt_ 25 524287) rfl rfl (fun _ _ _ h => h) ?_
       refine pu_ 19 47 (bt_ 25 1048575) rfl rfl (fun _ _ _ h => h) ?_
       refine pu_ 20 48 (bt_ 25 2097151) rfl rfl (fun _ _ _ h => h) ?_
       refine pu_ 21 49 (bt_ 25 4194303) rfl rfl (fun _ _ _ h => h) ?_
       refine pu_ 22 50 (bt_ 25 8388607) rfl rfl (fun _ _ _ h => h) ?_
       refine pu_ 23 51 (bt_ 25 16777215) rfl rfl (fun _ _ _ h => h) ?_
       refine pi_ 24 52 (bt_ 25 33554431) rfl rfl (fun _ _ _ h => h) ?_
       refine done_ (by kernel_rfl) ?_
       obtain ⟨_, _, _, _, _, _, hB⟩ := hSt
       gi_wp2
       go_ret
       exact ⟨rfl, hB⟩
      | true =>
       rw [if_pos rfl] at h
       cases q5 with
       | false =>
        rw [if_neg (by simp)] at h
        have HN := am (HNN.out h)
        clear h HNN
        refine wpIn_wide.2 ?_
        refine start_ (n := 25) (S := StS w w4.heap.size A0_0 l0_0.length c0_0 (some ad1) c0_1 (ad1.add i) d w.heap.size q1 q2 q3 q4) (ds := []) (bt_ 25 0) (by kernel_rfl) rfl rfl (stDrew hSt) ?_
        intro hSt
        refine pi_ 0 28 (bt_ 25 1) rfl rfl (fun _ _ _ h => h) ?_
        refine pl_ 1 29 (bt_ 25 3) rfl rfl (fun _ _ _ h => h) hSt (fun _ h => stC h) ?_
        refine pi_ 2 30 (bt_ 25 7) rfl rfl (fun _ _ _ h => h) ?_
        refine pi_ 3 31 (bt_ 25 15) rfl rfl (fun _ _ _ h => h) ?_
        refine pl_ 4 32 (bt_ 25 31) rfl rfl (fun _ _ _ h => h) hSt (fun _ h => stC h) ?_
        refine pk_ 5 33 (bt_ 25 63) rfl rfl Try.func18 #[.int .i64 d, .int .i64 0, .int .i64 9] rfl (h6 _) (fun _ h => stStep hSt h) ?_; intro w5 hSt
        refine pi_ 6 34 (bt_ 25 127) rfl rfl (fun _ _ _ h => h) ?_
        refine pi_ 7 35 (bt_ 25 255) rfl rfl (fun _ _ _ h => h) ?_
        refine pi_ 8 36 (bt_ 25 511) rfl rfl (fun _ _ _ h => h) ?_
        refine pi_ 9 37 (bt_ 25 1023) rfl rfl (fun _ _ _ h => h) ?_
        refine pu_ 10 38 (bt_ 25 2047) rfl rfl (fun _ _ _ h => h) ?_
        refine pu_ 11 39 (bt_ 25 4095) rfl rfl (fun _ _ _ h => h) ?_
        refine pu_ 12 40 (bt_ 25 8191) rfl rfl (fun _ _ _ h => h) ?_
        refine pi_ 13 41 (bt_ 25 16383) rfl rfl (fun _ _ _ h => h) ?_
        refine pi_ 14 42 (bt_ 25 32767) rfl rfl (fun _ _ _ h => h) ?_
        refine pu_ 15 43 (bt_ 25 65535) rfl rfl (fun _ _ _ h => h) ?_
        refine pu_ 16 44 (bt_ 25 131071) rfl rfl (fun _ _ _ h => h) ?_
        refine pu_ 17 45 (bt_ 25 262143) rfl rfl (fun _ _ _ h => h) ?_
        refine pu_ 18 46 (bt_ 25 524287) rfl rfl (fun _ _ _ h => h) ?_
        refine pu_ 19 47 (bt_ 25 1048575) rfl rfl (fun _ _ _ h => h) ?_
        refine pu_ 20 48 (bt_ 25 2097151) rfl rfl (fun _ _ _ h => h) ?_
        refine pu_ 21 49 (bt_ 25 4194303) rfl rfl (fun _ _ _ h => h) ?_
        refine pu_ 22 50 (bt_ 25 8388607) rfl rfl (fun _ _ _ h => h) ?_
        refine pi_ 23 51 (bt_ 25 16777215) rfl rfl (fun _ _ _ h => h) ?_
        refine pi_ 24 52 (bt_ 25 33554431) rfl rfl (fun _ _ _ h => h) ?_
        refine done_ (by kernel_rfl) ?_
        obtain ⟨_, _, _, _, hX, _, hB⟩ := hSt
        gi_wp2
        exact ⟨⟨i + 1, k1, by simp, by omega, HN, ⟨hX⟩, ⟨hB⟩⟩, by simp [intOf]; omega⟩
       | true =>
        rw [if_pos rfl] at h
        by_cases k2 : q1 = 2
        rotate_left
        · have k2b : (q1 == 2) = false := by simp [k2]
          rw [if_neg k2] at h
          have HN := am (HNN.out h)
          clear h HNN k2
          refine wpIn_wide.2 ?_
          refine start_ (n := 25) (S := StS w w4.heap.size A0_0 l0_0.length c0_0 (some ad1) c0_1 (ad1.add i) d w.heap.size q1 q2 q3 q4) (ds := []) (bt_ 25 0) (by kernel_rfl) rfl rfl (stDrew hSt) ?_
          intro hSt
          refine pi_ 0 28 (bt_ 25 1) rfl rfl (fun _ _ _ h => h) ?_
          refine pl_ 1 29 (bt_ 25 3) rfl rfl (fun _ _ _ h => h) hSt (fun _ h => stC h) ?_
          refine pi_ 2 30 (bt_ 25 7) rfl rfl (fun _ _ _ h => h) ?_
          refine pi_ 3 31 (bt_ 25 15) rfl rfl (fun _ _ _ h => h) ?_
          refine pl_ 4 32 (bt_ 25 31) rfl rfl (fun _ _ _ h => h) hSt (fun _ h => stC h) ?_
          refine pk_ 5 33 (bt_ 25 63) rfl rfl Try.func18 #[.int .i64 d, .int .i64 0, .int .i64 9] rfl (h6 _) (fun _ h => stStep hSt h) ?_; intro w5 hSt
          refine pi_ 6 34 (bt_ 25 127) rfl rfl (fun _ _ _ h => h) ?_
          refine pi_ 7 35 (bt_ 25 255) rfl rfl (fun _ _ _ h => h) ?_
          refine pi_ 8 36 (bt_ 25 511) rfl rfl (fun _ _ _ h => h) ?_
          refine pi_ 9 37 (bt_ 25 1023) rfl rfl (fun _ _ _ h => h) ?_
          refine pi_ 10 38 (bt_ 25 2047) rfl rfl (fun _ _ _ h => h) ?_
          refine pl_ 11 39 (bt_ 25 4095) rfl rfl (fun _ _ _ h => h) hSt (fun _ h => stG h) ?_
          refine pi_ 12 40 (bt_ 25 8191) rfl rfl (fun _ _ _ h => h) ?_
          refine pi_ 13 41 (bt_ 25 16383) rfl rfl (fun _ _ _ h => h) ?_
          refine pi_ 14 42 (bt_ 25 32767) rfl rfl (fun _ _ _ h => h) ?_
          refine pu_ 15 43 (bt_ 25 65535) rfl rfl (fun _ _ _ h => h) ?_
          refine pu_ 16 44 (bt_ 25 131071) rfl rfl (fun _ _ _ h => h) ?_
          refine pu_ 17 45 (bt_ 25 262143) rfl rfl (fun _ _ _ h => h) ?_
          refine pu_ 18 46 (bt_ 25 524287) rfl rfl (fun _ _ _ h => h) ?_
          refine pu_ 19 47 (bt_ 25 1048575) rfl rfl (fun _ _ _ h => h) ?_
          refine pu_ 20 48 (bt_ 25 2097151) rfl rfl (fun _ _ _ h => h) ?_
          refine pu_ 21 49 (bt_ 25 4194303) rfl rfl (fun _ _ _ h => h) ?_
          refine pu_ 22 50 (bt_ 25 8388607) rfl rfl (fun _ _ _ h => h) ?_
          refine pi_ 23 51 (bt_ 25 16777215) rfl rfl (fun _ _ _ h => h) ?_
          refine pi_ 24 52 (bt_ 25 33554431) rfl rfl (fun _ _ _ h => h) ?_
          refine done_ (by kernel_rfl) ?_
          obtain ⟨_, _, _, _, hX, _, hB⟩ := hSt
          gi_wp2
          exact ⟨⟨i + 1, k1, by simp, by omega, HN, ⟨hX⟩, ⟨hB⟩⟩, by simp [intOf]; omega⟩
        · subst k2
          rw [if_pos rfl] at h
          by_cases k3 : q4 = d
          rotate_left
          · have k3b : (q4 != d) = true := by simp [k3]
            rw [if_neg k3] at h
            obtain rfl := Option.some.inj h
            clear h HNN k3
            refine wpIn_wide.2 ?_
            refine start_ (n := 25) (S := StS w w4.heap.size A0_0 l0_0.length c0_0 (some ad1) c0_1 (ad1.add i) d w.heap.size 2 q2 q3 q4) (ds := []) (bt_ 25 0) (by kernel_rfl) rfl rfl (stDrew hSt) ?_
            intro hSt
            refine pi_ 0 28 (bt_ 25 1) rfl rfl (fun _ _ _ h => h) ?_
            refine pl_ 1 29 (bt_ 25 3) rfl rfl (fun _ _ _ h => h) hSt (fun _ h => stC h) ?_
            refine pi_ 2 30 (bt_ 25 7) rfl rfl (fun _ _ _ h => h) ?_
            refine pi_ 3 31 (bt_ 25 15) rfl rfl (fun _ _ _ h => h) ?_
            refine pl_ 4 32 (bt_ 25 31) rfl rfl (fun _ _ _ h => h) hSt (fun _ h => stC h) ?_
            refine pk_ 5 33 (bt_ 25 63) rfl rfl Try.func18 #[.int .i64 d, .int .i64 0, .int .i64 9] rfl (h6 _) (fun _ h => stStep hSt h) ?_; intro w5 hSt
            refine pi_ 6 34 (bt_ 25 127) rfl rfl (fun _ _ _ h => h) ?_
            refine pi_ 7 35 (bt_ 25 255) rfl rfl (fun _ _ _ h => h) ?_
            refine pi_ 8 36 (bt_ 25 511) rfl rfl (fun _ _ _ h => h) ?_
            refine pi_ 9 37 (bt_ 25 1023) rfl rfl (fun _ _ _ h => h) ?_
            refine pi_ 10 38 (bt_ 25 2047) rfl rfl (fun _ _ _ h => h) ?_
            refine pl_ 11 39 (bt_ 25 4095) rfl rfl (fun _ _ _ h => h) hSt (fun _ h => stG h) ?_
            refine pi_ 12 40 (bt_ 25 8191) rfl rfl (fun _ _ _ h => h) ?_
            refine pi_ 13 41 (bt_ 25 16383) rfl rfl (fun _ _ _ h => h) ?_
            refine pi_ 14 42 (bt_ 25 32767) rfl rfl (fun _ _ _ h => h) ?_
            refine pi_ 15 43 (bt_ 25 65535) rfl rfl (fun _ _ _ h => h) ?_
            refine pl_ 16 44 (bt_ 25 131071) rfl rfl (fun _ _ _ h => h) hSt (fun _ h => stG h) ?_
            refine pi_ 17 45 (bt_ 25 262143) rfl rfl (fun _ _ _ h => h) ?_
            refine pl_ 18 46 (bt_ 25 524287) rfl rfl (fun _ _ _ h => h) hSt (fun _ h => stC h) ?_
            refine pi_ 19 47 (bt_ 25 1048575) rfl rfl (fun _ _ _ h => h) ?_
            refine pi_ 20 48 (bt_ 25 2097151) rfl rfl (fun _ _ _ h => h) ?_
            refine pl_ 21 49 (bt_ 25 4194303) rfl rfl (fun _ _ _ h => h) hSt (fun _ h => stC h) ?_
            refine pi_ 22 50 (bt_ 25 8388607) rfl rfl (fun _ _ _ h => h) ?_
            refine pi_ 23 51 (bt_ 25 16777215) rfl rfl (fun _ _ _ h => h) ?_
            refine pi_ 24 52 (bt_ 25 33554431) rfl rfl (fun _ _ _ h => h) ?_
            refine done_ (by kernel_rfl) ?_
            obtain ⟨_, _, _, _, _, _, hB⟩ := hSt
            gi_wp2
            go_ret
            exact ⟨rfl, hB⟩
          have k3b : (q4 != d) = false := by simp [k3]
          rw [if_pos k3] at h
          have HN := am (HNN.out h)
          clear h HNN k3
          refine wpIn_wide.2 ?_
          refine start_ (n := 25) (S := StS w w4.heap.size A0_0 l0_0.length c0_0 (some ad1) c0_1 (ad1.add i) d w.heap.size 2 q2 q3 q4) (ds := []) (bt_ 25 0) (by kernel_rfl) rfl rfl (stDrew hSt) ?_
          intro hSt
          refine pi_ 0 28 (bt_ 25 1) rfl rfl (fun _ _ _ h => h) ?_
          refine pl_ 1 29 (bt_ 25 3) rfl rfl (fun _ _ _ h => h) hSt (fun _ h => stC h) ?_
          refine pi_ 2 30 (bt_ 25 7) rfl rfl (fun _ _ _ h => h) ?_
          refine pi_ 3 31 (bt_ 25 15) rfl rfl (fun _ _ _ h => h) ?_
          refine pl_ 4 32 (bt_ 25 31) rfl rfl (fun _ _ _ h => h) hSt (fun _ h => stC h) ?_
          refine pk_ 5 33 (bt_ 25 63) rfl rfl Try.func18 #[.int .i64 d, .int .i64 0, .int .i64 9] rfl (h6 _) (fun _ h => stStep hSt h) ?_; intro w5 hSt
          refine pi_ 6 34 (bt_ 25 127) rfl rfl (fun _ _ _ h => h) ?_
          refine pi_ 7 35 (bt_ 25 255) rfl rfl (fun _ _ _ h => h) ?_
          refine pi_ 8 36 (bt_ 25 511) rfl rfl (fun _ _ _ h => h) ?_
          refine pi_ 9 37 (bt_ 25 1023) rfl rfl (fun _ _ _ h => h) ?_
          refine pi_ 10 38 (bt_ 25 2047) rfl rfl (fun _ _ _ h => h) ?_
          refine pl_ 11 39 (bt_ 25 4095) rfl rfl (fun _ _ _ h => h) hSt (fun _ h => stG h) ?_
          refine pi_ 12 40 (bt_ 25 8191) rfl rfl (fun _ _ _ h => h) ?_
          refine pi_ 13 41 (bt_ 25 16383) rfl rfl (fun _ _ _ h => h) ?_
          refine pi_ 14 42 (bt_ 25 32767) rfl rfl (fun _ _ _ h => h) ?_
          refine pi_ 15 43 (bt_ 25 65535) rfl rfl (fun _ _ _ h => h) ?_
          refine pl_ 16 44 (bt_ 25 131071) rfl rfl (fun _ _ _ h => h) hSt (fun _ h => stG h) ?_
          refine pi_ 17 45 (bt_ 25 262143) rfl rfl (fun _ _ _ h => h) ?_
          refine pl_ 18 46 (bt_ 25 524287) rfl rfl (fun _ _ _ h => h) hSt (fun _ h => stC h) ?_
          refine pi_ 19 47 (bt_ 25 1048575) rfl rfl (fun _ _ _ h => h) ?_
          refine pi_ 20 48 (bt_ 25 2097151) rfl rfl (fun _ _ _ h => h) ?_
          refine pl_ 21 49 (bt_ 25 4194303) rfl rfl (fun _ _ _ h => h) hSt (fun _ h => stC h) ?_
          refine pi_ 22 50 (bt_ 25 8388607) rfl rfl (fun _ _ _ h => h) ?_
          refine pi_ 23 51 (bt_ 25 16777215) rfl rfl (fun _ _ _ h => h) ?_
          refine pi_ 24 52 (bt_ 25 33554431) rfl rfl (fun _ _ _ h => h) ?_
          refine done_ (by kernel_rfl) ?_
          obtain ⟨_, _, _, _, hX, _, hB⟩ := hSt
          gi_wp2
          exact ⟨⟨i + 1, k1, by simp, by omega, HN, ⟨hX⟩, ⟨hB⟩⟩, by simp [intOf]; omega⟩
attribute [local go_sem] Oper.semAt_some
def lastStep (a : Int) (r : S30) (p : S52) : S30 := if p.f0 = 1 ∧ p.f1.f2 = a ∧ p.f1.f1 > r.f1 then p.f1 else r
def lastA (l : List S60) (a : Int) : S30 := (pagesL l).foldl (lastStep a) ⟨0, 0, 0, 0⟩
def impl_FindLast.f (l0 : List (S60)) (a1 : Int) : Option (Int × Int × Int × Int × Bool) := some (if addrB a1 = true ∧ flashOkB l0 = true then ((lastA l0 a1).f0, (lastA l0 a1).f1, (lastA l0 a1).f2, (lastA l0 a1).f3, decide ((lastA l0 a1).f1 > 0)) else (0, 0, 0, 0, false))
def lastOf (a : Int) (pre : List AnyPage) : S30 := pre.foldl (fun m x => lastStep a m x.1.2.2) ⟨0, 0, 0, 0⟩
theorem lastOf_snoc (a : Int) (pre : List AnyPage) (x : AnyPage) : lastOf a (pre ++ [x]) = lastStep a (lastOf a pre) x.1.2.2 := by simp [lastOf]
theorem lastOf_all {a : Int} {ys : List AnyPage} {l0 : List S60} (h : ys.map (·.1) = spotsF 0 l0) : lastOf a ys = lastA l0 a := by
 unfold lastOf lastA pagesL
 rw [← h, List.foldl_map, List.foldl_map]
set_option maxRecDepth 100000 in
set_option maxHeartbeats 4000000 in
theorem impl_FindLast.calls (A0 : Option Addr) (c0 : Nat) (l0 : List (S60)) (a1 : Int) (r1 : Int) (r2 : Int) (r3 : Int) (r4 : Int) (r5 : Bool) (w : World) (hr0 : Kd.C k60 w A0 l0.length l0) (hc0 : l0.length ≤ c0) (h : impl_FindLast.f l0 a1 = some (r1, r2, r3, r4, r5)) :
 Calls Try.prog 7 #[.slice A0 l0.length c0, .int .i64 a1] w fun e w' => e = .returned (.tuple #[.agg #[.int .i64 r1, .int .i64 r2, .int .i64 r3, .int .i64 r4], .bool r5]) ∧ Below w.heap.size w w' := by
 have hu := Try.underlying30
 refine (callsIn_wide (n := 3)).1 ?_
 have hak : ∀ w, CallsIn Fence.wide 2 Try.prog 19 #[.int .i64 a1] w fun e w' => e = .returned (.bool (addrB a1)) ∧ w = w' := fun w => callsIn_wide.2 (addrOk_any a1 w)
 unfold impl_FindLast.f at h
 have h := Option.some.inj h
 have b3 := Boxed.new w 3 (.int .i64 a1)
 have b4 : RecBox ((w.alloc (.cells #[.int .i64 a1] 3)).alloc (.cells #[.int .i64 0, .int .i64 0, .int .i64 0, .int .i64 0] 30)) (w.heap.size + 1) ⟨0, 0, 0, 0⟩ := by have := blk_new (w.alloc (.cells #[.int .i64 a1] 3)) (.cells #[.int .i64 0, .int .i64 0, .int .i64 0, .int .i64 0] 30); rw [World.size_alloc] at this; exact this
 replace b3 := b3.alloc (.cells #[.int .i64 0, .int .i64 0, .int .i64 0, .int .i64 0] 30)
 have hbw : Below w.heap.size w ((w.alloc (.cells #[.int .i64 a1] 3)).alloc (.cells #[.int .i64 0, .int .i64 0, .int .i64 0, .int .i64 0] 30)) := ((Below.refl _ w).alloc (Nat.le_refl _) _).alloc (by simp) _
 cases ha : addrB a1 with
 | false =>
  simp only [ha] at hak
  rw [ha, if_neg (by simp)] at h
  cases h
  refine callsIn_of_wp_marks Try.func7 rfl trivial ?_ rfl
  simp only [Try.ntmps7, List.size_toArray, List.length_cons, List.length_nil, Nat.reduceAdd, Nat.reduceSub, Array.replicate_succ, Array.replicate_zero, List.push_toArray, List.append_toArray, List.nil_append, List.cons_append]
  gi_wp2_with (first | (refine ⟨trivial, ?_⟩; gi_at_call 19; refine (hak _).mono ?_; rintro e w1 ⟨rfl, rfl⟩) | (refine And.intro (show Fence.wide.fn 20 from trivial) ?_))
  exact ⟨_, results_ct rfl _ _ (w.heap.size + 1) _ _ _ _ rfl b4 hu rfl (by kernel_rfl), rfl, hbw⟩
 | true =>
  simp only [ha] at hak
  have hok := callsIn_wide (n := 2).2 (impl_FlashOk.calls A0 c0 l0 _ _ (Kd.C_below hr0 hbw) hc0 rfl)
  cases hf : flashOkB l0 with
  | false =>
   rw [hf] at hok
   rw [hf, if_neg (by simp)] at h
   cases h
   refine callsIn_of_wp_marks Try.func7 rfl trivial ?_ rfl
   simp only [Try.ntmps7, List.size_toArray, List.length_cons, List.length_nil, Nat.reduceAdd, Nat.reduceSub, Array.replicate_succ, Array.replicate_zero, List.push_toArray, List.append_toArray, List.nil_append, List.cons_append]
   gi_wp2_with (first | (refine ⟨trivial, ?_⟩; gi_at_call 19; refine (hak _).mono ?_; rintro e w1 ⟨rfl, rfl⟩) | (refine ⟨trivial, ?_⟩; gi_at_call 20; refine hok.mono ?_; rintro e w1 ⟨rfl, hb⟩; have b4' : RecBox w1 (w.heap.size + 1) ⟨0, 0, 0, 0⟩ := blk_below b4 hb; obtain ⟨hq0, hq1, hq2, hq3⟩ := b4'.cells; have hg0 := b4'.frozen 0; have hg1 := b4'.frozen 1; have hg2 := b4'.frozen 2; have hg3 := b4'.frozen 3))
   exact ⟨_, results_ct rfl _ _ (w.heap.size + 1) _ _ _ _ rfl (b4'.put ⟨0, 0, 0, 0⟩) hu rfl (by kernel_rfl), rfl, below_set4 (below_then hbw hbw.size hb) (by omega) ⟨0, 0, 0, 0⟩⟩
  | true =>
   rw [hf] at hok
   rw [ha, hf, if_pos ⟨rfl, rfl⟩] at h
   refine callsIn_of_wp_marks Try.func7 rfl trivial ?_ rfl
   simp only [Try.ntmps7, List.size_toArray, List.length_cons, List.length_nil, Nat.reduceAdd, Nat.reduceSub, Array.replicate_succ, Array.replicate_zero, List.push_toArray, List.append_toArray, List.nil_append, List.cons_append]
   gi_wp2_with (first | (refine ⟨trivial, ?_⟩; gi_at_call 19; refine (hak _).mono ?_; rintro e w1 ⟨rfl, rfl⟩) | (refine ⟨trivial, ?_⟩; gi_at_call 20; refine hok.mono ?_; rintro e w1 ⟨rfl, hb⟩) | (refine ⟨trivial, ?_⟩; gi_at_call 21; refine (eachPage_in Fence.wide 2 trivial rfl _ _ _ _).mono ?_; rintro e w2 ⟨rfl, rfl⟩))
   have hs1 := hb.size
   simp only [World.size_alloc] at hs1
   have b3' : Boxed w1 w.heap.size 3 (.int .i64 a1) := blk_below b3 hb
   have b4' : RecBox w1 (w.heap.size + 1) ⟨0, 0, 0, 0⟩ := blk_below b4 hb
   have hbw1 := below_then hbw hbw.size hb
   have bL : RecBox (w1.alloc (.cells #[.int .i64 0, .int .i64 0, .int .i64 0, .int .i64 0] 30)) w1.heap.size ⟨0, 0, 0, 0⟩ := blk_new w1 _
   have bN := Boxed.new (w1.alloc (.cells #[.int .i64 0, .int .i64 0, .int .i64 0, .int .i64 0] 30)) 23 (.slice A0 l0.length c0)
   rw [World.size_alloc] at bN
   have bL2 : RecBox ((w1.alloc (.cells #[.int .i64 0, .int .i64 0, .int .i64 0, .int .i64 0] 30)).alloc (.cells #[.slice A0 l0.length c0] 23)) w1.heap.size ⟨0, 0, 0, 0⟩ := blk_alloc bL _
   have hB0 : Below w.heap.size w ((w1.alloc (.cells #[.int .i64 0, .int .i64 0, .int .i64 0, .int .i64 0] 30)).alloc (.cells #[.slice A0 l0.length c0] 23)) := (hbw1.alloc hbw1.size _).alloc (hbw1.alloc hbw1.size _).size _
   refine wpIn_rangeFunc_ownH (F := Fence.wide) rfl (by decide) (gf := 33) (lb := #[.pointer (some ⟨w1.heap.size + 1, 0, none⟩)]) rfl trivial (enters_of Try.func33 (by kernel_rfl) rfl)
    (eachPage_stops Fence.wide 2 trivial rfl (by decide) (fun _ => True) (w1.heap.size + 1) A0 c0 l0 w _ hr0 (fun _ _ => trivial) hB0 bN.cell) belowK_t (belowK_b hB0.size) (Below.refl _ _) (fun _ => rfl)
    (fun pre W => RecBox W w1.heap.size (lastOf a1 pre) ∧ Boxed W w.heap.size 3 (.int .i64 a1) ∧ RecBox W (w.heap.size + 1) ⟨0, 0, 0, 0⟩ ∧ Below w.heap.size w W) (fun _ _ _ => False)
    (OwnFrom.and (Own.from (RecBox.own _ _) _) (OwnFrom.and (Own.from (boxed_own _ _ _) _) (OwnFrom.and (Own.from (RecBox.own _ _) _) (ownFrom_below (Nat.le_refl _) hB0.size)))) (fun _ _ _ _ _ hs _ _ => hs)
    ⟨bL2, (b3'.alloc _).alloc _, blk_alloc (blk_alloc b4' _) _, hB0⟩
    (fun x a' W => ∃ Bx, w1.heap.size < Bx ∧ PageBox W Bx x.1.2.2 ∧ a' = { tmps := #[.slice A0 l0.length c0, .int .i64 a1, undef, .pointer (some ⟨w.heap.size, 0, none⟩), .pointer (some ⟨w.heap.size + 1, 0, none⟩), .bool false, .pointer (some ⟨w1.heap.size, 0, none⟩), undef, .pointer (some ⟨Bx, 0, none⟩), .int .i64 a1, .bool true, .bool false, .bool false, .slice A0 l0.length c0, .bool true, .bool false, .bool false, undef, .slice A0 l0.length c0, .func (.func 33) #[] #[.pointer (some ⟨w1.heap.size + 1, 0, none⟩)], .agg #[.int .i64 (x.1.1 : Int), .int .i64 (x.1.2.1 : Int)], .agg #[.int .i64 x.1.2.2.f0, .int .i64 x.1.2.2.f1.f0, .int .i64 x.1.2.2.f1.f1, .int .i64 x.1.2.2.f1.f2, .int .i64 x.1.2.2.f1.f3], undef, undef, undef, undef, undef, undef, undef, undef, undef, undef, undef, undef, undef, undef, undef, undef, undef, undef, undef, undef, undef, undef, undef, undef], defers := [] })
    (fun x a' s X Y row hs hg hr => by obtain ⟨Bx, h1, h2, h3⟩ := hs; exact ⟨Bx, h1, PageBox.own Bx _ _ () X Y row h2 hg hr, h3⟩) ?assign ?body ?done ?stop
   case assign =>
    rintro l pre x W K ⟨hbx, hb3, hb4, hB⟩ hK
    gi_wp2
    exact hK _ _ ((KeepsOthers.alloc _ _).from _) ((Below.refl _ W).alloc hB.size _) ⟨blk_alloc hbx _, hb3.alloc _, blk_alloc hb4 _, hB.alloc hB.size _⟩ ⟨W.heap.size, blk_lt hbx, blk_new W _, rfl⟩
   case body =>
    rintro l pre x a' W hl ⟨r, hr⟩ ⟨hbx, hb3, hb4, hB⟩ ⟨Bx, hBx, bX, rfl⟩ hlt
    obtain ⟨hc0_, hc1_, hc2_, hc3_, hc4_⟩ := bX.cells
    have hcl := hb3.cell
    obtain ⟨hq0, hq1, hq2, hq3⟩ := hbx.cells
    have hg0 := hbx.frozen 0
    have hg1 := hbx.frozen 1
    have hg2 := hbx.frozen 2
    have hg3 := hbx.frozen 3
    have hsn := lastOf_snoc a1 pre x
    unfold lastStep at hsn
    by_cases hs1 : x.1.2.2.f0 = 1
    rotate_left
    · have hs2 : (x.1.2.2.f0 == 1) = false := by simp [hs1]
      rw [if_neg (fun h => hs1 h.1)] at hsn
      gi_wp2
      exact ⟨KeepsFrom.refl _ _, Below.refl _ _, by rw [hsn]; exact hbx, hb3, hb4, hB⟩
    have hs2 : (x.1.2.2.f0 == 1) = true := by simp [hs1]
    by_cases ht1 : x.1.2.2.f1.f2 = a1
    rotate_left
    · have ht2 : (x.1.2.2.f1.f2 == a1) = false := by simp [ht1]
      rw [if_neg (fun h => ht1 h.2.1)] at hsn
      gi_wp2
      exact ⟨KeepsFrom.refl _ _, Below.refl _ _, by rw [hsn]; exact hbx, hb3, hb4, hB⟩
    have ht2 : (x.1.2.2.f1.f2 == a1) = true := by simp [ht1]
    by_cases hv1 : x.1.2.2.f1.f1 > (lastOf a1 pre).f1
    rotate_left
    · have hv2 : decide ((lastOf a1 pre).f1 < x.1.2.2.f1.f1) = false := decide_eq_false hv1
      rw [if_neg (fun h => hv1 h.2.2)] at hsn
      gi_wp2
      exact ⟨KeepsFrom.refl _ _, Below.refl _ _, by rw [hsn]; exact hbx, hb3, hb4, hB⟩
    have hv2 : decide ((lastOf a1 pre).f1 < x.1.2.2.f1.f1) = true := decide_eq_true hv1
    rw [if_pos ⟨hs1, ht1, hv1⟩] at hsn
    obtain ⟨q, hq, hq_⟩ : ∃ q : S30, q = ⟨x.1.2.2.f1.f0, x.1.2.2.f1.f1, a1, x.1.2.2.f1.f3⟩ ∧ x.1.2.2.f1 = q := ⟨_, rfl, by rw [← ht1]⟩
    rw [hq_] at hsn
    have ok1 : RecBox (set4 W w1.heap.size q) w1.heap.size (lastOf a1 (pre ++ [x])) := by rw [hsn]; exact RecBox.put hbx _
    have ok2 : Boxed (set4 W w1.heap.size q) w.heap.size 3 (.int .i64 a1) := Boxed.far4 hb3 (by omega) _
    have ok3 : RecBox (set4 W w1.heap.size q) (w.heap.size + 1) ⟨0, 0, 0, 0⟩ := RecBox.far hb4 (by omega) _
    have ok4 : Below w.heap.size w (set4 W w1.heap.size q) := below_set4 hB (by omega) _
    have ok5 : Below w.heap.size W (set4 W w1.heap.size q) := below_set4 (Below.refl _ W) (by omega) _
    have OK1 := am ok1
    have OK2 := am ok2
    have OK3 := am ok3
    have OK4 := am ok4
    have OK5 := am ok5
    have OK6 := am ((keeps_set4 W w1.heap.size q).from ((w1.alloc (.cells #[.int .i64 0, .int .i64 0, .int .i64 0, .int .i64 0] 30)).alloc (.cells #[.slice A0 l0.length c0] 23)).heap.size)
    subst hq
    clear ok1 ok2 ok3 ok4 ok5 hsn hq_
    gi_wp2
    exact ⟨OK6.out, OK5.out, OK1.out, OK2.out, OK3.out, OK4.out⟩
   case done =>
    rintro D ys W hD hys ⟨hbx, hb3, hb4, hB⟩ hK
    rw [lastOf_all hys] at hbx
    cases h
    obtain ⟨hq0, hq1, hq2, hq3⟩ := hbx.cells
    obtain ⟨ho0, ho1, ho2, ho3⟩ := hb4.cells
    have hg0 := hb4.frozen 0
    have hg1 := hb4.frozen 1
    have hg2 := hb4.frozen 2
    have hg3 := hb4.frozen 3
    gi_wp2
    gi_region
    gi_wp2
    have hbp : RecBox (set4 W (w.heap.size + 1) (lastA l0 a1)).drew (w.heap.size + 1) (lastA l0 a1) := RecBox.put hb4 _
    have hK' : (set4 W (w.heap.size + 1) (lastA l0 a1)).drew.heap[D]? = some (.deferred (some [])) := (keeps_set4 W (w.heap.size + 1) (lastA l0 a1)).same D _ hK rfl
    have hB' : Below w.heap.size w (set4 W (w.heap.size + 1) (lastA l0 a1)).drew := below_drew (below_set4 hB (by omega) _)
    refine ⟨by simp, .inl ⟨_, _, rfl, run_takeDeferred hK', ?_⟩⟩
    have hbq := RecBox.own (β := Unit) _ (fun _ => lastA l0 a1) () _ _ _ hbp (grownBy_putObj' _ D (.deferred none)) (fun r e => by cases e; exact ⟨_, hK', rfl⟩)
    exact ⟨_, results_ct rfl _ _ (w.heap.size + 1) _ _ _ _ rfl hbq hu rfl (by kernel_rfl), rfl, hB'.trans (belowK_b (w := w) (Nat.le_refl _) _ D _ _ (by have := hB0.size; omega) hK' rfl rfl)⟩
   case stop =>
    rintro D c pre W _ _ h _
    exact h.elim
def laws_lqInts.l0 : Nat → List Int → List Int → Int → Option (Bool)
 | 0, _, _, _ => none
 | k + 1, x0, x1, x5 => if x5 < (x0.length : Int) then (if 0 ≤ x5 then (if x5 < (x1.length : Int) then (if (rd x0 x5) = (rd x1 x5) then (laws_lqInts.l0 k x0 x1 (wrap64 (x5 + 1))) else (some false)) else (none)) else (none)) else (some true)
def laws_lqInts.f (k : Nat) (l0 : List Int) (l1 : List Int) : Option (Bool) := if (l0.length : Int) = (l1.length : Int) then (laws_lqInts.l0 k l0 l1 0) else (some false)
theorem laws_lqInts.mono_l : ∀ k, (∀ y0 y1 y2, LeO (laws_lqInts.l0 k y0 y1 y2) (laws_lqInts.l0 (k + 1) y0 y1 y2))
 | 0 => fun _ _ _ r h => by simp [laws_lqInts.l0] at h
 | k + 1 => by
  have ih0 := laws_lqInts.mono_l k
  · intro y0 y1 y2
    unfold laws_lqInts.l0
    with_reducible repeat' first | exact ih0 _ _ _ | exact LeO.refl _ | exact LeO.none _ | refine LeO.ite ?_ ?_ | refine LeO.bind ?_ (fun _ => ?_)
theorem laws_lqInts.mono : ∀ a0 a1 k, LeO (laws_lqInts.f k a0 a1) (laws_lqInts.f (k + 1) a0 a1) := by
 intro a0 a1 k
 have ih0 := laws_lqInts.mono_l k
 unfold laws_lqInts.f
 with_reducible repeat' first | exact ih0 _ _ _ | exact LeO.refl _ | exact LeO.none _ | refine LeO.ite ?_ ?_ | refine LeO.bind ?_ (fun _ => ?_)
set_option maxHeartbeats 8000000 in
set_option maxRecDepth 100000 in
theorem laws_lqInts.calls (k : Nat) (A0 : Option Addr) (c0 : Nat) (l0 : List Int) (A1 : Option Addr) (c1 : Nat) (l1 : List Int) (r : Bool) (w : World) (hr0 : Kd.C (Kd.int .i64) w A0 l0.length l0) (hc0 : l0.length ≤ c0) (hr1 : Kd.C (Kd.int .i64) w A1 l1.length l1) (hc1 : l1.length ≤ c1) (h : laws_lqInts.f k l0 l1 = some r) :
 Calls Try.prog 8 #[.slice A0 l0.length c0, .slice A1 l1.length c1] w fun e w' => e = .returned (.bool r) ∧ Drawn0 w w' := by
 have HR0 := am hr0
 have HC0 := am hc0
 clear hr0 hc0
 have HR1 := am hr1
 have HC1 := am hc1
 clear hr1 hc1
 have H : (if (l0.length : Int) = (l1.length : Int) then (laws_lqInts.l0 k l0 l1 0) else (some false)) = some r := h
 clear h
 by_cases c3 : (l0.length : Int) = (l1.length : Int)
 rotate_left
 · rw [if_neg c3] at H
   have c3b0 : ((l0.length : Int) == (l1.length : Int)) = false := beq_eq_false_iff_ne.mpr c3
   have c3b1 : ((l0.length : Int) != (l1.length : Int)) = true := bne_iff_ne.mpr c3
   have c3b2 : (l0.length == l1.length) = false := by first | simpa using c3 | (simp at c3 ⊢; omega)
   obtain rfl := Option.some.inj H
   go_enter Try.func8, Try.ntmps8
   go_wp2
   repeat (go_quiet (fail); try go_wp2)
   go_ret
   exact ⟨by first | rfl | (simp; done) | (simp [*]; done), by repeat (first | exact Drawn0.refl _ | apply Drawn0.step)⟩
 rw [if_pos c3] at H
 have c3b0 : ((l0.length : Int) == (l1.length : Int)) = true := beq_iff_eq.mpr c3
 have c3b1 : ((l0.length : Int) != (l1.length : Int)) = false := bne_eq_false_iff_eq.mpr c3
 have c3b2 : (l0.length == l1.length) = true := by first | simpa using c3 | (simp at c3 ⊢; omega)
 clear c3
 have H' := am H
 clear H
 go_enter Try.func8, Try.ntmps8
 go_wp2
 repeat (go_quiet (fail); try go_wp2)
 go_loopg [5] k (fun kq v5 w' => ∃ (x5_1 : Int), v5 = .int .i64 x5_1 ∧ Aside0 (laws_lqInts.l0 kq l0 l1 x5_1 = some r) ∧ Aside0 (kq ≤ k) ∧ Drawn0 w w')
 case atStart => exact ⟨(0), rf, H', ⟨Nat.le_refl _⟩, by repeat (first | exact Drawn0.refl _ | apply Drawn0.step)⟩
 case round =>
  clear H'
  obtain ⟨x5_1, rfl, HA, HK1, ⟨m1, rfl⟩⟩ := hrel
  cases gk with
  | zero => exact absurd HA.out (by simp [laws_lqInts.l0])
  | succ k1 =>
   have H := HA.out
   clear HA
   simp only [laws_lqInts.l0] at H
   by_cases c4 : x5_1 < (l0.length : Int)
   rotate_left
   · rw [if_neg c4] at H
     have c4b0 := decide_eq_false c4
     clear c4
     obtain rfl := Option.some.inj H
     go_wp2
     repeat (go_quiet (fail); try go_wp2)
     go_ret
     exact ⟨by first | rfl | (simp; done) | (simp [*]; done), by repeat (first | exact Drawn0.refl _ | apply Drawn0.step)⟩
   rw [if_pos c4] at H
   have c4b0 := decide_eq_true c4
   clear c4
   obtain ⟨c5b0, H⟩ := ifd H
   obtain ⟨c6b0, H⟩ := ifd H
   by_cases c7 : (rd l0 x5_1) = (rd l1 x5_1)
   rotate_left
   · rw [if_neg c7] at H
     have c7b0 : ((rd l0 x5_1) == (rd l1 x5_1)) = false := beq_eq_false_iff_ne.mpr c7
     have c7b1 : ((rd l0 x5_1) != (rd l1 x5_1)) = true := bne_iff_ne.mpr c7
     obtain rfl := Option.some.inj H
     have p411 : 0 ≤ (x5_1 : Int) := ofb
     have q411 : x5_1 < (l0.length : Int) := ofb
     obtain ⟨ad411, e411, hx411_0⟩ := Kd.at_int HR0.out x5_1 p411 q411
     cases e411
     replace p411 := eq_true p411
     replace q411 := eq_true q411
     have p412 : 0 ≤ (x5_1 : Int) := ofb
     have q412 : x5_1 < (l1.length : Int) := ofb
     obtain ⟨ad412, e412, hx412_0⟩ := Kd.at_int HR1.out x5_1 p412 q412
     cases e412
     replace p412 := eq_true p412
     replace q412 := eq_true q412
     go_wp2
     repeat (go_quiet (fail); try go_wp2)
     go_ret
     exact ⟨by first | rfl | (simp; done) | (simp [*]; done), by repeat (first | exact Drawn0.refl _ | apply Drawn0.step)⟩
   rw [if_pos c7] at H
   have c7b0 : ((rd l0 x5_1) == (rd l1 x5_1)) = true := beq_iff_eq.mpr c7
   have c7b1 : ((rd l0 x5_1) != (rd l1 x5_1)) = false := bne_eq_false_iff_eq.mpr c7
   clear c7
   have H' := am H
   clear H
   have p411 : 0 ≤ (x5_1 : Int) := ofb
   have q411 : x5_1 < (l0.length : Int) := ofb
   obtain ⟨ad411, e411, hx411_0⟩ := Kd.at_int HR0.out x5_1 p411 q411
   cases e411
   replace p411 := eq_true p411
   replace q411 := eq_true q411
   have p412 : 0 ≤ (x5_1 : Int) := ofb
   have q412 : x5_1 < (l1.length : Int) := ofb
   obtain ⟨ad412, e412, hx412_0⟩ := Kd.at_int HR1.out x5_1 p412 q412
   cases e412
   replace p412 := eq_true p412
   replace q412 := eq_true q412
   go_wp2
   repeat (go_quiet (fail); try go_wp2)
   go_roundg k1
   case measure => have := HK1.out; omega
   case rel => exact ⟨(wrap64 (x5_1 + 1)), rf, H', ⟨by have := HK1.out; omega⟩, by repeat (first | exact Drawn0.refl _ | apply Drawn0.step)⟩
open Go.Proofs.YtcfpddgfhkaboaaW
attribute [local go_sem] Oper.semAt_some
def ValsBox (W : World) (g : Nat) (s : Nat → Int) : Prop := W.heap[g]? = some (.cells #[.int .i64 (s 0), .int .i64 (s 1), .int .i64 (s 2), .int .i64 (s 3), .int .i64 (s 4), .int .i64 (s 5)] 3 (0, 0))
theorem ValsBox.at_ {W : World} {g : Nat} {s : Nat → Int} (h : ValsBox W g s) (i : Nat) (hi : i < 6) : W.cell? ⟨g, i, none⟩ = some (.int .i64 (s i)) := by
 rw [blk_cell h i]
 obtain rfl | rfl | rfl | rfl | rfl | rfl : i = 0 ∨ i = 1 ∨ i = 2 ∨ i = 3 ∨ i = 4 ∨ i = 5 := by omega
 all_goals rfl
theorem ValsBox.put {W : World} {g : Nat} {s : Nat → Int} (h : ValsBox W g s) (i : Nat) (hi : i < 6) (a : Int) : ValsBox (W.setCell ⟨g, i, none⟩ (.int .i64 a)) g (fun j => if j = i then a else s j) := by
 have := blk_set h i (.int .i64 a)
 unfold ValsBox
 rw [this]
 obtain rfl | rfl | rfl | rfl | rfl | rfl : i = 0 ∨ i = 1 ∨ i = 2 ∨ i = 3 ∨ i = 4 ∨ i = 5 := by omega
 all_goals simp
theorem ValsBox.row {W : World} {g base : Nat} {s : Nat → Int} (h : ValsBox W g s) (hg : base ≤ g) : Kd.R (Kd.int .i64) 3 W base (fun _ => True) (.slice (some ⟨g, 0, none⟩) 6 6) [s 0, s 1, s 2, s 3, s 4, s 5] :=
 Kd.R_of_own (enc := Value.int .i64) (h1 := fun _ => rfl) ⟨rfl, .inr ⟨g, 6, _, rfl, hg, h, Nat.le_refl _, by decide, rfl, rfl⟩⟩ (fun _ _ => trivial)
theorem make_six (W : World) : (Instr.makeSlice 24 (.int .i64 6) (.int .i64 6)).run Try.prog W = .ok (.slice (some ⟨W.heap.size, 0, none⟩) 6 6) (W.alloc (.cells #[.int .i64 0, .int .i64 0, .int .i64 0, .int .i64 0, .int .i64 0, .int .i64 0] 3)) := by
 have hinfo : (Try.prog.info? 3).map (fun i => (i.zero, i.size, i.bytes)) = some (some (.int .i64 0), 1, 8) := by kernel_rfl
 obtain ⟨i0, hi, hzz⟩ := Option.map_eq_some_iff.1 hinfo
 simp only [Prod.mk.injEq] at hzz
 obtain ⟨hz0, hz1, hz2⟩ := hzz
 have hr := run_make (P := Try.prog) W 24 3 i0 _ Try.underlying24 hi hz0 .i64 .i64 6 6 (by decide) (by decide) (by rw [hz2]; decide) (by decide)
 have h8 : Array.range (Int.toNat 6 * 1) = #[0, 1, 2, 3, 4, 5] := by decide
 rw [hz1] at hr
 unfold madeCells at hr
 have hc : (Value.int IntKind.i64 0).cells = #[Value.int IntKind.i64 0] := by simp [Value.cells]
 rw [h8, hc] at hr
 simpa using hr
def valAt (M : RecMap) (l1 : List Int) (i : Nat) : Int := match M ((i : Int) + 1) with
 | some r => r.2.2.2
 | none => rd l1 (i : Int)
def allV (l0 : List S60) (l1 : List Int) : List Int := if storeOkB l0 l1 = true then [valAt (lastMap l0) l1 0, valAt (lastMap l0) l1 1, valAt (lastMap l0) l1 2, valAt (lastMap l0) l1 3, valAt (lastMap l0) l1 4, valAt (lastMap l0) l1 5] else []
def impl_StoreAll.f (l0_0 : List (S60)) (l0_1 : List Int) : Option (List Int) := some (allV l0_0 l0_1)
set_option maxRecDepth 100000 in
set_option maxHeartbeats 8000000 in
theorem impl_StoreAll.calls (A0_0 : Option Addr) (c0_0 : Nat) (l0_0 : List (S60)) (A0_1 : Option Addr) (c0_1 : Nat) (l0_1 : List Int) (r : List Int) (w : World) (hr0_0 : Kd.C k60 w A0_0 l0_0.length l0_0) (hc0_0 : l0_0.length ≤ c0_0) (hr0_1 : Kd.C (Kd.int .i64) w A0_1 l0_1.length l0_1) (hc0_1 : l0_1.length ≤ c0_1) (h : impl_StoreAll.f l0_0 l0_1 = some r) :
 Calls Try.prog 9 #[.agg #[.slice A0_0 l0_0.length c0_0, .slice A0_1 l0_1.length c0_1]] w fun e w' => ∃ v0_ : Value, e = .returned v0_ ∧ Kd.R (Kd.int .i64) 3 w' w.heap.size (fun _ => True) v0_ r ∧ Below w.heap.size w w' := by
 obtain rfl := Option.some.inj h
 clear h
 refine (callsIn_wide (n := 3)).1 ?_
 have hu := Try.underlying26
 have hu2 := Try.underlying30
 have hmk := make_six
 have hso : ∀ W, Below w.heap.size w W → CallsIn Fence.wide 2 Try.prog 5 #[.agg #[.slice A0_0 l0_0.length c0_0, .slice A0_1 l0_1.length c0_1]] W fun e w' => e = .returned (.bool (storeOkB l0_0 l0_1)) ∧ Below W.heap.size W w' := fun W hb => callsIn_wide.2 (impl_StoreOk.calls A0_0 c0_0 l0_0 A0_1 c0_1 l0_1 _ W (Kd.C_below hr0_0 hb) hc0_0 (Kd.C_below hr0_1 hb) hc0_1 rfl)
 have hbox := blk_new w (.cells #[.slice A0_0 l0_0.length c0_0, .slice A0_1 l0_1.length c0_1] 26)
 have hB1 := below_alloc (Below.refl _ w) (.cells #[.slice A0_0 l0_0.length c0_0, .slice A0_1 l0_1.length c0_1] 26)
 unfold allV
 cases hs : storeOkB l0_0 l0_1 with
 | false =>
  rw [hs] at hso
  rw [if_neg (by simp)]
  refine callsIn_of_wp Try.func9 rfl trivial ?_ rfl
  simp only [Try.ntmps9, List.size_toArray, List.length_cons, List.length_nil, Nat.reduceAdd, Nat.reduceSub, Array.replicate_succ, Array.replicate_zero, List.push_toArray, List.append_toArray, List.nil_append, List.cons_append]
  gi_wp2_with (first | (refine ⟨trivial, ?_⟩; gi_at_call 5; refine (hso _ hB1).mono ?_; rintro e w1 ⟨rfl, hb⟩; have hbox1 := blk_below hbox hb; have hB2 := below_then hB1 hB1.size hb; have hq0 : w1.cell? ⟨w.heap.size, 0, none⟩ = some (.slice A0_0 l0_0.length c0_0) := (blk_cell hbox1 0).trans rfl))
  go_ret
  exact ⟨_, rfl, Kd.R_nil _ _ _ _ _, hB2⟩
 | true =>
  rw [hs] at hso
  rw [if_pos rfl]
  have hl : l0_1.length = 6 ∧ orderI l0_0 = true := by
   unfold storeOkB at hs
   rw [Bool.and_eq_true, Bool.and_eq_true, decide_eq_true_eq] at hs
   exact ⟨by omega, hs.2.1⟩
  have hf := order_flash hl.2
  have hl := hl.1
  have hlr : ∀ W, Below w.heap.size w W → CallsIn Fence.wide 2 Try.prog 13 #[.slice A0_0 l0_0.length c0_0] W fun e w' => ∃ B n, e = .returned (.map (some B)) ∧ RecsIs Try.prog 3 w' B n (lastMap l0_0) ∧ W.heap.size ≤ B ∧ Below W.heap.size W w' := fun W hb => callsIn_wide.2 (lastRecords_any A0_0 c0_0 l0_0 W (Kd.C_below hr0_0 hb) hf)
  generalize lastMap l0_0 = M at hlr ⊢
  rw [hl] at hbox hB1 hso ⊢
  refine callsIn_of_wp Try.func9 rfl trivial ?_ rfl
  simp only [Try.ntmps9, List.size_toArray, List.length_cons, List.length_nil, Nat.reduceAdd, Nat.reduceSub, Array.replicate_succ, Array.replicate_zero, List.push_toArray, List.append_toArray, List.nil_append, List.cons_append]
  gi_wp2_with (first | (refine ⟨trivial, ?_⟩; gi_at_call 5; refine (hso _ hB1).mono ?_; rintro e w1 ⟨rfl, hb⟩; have hbox1 := blk_below hbox hb; have hB2 := below_then hB1 hB1.size hb; have hq0 : w1.cell? ⟨w.heap.size, 0, none⟩ = some (.slice A0_0 l0_0.length c0_0) := (blk_cell hbox1 0).trans rfl) | (refine ⟨trivial, ?_⟩; gi_at_call 13; refine (hlr _ hB2).mono ?_; rintro e w2 ⟨B, n, rfl, hm, hBq, hb2⟩; have hB3 := below_then hB2 hB2.size hb2; have hbox2 := blk_below hbox1 hb2; have hlt2 := blk_lt hbox2; have hq1 : w2.cell? ⟨w.heap.size, 1, none⟩ = some (.slice A0_1 6 c0_1) := (blk_cell hbox2 1).trans rfl))
  clear hso hlr
  have bV : ValsBox (w2.alloc (.cells #[.int .i64 0, .int .i64 0, .int .i64 0, .int .i64 0, .int .i64 0, .int .i64 0] 3)) w2.heap.size (fun _ => 0) := blk_new w2 _
  have hm2 := hm.alloc (.cells #[.int .i64 0, .int .i64 0, .int .i64 0, .int .i64 0, .int .i64 0, .int .i64 0] 3)
  have hB4 := below_alloc hB3 (.cells #[.int .i64 0, .int .i64 0, .int .i64 0, .int .i64 0, .int .i64 0, .int .i64 0] 3)
  have hg : w.heap.size ≤ w2.heap.size := hB3.size
  have hBg : B < w2.heap.size := hm.lt
  generalize w2.heap.size = g at bV hg hBg ⊢
  gi_loopw [19] (fun v19 wr => ∃ i : Nat, v19 = .int .i64 (i : Int) ∧ i ≤ 6 ∧ Aside0 (ValsBox wr g (fun j => if j < i then valAt M l0_1 j else 0)) ∧ Aside0 (RecsIs Try.prog 3 wr B n M) ∧ Aside0 (Below w.heap.size w wr)) (fun v19 _ => 6 - (intOf v19).toNat)
  case atStart => exact ⟨0, rfl, by omega, ⟨by simpa using bV⟩, ⟨hm2⟩, ⟨hB4⟩⟩
  case round =>
   clear hm2 hB4 hB3 hB2 hB1 hbox hbox1 hbox2 hq0 hq1 bV hm
   obtain ⟨i, rfl, hi, hv, hm, hB⟩ := hrel
   by_cases ci : i < 6
   rotate_left
   · obtain rfl : i = 6 := by omega
     gi_wp2
     go_ret
     exact ⟨_, rfl, hv.out.row hg, hB.out⟩
   have cib : decide ((i : Int) < 6) = true := decide_eq_true (by omega)
   have p1 : 0 ≤ (i : Int) := by omega
   have q1 : (i : Int) < 6 := by omega
   obtain ⟨ad1, e1, hx1⟩ := Kd.at_int hr0_1 (i : Int) p1 (by omega)
   cases e1
   replace hx1 := (hB.out.cell (World.block_lt_of_cell? w _ hx1)).trans hx1
   simp only [Int.toNat_natCast] at hx1
   have hva : valAt M l0_1 i = (match M ((i : Int) + 1) with
    | some r => r.2.2.2
    | none => rd l0_1 (i : Int)) := rfl
   generalize rd l0_1 (i : Int) = d at hx1 hva
   have hwf : (Lit.int .i64 ((i : Int) + 1)).wf = true := WalkArith.wf_i64 ⟨by omega, by omega⟩
   have hc0 := hv.out.at_ i ci
   have hf0 : wr.frozen? ⟨g, i, none⟩ = false := blk_frozen hv.out i
   have hV1 := am (hv.out.put i ci d)
   have hM1 := am (hm.out.setCell (a := ⟨g, i, none⟩) (by show B ≠ g; omega) (.int .i64 d))
   have hb1 := am (hB.out.setCell (p := ⟨g, i, none⟩) hg (.int .i64 d))
   have hlk := hM1.out.look_ok (T := 40) (E := 30) Try.underlying3 Try.underlying40 (by go_simp; rfl) hwf
   have hst : ∀ x : Int, valAt M l0_1 i = x → (fun j => if j < i + 1 then valAt M l0_1 j else 0) = (fun j => if j = i then x else (fun j => if j < i then valAt M l0_1 j else 0) j) := fun x hx => by
    funext j
    show (if j < i + 1 then valAt M l0_1 j else 0) = (if j = i then x else if j < i then valAt M l0_1 j else 0)
    by_cases e : j = i
    · subst e
      rw [if_pos (by omega), if_pos rfl, hx]
    rw [if_neg e]
    by_cases e2 : j < i
    rotate_left
    · rw [if_neg (by omega), if_neg e2]
    rw [if_pos (by omega), if_pos e2]
   cases hM : M ((i : Int) + 1) with
   | none =>
    rw [hM] at hlk hva
    simp only [Option.getD_none, Option.isSome_none, recVal] at hlk
    have HS := am (hst d hva)
    clear hst hva hwf
    gi_wp2
    exact ⟨⟨i + 1, by simp, by omega, ⟨by rw [HS.out]; exact blk_alloc hV1.out _⟩, ⟨hM1.out.alloc _⟩, ⟨below_alloc hb1.out _⟩⟩, by simp [intOf]; omega⟩
   | some q =>
    obtain ⟨qa, qb, qc, qd⟩ := q
    rw [hM] at hlk hva
    simp only [Option.getD_some, Option.isSome_some, recVal] at hlk
    have HS := am (hst qd hva)
    have hglt := blk_lt hv.out
    clear hst hva hwf
    gi_wp2
    have hV3 := hV1.out.put i ci qd
    have e : (fun j => if j = i then qd else (if j = i then d else if j < i then valAt M l0_1 j else 0)) = (fun j => if j = i then qd else if j < i then valAt M l0_1 j else 0) := by
     funext j
     by_cases e : j = i
     · rw [if_pos e, if_pos e]
     rw [if_neg e, if_neg e, if_neg e]
    rw [e] at hV3
    exact ⟨⟨i + 1, by simp, by omega, ⟨by rw [HS.out]; exact blk_alloc hV3 _⟩, ⟨(hM1.out.setCell (a := ⟨g, i, none⟩) (by show B ≠ g; omega) _).alloc _⟩, ⟨below_alloc (hb1.out.setCell (p := ⟨g, i, none⟩) hg _) _⟩⟩, by simp [intOf]; omega⟩
end Go.Proofs.Ytcfpddgfhkaboaa.Rz
