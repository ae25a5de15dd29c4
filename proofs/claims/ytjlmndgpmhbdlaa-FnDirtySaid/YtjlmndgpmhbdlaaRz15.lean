-- printed by wip/pp/pp.py
import Derived.Test.YtjlmndgpmhbdlaaRz0
import Derived.Test.YtjlmndgpmhbdlaaRz1
import Derived.Test.YtjlmndgpmhbdlaaRz3
import Derived.Test.YtjlmndgpmhbdlaaRz14
import Derived.WalkKit
import Derived.OwnWalkIn
import Derived.TacticsInMore
import Derived.LoopNIn
import Derived.LoopIn
import Derived.IntWalk
import Derived.WalkArith
import Derived.Test.YtjlmndgpmhbdlaaWStep
import Derived.RangeFuncLeaves
import Derived.Test.YtjlmndgpmhbdlaaRz4
import Derived.RangeFuncNested
import Derived.RangeFuncBound
import Derived.RangeFuncCalls
import Derived.Shelf.Abstract
import Derived.Test.YtjlmndgpmhbdlaaRz11
import Derived.Test.YtjlmndgpmhbdlaaRz12
import Derived.Test.YtjlmndgpmhbdlaaWMap
import Derived.Maps.OwnOps
import Derived.Maps.Own
import Derived.Maps.OwnIn
namespace Go.Proofs.Ytjlmndgpmhbdlaa.Rz
open Go.RowKit Go.Proofs.YtjlmndgpmhbdlaaW.PrintWords Go.Proofs.YtjlmndgpmhbdlaaW.PrintLast Go.Proofs.YtjlmndgpmhbdlaaW.PrintMore
attribute [local go_sem] max2_int min2_int max_two min_two max_three min_three max_four min_four
set_option linter.unusedVariables false
set_option linter.unusedSimpArgs false
attribute [local go_sem] Oper.semAt_some
mutual
def spec_StoreOk.j0 : Nat → Bool → List (S62) → List Int → Option (Bool)
 | 0, _, _, _ => none
 | k + 1, x15, x230000, x230001 => if x15 = true then (some false) else (spec_StoreOk.l0 k 0 x230000 x230001)
def spec_StoreOk.l0 : Nat → Int → List (S62) → List Int → Option (Bool)
 | 0, _, _, _ => none
 | k + 1, x3, x230000, x230001 => if x3 < 6 then ((spec_l3Last.f k x230000 (wrap64 (x3 + 1))).bind fun bt231 => (if 0 ≤ x3 then (if x3 < (x230001.length : Int) then ((spec_l6In.f (rd x230001 x3) 0 9).bind fun t238 => (if t238 = true then (if bt231.2.2.2.2 = true then (if bt231.1 = 2 then (if bt231.2.2.2.1 = (rd x230001 x3) then (spec_StoreOk.l0 k (wrap64 (x3 + 1)) x230000 x230001) else (some false)) else (spec_StoreOk.l0 k (wrap64 (x3 + 1)) x230000 x230001)) else (spec_StoreOk.l0 k (wrap64 (x3 + 1)) x230000 x230001)) else (some false))) else (none)) else (none))) else (some true)
end
def spec_StoreOk.f (k : Nat) (l0_0 : List (S62)) (l0_1 : List Int) : Option (Bool) := (spec_FindOrder.f l0_0).bind fun t230 => (if t230 = true then (spec_StoreOk.j0 k ((l0_1.length : Int) != 6) l0_0 l0_1) else (spec_StoreOk.j0 k true l0_0 l0_1))
theorem spec_StoreOk.mono_l : ∀ k, (∀ y0 y1 y2, LeO (spec_StoreOk.j0 k y0 y1 y2) (spec_StoreOk.j0 (k + 1) y0 y1 y2)) ∧ (∀ y0 y1 y2, LeO (spec_StoreOk.l0 k y0 y1 y2) (spec_StoreOk.l0 (k + 1) y0 y1 y2))
 | 0 => ⟨fun _ _ _ r h => by simp [spec_StoreOk.j0] at h, fun _ _ _ r h => by simp [spec_StoreOk.l0] at h⟩
 | k + 1 => by
  obtain ⟨ih0, ih1⟩ := spec_StoreOk.mono_l k
  refine ⟨?_, ?_⟩
  · intro y0 y1 y2
    unfold spec_StoreOk.j0
    with_reducible repeat' first | exact ih0 _ _ _ | exact ih1 _ _ _ | exact spec_l3Last.mono _ _ _ | exact LeO.refl _ | exact LeO.none _ | refine LeO.ite ?_ ?_ | refine LeO.bind ?_ (fun _ => ?_)
  · intro y0 y1 y2
    unfold spec_StoreOk.l0
    with_reducible repeat' first | exact ih0 _ _ _ | exact ih1 _ _ _ | exact spec_l3Last.mono _ _ _ | exact LeO.refl _ | exact LeO.none _ | refine LeO.ite ?_ ?_ | refine LeO.bind ?_ (fun _ => ?_)
theorem spec_StoreOk.mono : ∀ a0 a1 k, LeO (spec_StoreOk.f k a0 a1) (spec_StoreOk.f (k + 1) a0 a1) := by
 intro a0 a1 k
 obtain ⟨ih0, ih1⟩ := spec_StoreOk.mono_l k
 unfold spec_StoreOk.f
 with_reducible repeat' first | exact ih0 _ _ _ | exact ih1 _ _ _ | exact spec_l3Last.mono _ _ _ | exact LeO.refl _ | exact LeO.none _ | refine LeO.ite ?_ ?_ | refine LeO.bind ?_ (fun _ => ?_)
def StS (w : World) (g : Nat) (A0 : Option Addr) (n0 c0 : Nat) (A1 : Option Addr) (c1 : Nat) (ad : Addr) (d : Int) (b : Nat) (q1 q2 q3 q4 : Int) (W : World) : Prop :=
 W.cell? ⟨b, 1, none⟩ = some (.slice A1 6 c1) ∧ W.cell? ⟨g, 0, none⟩ = some (.int .i64 q1) ∧ W.cell? ⟨g, 3, none⟩ = some (.int .i64 q4) ∧ W.cell? ad = some (.int .i64 d) ∧
 W.heap[b]? = some (.cells #[.slice A0 n0 c0, .slice A1 6 c1] 26 (0, 0)) ∧ W.heap[g]? = some (.cells #[.int .i64 q1, .int .i64 q2, .int .i64 q3, .int .i64 q4] 32 (0, 0)) ∧ Below w.heap.size w W
section
variable {w : World} {g : Nat} {A0 : Option Addr} {n0 c0 : Nat} {A1 : Option Addr} {c1 : Nat} {ad : Addr} {d : Int} {b : Nat} {q1 q2 q3 q4 : Int} {W W' : World}
theorem stStep (h : StS w g A0 n0 c0 A1 c1 ad d b q1 q2 q3 q4 W) (hb : Below W.heap.size W W') : StS w g A0 n0 c0 A1 c1 ad d b q1 q2 q3 q4 W' := by
 obtain ⟨_, _, _, h4, h5, h6, h7⟩ := h
 have h5 := blk_below h5 hb
 have h6 := blk_below h6 hb
 exact ⟨(blk_cell h5 1).trans rfl, (blk_cell h6 0).trans rfl, (blk_cell h6 3).trans rfl, up hb h4, h5, h6, below_then h7 h7.size hb⟩
theorem stC (h : StS w g A0 n0 c0 A1 c1 ad d b q1 q2 q3 q4 W) : W.cell? ⟨b, 1, none⟩ = some (.slice A1 6 c1) ∧ W.cell? ad = some (.int .i64 d) := ⟨h.1, h.2.2.2.1⟩
theorem stG (h : StS w g A0 n0 c0 A1 c1 ad d b q1 q2 q3 q4 W) : W.cell? ⟨g, 0, none⟩ = some (.int .i64 q1) ∧ W.cell? ⟨g, 3, none⟩ = some (.int .i64 q4) := ⟨h.2.1, h.2.2.1⟩
theorem stDrew (h : StS w g A0 n0 c0 A1 c1 ad d b q1 q2 q3 q4 W) : StS w g A0 n0 c0 A1 c1 ad d b q1 q2 q3 q4 W.drew := stStep h (below_drew (Below.refl _ _))
end
set_option maxRecDepth 100000 in
set_option maxHeartbeats 8000000 in
theorem spec_StoreOk.calls (k : Nat) (A0_0 : Option Addr) (c0_0 : Nat) (l0_0 : List (S62)) (A0_1 : Option Addr) (c0_1 : Nat) (l0_1 : List Int) (r : Bool) (w : World) (hr0_0 : Kd.C k62 w A0_0 l0_0.length l0_0) (hc0_0 : l0_0.length ≤ c0_0) (hr0_1 : Kd.C (Kd.int .i64) w A0_1 l0_1.length l0_1) (hc0_1 : l0_1.length ≤ c0_1) (h : spec_StoreOk.f k l0_0 l0_1 = some r) :
 Calls Try.prog 8 #[.agg #[.slice A0_0 l0_0.length c0_0, .slice A0_1 l0_1.length c0_1]] w fun e w' => e = .returned (.bool r) ∧ Below w.heap.size w w' := by
 refine (callsIn_wide (n := 3)).1 ?_
 have hu := Try.underlying26
 have hu2 := Try.underlying32
 have hbox := blk_new w (.cells #[.slice A0_0 l0_0.length c0_0, .slice A0_1 l0_1.length c0_1] 26)
 have hB1 := below_alloc (Below.refl _ w) (.cells #[.slice A0_0 l0_0.length c0_0, .slice A0_1 l0_1.length c0_1] 26)
 unfold spec_StoreOk.f at h
 obtain ⟨t, ht, h⟩ := Option.bind_eq_some_iff.1 h
 have hor := callsIn_wide (n := 2).2 (spec_FindOrder.calls A0_0 c0_0 l0_0 t _ (Kd.C_below hr0_0 hB1) hc0_0 ht)
 cases k with
 | zero => cases t <;> simp [spec_StoreOk.j0] at h
 | succ k =>
 cases t with
 | false =>
  rw [if_neg (by simp), spec_StoreOk.j0, if_pos rfl] at h
  obtain rfl := Option.some.inj h
  clear h ht
  refine callsIn_of_wp Try.func8 rfl trivial ?_ rfl
  simp only [Try.ntmps8, List.size_toArray, List.length_cons, List.length_nil, Nat.reduceAdd, Nat.reduceSub, Array.replicate_succ, Array.replicate_zero, List.push_toArray, List.append_toArray, List.nil_append, List.cons_append]
  gi_wp2_with (first | (refine ⟨trivial, ?_⟩; gi_at_call 17; refine hor.mono ?_; rintro e w1 ⟨rfl, hb⟩; have hB2 := below_then hB1 hB1.size hb))
  go_ret
  exact ⟨rfl, hB2⟩
 | true =>
 rw [if_pos rfl, spec_StoreOk.j0] at h
 by_cases c6 : (l0_1.length : Int) = 6
 rotate_left
 · have c6b : ((l0_1.length : Int) != 6) = true := by simp [c6]
   rw [c6b, if_pos rfl] at h
   obtain rfl := Option.some.inj h
   clear h ht c6
   refine callsIn_of_wp Try.func8 rfl trivial ?_ rfl
   simp only [Try.ntmps8, List.size_toArray, List.length_cons, List.length_nil, Nat.reduceAdd, Nat.reduceSub, Array.replicate_succ, Array.replicate_zero, List.push_toArray, List.append_toArray, List.nil_append, List.cons_append]
   gi_wp2_with (first | (refine ⟨trivial, ?_⟩; gi_at_call 17; refine hor.mono ?_; rintro e w1 ⟨rfl, hb⟩; have hbx := blk_below hbox hb; have hB2 := below_then hB1 hB1.size hb; have hq1 : w1.cell? ⟨w.heap.size, 1, none⟩ = some (.slice A0_1 l0_1.length c0_1) := (blk_cell hbx 1).trans rfl))
   go_ret
   exact ⟨rfl, hB2⟩
 · have c6b : ((l0_1.length : Int) != 6) = false := by simp [c6]
   rw [c6b, if_neg (by simp)] at h
   have H := am h
   have hl : l0_1.length = 6 := by omega
   clear h ht c6 c6b
   rw [hl] at hbox hB1 hor ⊢
   have hl3 : ∀ (W : World) (kk : Nat) (a q1 q2 q3 q4 : Int) (q5 : Bool), Below w.heap.size w W → spec_l3Last.f kk l0_0 a = some (q1, q2, q3, q4, q5) → CallsIn Fence.wide 2 Try.prog 18 #[.slice A0_0 l0_0.length c0_0, .int .i64 a] W fun e w' => e = .returned (.tuple #[.agg #[.int .i64 q1, .int .i64 q2, .int .i64 q3, .int .i64 q4], .bool q5]) ∧ Below W.heap.size W w' := fun W kk a q1 q2 q3 q4 q5 hb hq => callsIn_wide.2 (spec_l3Last.calls kk A0_0 c0_0 l0_0 a q1 q2 q3 q4 q5 W (Kd.C_below hr0_0 hb) hc0_0 hq)
   refine callsIn_of_wp Try.func8 rfl trivial ?_ rfl
   simp only [Try.ntmps8, List.size_toArray, List.length_cons, List.length_nil, Nat.reduceAdd, Nat.reduceSub, Array.replicate_succ, Array.replicate_zero, List.push_toArray, List.append_toArray, List.nil_append, List.cons_append]
   gi_wp2_with (first | (refine ⟨trivial, ?_⟩; gi_at_call 17; refine hor.mono ?_; rintro e w1 ⟨rfl, hb⟩; have hbx := blk_below hbox hb; have hB2 := below_then hB1 hB1.size hb; have hq1 : w1.cell? ⟨w.heap.size, 1, none⟩ = some (.slice A0_1 6 c0_1) := (blk_cell hbx 1).trans rfl))
   clear hor hq1 hbox hB1 hb
   gi_loopw [3] (fun v3 wr => ∃ (i kq : Nat), v3 = .int .i64 (i : Int) ∧ i ≤ 6 ∧ Aside0 (spec_StoreOk.l0 kq (i : Int) l0_0 l0_1 = some r) ∧ Aside0 (wr.heap[w.heap.size]? = some (.cells #[.slice A0_0 l0_0.length c0_0, .slice A0_1 6 c0_1] 26 (0, 0))) ∧ Aside0 (Below w.heap.size w wr)) (fun v3 _ => 6 - (intOf v3).toNat)
   case atStart => exact ⟨0, k, rfl, by omega, H, ⟨hbx⟩, ⟨hB2⟩⟩
   case round =>
    clear H hbx hB2
    obtain ⟨i, kq, rfl, hi, HA, hX, hB⟩ := hrel
    cases kq with
    | zero => exact absurd HA.out (by simp [spec_StoreOk.l0])
    | succ k1 =>
    have h := HA.out
    clear HA
    rw [spec_StoreOk.l0] at h
    by_cases ci : i < 6
    rotate_left
    · obtain rfl : i = 6 := by omega
      rw [if_neg (by omega)] at h
      obtain rfl := Option.some.inj h
      clear h
      gi_wp2
      go_ret
      exact ⟨rfl, hB.out⟩
    · have cib : decide ((i : Int) < 6) = true := decide_eq_true (by omega)
      have p1 : 0 ≤ (i : Int) := by omega
      have q1_ : (i : Int) < 6 := by omega
      rw [if_pos (by omega), IntWalk.wrap64_in _ (by omega)] at h
      obtain ⟨⟨q1, q2, q3, q4, q5⟩, hq, h⟩ := Option.bind_eq_some_iff.1 h
      dsimp only at h
      rw [if_pos (by omega), if_pos (by omega)] at h
      obtain ⟨b6, hb6, h⟩ := Option.bind_eq_some_iff.1 h
      obtain ⟨ad1, e1, hx1⟩ := Kd.at_int hr0_1 (i : Int) p1 (by omega)
      cases e1
      simp only [Int.toNat_natCast] at hx1
      generalize rd l0_1 (i : Int) = d at hx1 h hb6
      have HX1 := am hx1
      have h6 : ∀ W, Calls Try.prog 19 #[.int .i64 d, .int .i64 0, .int .i64 9] W fun e w' => e = .returned (.bool b6) ∧ Below W.heap.size W w' := fun W => (spec_l6In.calls d 0 9 b6 W hb6).mono fun e w' h => ⟨h.1, h.2.below⟩
      have hc3 := fun W hb => hl3 W k1 _ q1 q2 q3 q4 q5 hb hq
      have HC3 := am hc3
      have HN := fun (hn : spec_StoreOk.l0 k1 ((i : Int) + 1) l0_0 l0_1 = some r) => (show spec_StoreOk.l0 k1 ((i + 1 : Nat) : Int) l0_0 l0_1 = some r from by rw [show ((i + 1 : Nat) : Int) = (i : Int) + 1 by omega]; exact hn)
      have H := am h
      have HNN := am HN
      have hcx0 : wr.cell? ⟨w.heap.size, 0, none⟩ = some (.slice A0_0 l0_0.length c0_0) := (blk_cell hX.out 0).trans rfl
      clear h hq hb6 hx1 hc3 HN hl3
      gi_wp2_with (first | (refine ⟨trivial, ?_⟩; gi_at_call 18; refine (HC3.out _ hB.out).mono ?_; rintro e w4 ⟨rfl, hb⟩; have hX4 := am (blk_below hX.out hb); have hB4 := am (below_then hB.out hB.out.size hb); have HX4 := am (up hB4.out HX1.out); clear hb hcx0))
      have hg : (w4.alloc (.cells #[.int .i64 q1, .int .i64 q2, .int .i64 q3, .int .i64 q4] 32)).heap[w4.heap.size]? = some (.cells #[.int .i64 q1, .int .i64 q2, .int .i64 q3, .int .i64 q4] 32 (0, 0)) := blk_new w4 _
      have hX5 := blk_alloc hX4.out (.cells #[.int .i64 q1, .int .i64 q2, .int .i64 q3, .int .i64 q4] 32)
      have hSt : StS w w4.heap.size A0_0 l0_0.length c0_0 (some ad1) c0_1 (ad1.add i) d w.heap.size q1 q2 q3 q4 (w4.alloc (.cells #[.int .i64 q1, .int .i64 q2, .int .i64 q3, .int .i64 q4] 32)) := ⟨(blk_cell hX5 1).trans rfl, (blk_cell hg 0).trans rfl, (blk_cell hg 3).trans rfl, up (below_alloc (Below.refl _ _) _) HX4.out, hX5, hg, below_alloc hB4.out _⟩
      have h := H.out
      clear H hX hB HC3 HX1 hg hX5 hX4 hB4 HX4
      cases b6 with
      | false =>
       rw [if_neg (by simp)] at h
       obtain rfl := Option.some.inj h
       clear h HNN
       refine wpIn_wide.2 ?_
       refine start_ (n := 25) (S := StS w w4.heap.size A0_0 l0_0.length c0_0 (some ad1) c0_1 (ad1.add i) d w.heap.size q1 q2 q3 q4) (ds := []) (bt_ 25 0) (by kernel_rfl) rfl rfl (stDrew hSt) ?_
       intro hSt
       refine pi_ 0 28 (bt_ 25 1) rfl rfl (fun _ _ _ h => h) ?_
       refine pl_ 1 29 (bt_ 25 3) rfl rfl (fun _ _ _ h => h) hSt (fun _ h => stC h) ?_
       refine pi_ 2 30 (bt_ 25 7) rfl rfl (fun _ _ _ h => h) ?_
       refine pi_ 3 31 (bt_ 25 15) rfl rfl (fun _ _ _ h => h) ?_
       refine pl_ 4 32 (bt_ 25 31) rfl rfl (fun _ _ _ h => h) hSt (fun _ h => stC h) ?_
       refine pk_ 5 33 (bt_ 25 63) rfl rfl Try.func19 #[.int .i64 d, .int .i64 0, .int .i64 9] rfl (h6 _) (fun _ h => stStep hSt h) ?_; intro w5 hSt
       refine pi_ 6 34 (bt_ 25 127) rfl rfl (fun _ _ _ h => h) ?_
       refine pi_ 7 35 (bt_ 25 255) rfl rfl (fun _ _ _ h => h) ?_
       refine pu_ 8 36 (bt_ 25 511) rfl rfl (fun _ _ _ h => h) ?_
       refine pu_ 9 37 (bt_ 25 1023) rfl rfl (fun _ _ _ h => h) ?_
       refine pu_ 10 38 (bt_ 25 2047) rfl rfl (fun _ _ _ h => h) ?_
       refine pu_ 11 39 (bt_ 25 4095) rfl rfl (fun _ _ _ h => h) ?_
       refine pu_ 12 40 (bt_ 25 8191) rfl rfl (fun _ _ _ h => h) ?_
       refine pu_ 13 41 (bt_ 25 16383) rfl rfl (fun _ _ _ h => h) ?_
       refine pu_ 14 42 (bt_ 25 32767) rfl rfl (fun _ _ _ h => h) ?_
       refine pu_ 15 43 (bt_ 25 65535) rfl rfl (fun _ _ _ h => h) ?_
       refine pu_ 16 44 (bt_ 25 131071) rfl rfl (fun _ _ _ h => h) ?_
       refine pu_ 17 45 (bt_ 25 262143) rfl rfl (fun _ _ _ h => h) ?_
       refine pu_ 18 46 (bt_ 25 524287) rfl rfl (fun _ _ _ h => h) ?_
       refine pu_ 19 47 (bt_ 25 1048575) rfl rfl (fun _ _ _ h => h) ?_
       refine pu_ 20 48 (bt_ 25 2097151) rfl rfl (fun _ _ _ h => h) ?_
       refine pu_ 21 49 (bt_ 25 4194303) rfl rfl (fun _ _ _ h => h) ?_
       refine pu_ 22 50 (bt_ 25 8388607) rfl rfl (fun _ _ _ h => h) ?_
       refine pu_ 23 51 (bt_ 25 16777215) rfl rfl (fun _ _ _ h => h) ?_
       refine pi_ 24 52 (bt_ 25 33554431) rfl rfl (fun _ _ _ h => h) ?_
       refine done_ (by kernel_rfl) ?_
       obtain ⟨_, _, _, _, _, _, hB⟩ := hSt
       gi_wp2
       go_ret
       exact ⟨rfl, hB⟩
      | true =>
       rw [if_pos rfl] at h
       cases q5 with
       | false =>
        rw [if_neg (by simp)] at h
        have HN := am (HNN.out h)
        clear h HNN
        refine wpIn_wide.2 ?_
        refine start_ (n := 25) (S := StS w w4.heap.size A0_0 l0_0.length c0_0 (some ad1) c0_1 (ad1.add i) d w.heap.size q1 q2 q3 q4) (ds := []) (bt_ 25 0) (by kernel_rfl) rfl rfl (stDrew hSt) ?_
        intro hSt
        refine pi_ 0 28 (bt_ 25 1) rfl rfl (fun _ _ _ h => h) ?_
        refine pl_ 1 29 (bt_ 25 3) rfl rfl (fun _ _ _ h => h) hSt (fun _ h => stC h) ?_
        refine pi_ 2 30 (bt_ 25 7) rfl rfl (fun _ _ _ h => h) ?_
        refine pi_ 3 31 (bt_ 25 15) rfl rfl (fun _ _ _ h => h) ?_
        refine pl_ 4 32 (bt_ 25 31) rfl rfl (fun _ _ _ h => h) hSt (fun _ h => stC h) ?_
        refine pk_ 5 33 (bt_ 25 63) rfl rfl Try.func19 #[.int .i64 d, .int .i64 0, .int .i64 9] rfl (h6 _) (fun _ h => stStep hSt h) ?_; intro w5 hSt
        refine pi_ 6 34 (bt_ 25 127) rfl rfl (fun _ _ _ h => h) ?_
        refine pi_ 7 35 (bt_ 25 255) rfl rfl (fun _ _ _ h => h) ?_
        refine pi_ 8 36 (bt_ 25 511) rfl rfl (fun _ _ _ h => h) ?_
        refine pi_ 9 37 (bt_ 25 1023) rfl rfl (fun _ _ _ h => h) ?_
        refine pu_ 10 38 (bt_ 25 2047) rfl rfl (fun _ _ _ h => h) ?_
        refine pu_ 11 39 (bt_ 25 4095) rfl rfl (fun _ _ _ h => h) ?_
        refine pu_ 12 40 (bt_ 25 8191) rfl rfl (fun _ _ _ h => h) ?_
        refine pi_ 13 41 (bt_ 25 16383) rfl rfl (fun _ _ _ h => h) ?_
        refine pi_ 14 42 (bt_ 25 32767) rfl rfl (fun _ _ _ h => h) ?_
        refine pu_ 15 43 (bt_ 25 65535) rfl rfl (fun _ _ _ h => h) ?_
        refine pu_ 16 44 (bt_ 25 131071) rfl rfl (fun _ _ _ h => h) ?_
        refine pu_ 17 45 (bt_ 25 262143) rfl rfl (fun _ _ _ h => h) ?_
        refine pu_ 18 46 (bt_ 25 524287) rfl rfl (fun _ _ _ h => h) ?_
        refine pu_ 19 47 (bt_ 25 1048575) rfl rfl (fun _ _ _ h => h) ?_
        refine pu_ 20 48 (bt_ 25 2097151) rfl rfl (fun _ _ _ h => h) ?_
        refine pu_ 21 49 (bt_ 25 4194303) rfl rfl (fun _ _ _ h => h) ?_
        refine pu_ 22 50 (bt_ 25 8388607) rfl rfl (fun _ _ _ h => h) ?_
        refine pi_ 23 51 (bt_ 25 16777215) rfl rfl (fun _ _ _ h => h) ?_
        refine pi_ 24 52 (bt_ 25 33554431) rfl rfl (fun _ _ _ h => h) ?_
        refine done_ (by kernel_rfl) ?_
        obtain ⟨_, _, _, _, hX, _, hB⟩ := hSt
        gi_wp2
        exact ⟨⟨i + 1, k1, by simp, by omega, HN, ⟨hX⟩, ⟨hB⟩⟩, by simp [intOf]; omega⟩
       | true =>
        rw [if_pos rfl] at h
        by_cases k2 : q1 = 2
        rotate_left
        · have k2b : (q1 == 2) = false := by simp [k2]
          rw [if_neg k2] at h
          have HN := am (HNN.out h)
          clear h HNN k2
          refine wpIn_wide.2 ?_
          refine start_ (n := 25) (S := StS w w4.heap.size A0_0 l0_0.length c0_0 (some ad1) c0_1 (ad1.add i) d w.heap.size q1 q2 q3 q4) (ds := []) (bt_ 25 0) (by kernel_rfl) rfl rfl (stDrew hSt) ?_
          intro hSt
          refine pi_ 0 28 (bt_ 25 1) rfl rfl (fun _ _ _ h => h) ?_
          refine pl_ 1 29 (bt_ 25 3) rfl rfl (fun _ _ _ h => h) hSt (fun _ h => stC h) ?_
          refine pi_ 2 30 (bt_ 25 7) rfl rfl (fun _ _ _ h => h) ?_
          refine pi_ 3 31 (bt_ 25 15) rfl rfl (fun _ _ _ h => h) ?_
          refine pl_ 4 32 (bt_ 25 31) rfl rfl (fun _ _ _ h => h) hSt (fun _ h => stC h) ?_
          refine pk_ 5 33 (bt_ 25 63) rfl rfl Try.func19 #[.int .i64 d, .int .i64 0, .int .i64 9] rfl (h6 _) (fun _ h => stStep hSt h) ?_; intro w5 hSt
          refine pi_ 6 34 (bt_ 25 127) rfl rfl (fun _ _ _ h => h) ?_
          refine pi_ 7 35 (bt_ 25 255) rfl rfl (fun _ _ _ h => h) ?_
          refine pi_ 8 36 (bt_ 25 511) rfl rfl (fun _ _ _ h => h) ?_
          refine pi_ 9 37 (bt_ 25 1023) rfl rfl (fun _ _ _ h => h) ?_
          refine pi_ 10 38 (bt_ 25 2047) rfl rfl (fun _ _ _ h => h) ?_
          refine pl_ 11 39 (bt_ 25 4095) rfl rfl (fun _ _ _ h => h) hSt (fun _ h => stG h) ?_
          refine pi_ 12 40 (bt_ 25 8191) rfl rfl (fun _ _ _ h => h) ?_
          refine pi_ 13 41 (bt_ 25 16383) rfl rfl (fun _ _ _ h => h) ?_
          refine pi_ 14 42 (bt_ 25 32767) rfl rfl (fun _ _ _ h => h) ?_
          refine pu_ 15 43 (bt_ 25 65535) rfl rfl (fun _ _ _ h => h) ?_
          refine pu_ 16 44 (bt_ 25 131071) rfl rfl (fun _ _ _ h => h) ?_
          refine pu_ 17 45 (bt_ 25 262143) rfl rfl (fun _ _ _ h => h) ?_
          refine pu_ 18 46 (bt_ 25 524287) rfl rfl (fun _ _ _ h => h) ?_
          refine pu_ 19 47 (bt_ 25 1048575) rfl rfl (fun _ _ _ h => h) ?_
          refine pu_ 20 48 (bt_ 25 2097151) rfl rfl (fun _ _ _ h => h) ?_
          refine pu_ 21 49 (bt_ 25 4194303) rfl rfl (fun _ _ _ h => h) ?_
          refine pu_ 22 50 (bt_ 25 8388607) rfl rfl (fun _ _ _ h => h) ?_
          refine pi_ 23 51 (bt_ 25 16777215) rfl rfl (fun _ _ _ h => h) ?_
          refine pi_ 24 52 (bt_ 25 33554431) rfl rfl (fun _ _ _ h => h) ?_
          refine done_ (by kernel_rfl) ?_
          obtain ⟨_, _, _, _, hX, _, hB⟩ := hSt
          gi_wp2
          exact ⟨⟨i + 1, k1, by simp, by omega, HN, ⟨hX⟩, ⟨hB⟩⟩, by simp [intOf]; omega⟩
        · subst k2
          rw [if_pos rfl] at h
          by_cases k3 : q4 = d
          rotate_left
          · have k3b : (q4 != d) = true := by simp [k3]
            rw [if_neg k3] at h
            obtain rfl := Option.some.inj h
            clear h HNN k3
            refine wpIn_wide.2 ?_
            refine start_ (n := 25) (S := StS w w4.heap.size A0_0 l0_0.length c0_0 (some ad1) c0_1 (ad1.add i) d w.heap.size 2 q2 q3 q4) (ds := []) (bt_ 25 0) (by kernel_rfl) rfl rfl (stDrew hSt) ?_
            intro hSt
            refine pi_ 0 28 (bt_ 25 1) rfl rfl (fun _ _ _ h => h) ?_
            refine pl_ 1 29 (bt_ 25 3) rfl rfl (fun _ _ _ h => h) hSt (fun _ h => stC h) ?_
            refine pi_ 2 30 (bt_ 25 7) rfl rfl (fun _ _ _ h => h) ?_
            refine pi_ 3 31 (bt_ 25 15) rfl rfl (fun _ _ _ h => h) ?_
            refine pl_ 4 32 (bt_ 25 31) rfl rfl (fun _ _ _ h => h) hSt (fun _ h => stC h) ?_
            refine pk_ 5 33 (bt_ 25 63) rfl rfl Try.func19 #[.int .i64 d, .int .i64 0, .int .i64 9] rfl (h6 _) (fun _ h => stStep hSt h) ?_; intro w5 hSt
            refine pi_ 6 34 (bt_ 25 127) rfl rfl (fun _ _ _ h => h) ?_
            refine pi_ 7 35 (bt_ 25 255) rfl rfl (fun _ _ _ h => h) ?_
            refine pi_ 8 36 (bt_ 25 511) rfl rfl (fun _ _ _ h => h) ?_
            refine pi_ 9 37 (bt_ 25 1023) rfl rfl (fun _ _ _ h => h) ?_
            refine pi_ 10 38 (bt_ 25 2047) rfl rfl (fun _ _ _ h => h) ?_
            refine pl_ 11 39 (bt_ 25 4095) rfl rfl (fun _ _ _ h => h) hSt (fun _ h => stG h) ?_
            refine pi_ 12 40 (bt_ 25 8191) rfl rfl (fun _ _ _ h => h) ?_
            refine pi_ 13 41 (bt_ 25 16383) rfl rfl (fun _ _ _ h => h) ?_
            refine pi_ 14 42 (bt_ 25 32767) rfl rfl (fun _ _ _ h => h) ?_
            refine pi_ 15 43 (bt_ 25 65535) rfl rfl (fun _ _ _ h => h) ?_
            refine pl_ 16 44 (bt_ 25 131071) rfl rfl (fun _ _ _ h => h) hSt (fun _ h => stG h) ?_
            refine pi_ 17 45 (bt_ 25 262143) rfl rfl (fun _ _ _ h => h) ?_
            refine pl_ 18 46 (bt_ 25 524287) rfl rfl (fun _ _ _ h => h) hSt (fun _ h => stC h) ?_
            refine pi_ 19 47 (bt_ 25 1048575) rfl rfl (fun _ _ _ h => h) ?_
            refine pi_ 20 48 (bt_ 25 2097151) rfl rfl (fun _ _ _ h => h) ?_
            refine pl_ 21 49 (bt_ 25 4194303) rfl rfl (fun _ _ _ h => h) hSt (fun _ h => stC h) ?_
            refine pi_ 22 50 (bt_ 25 8388607) rfl rfl (fun _ _ _ h => h) ?_
            refine pi_ 23 51 (bt_ 25 16777215) rfl rfl (fun _ _ _ h => h) ?_
            refine pi_ 24 52 (bt_ 25 33554431) rfl rfl (fun _ _ _ h => h) ?_
            refine done_ (by kernel_rfl) ?_
            obtain ⟨_, _, _, _, _, _, hB⟩ := hSt
            gi_wp2
            go_ret
            exact ⟨rfl, hB⟩
          have k3b : (q4 != d) = false := by simp [k3]
          rw [if_pos k3] at h
          have HN := am (HNN.out h)
          clear h HNN k3
          refine wpIn_wide.2 ?_
          refine start_ (n := 25) (S := StS w w4.heap.size A0_0 l0_0.length c0_0 (some ad1) c0_1 (ad1.add i) d w.heap.size 2 q2 q3 q4) (ds := []) (bt_ 25 0) (by kernel_rfl) rfl rfl (stDrew hSt) ?_
          intro hSt
          refine pi_ 0 28 (bt_ 25 1) rfl rfl (fun _ _ _ h => h) ?_
          refine pl_ 1 29 (bt_ 25 3) rfl rfl (fun _ _ _ h => h) hSt (fun _ h => stC h) ?_
          refine pi_ 2 30 (bt_ 25 7) rfl rfl (fun _ _ _ h => h) ?_
          refine pi_ 3 31 (bt_ 25 15) rfl rfl (fun _ _ _ h => h) ?_
          refine pl_ 4 32 (bt_ 25 31) rfl rfl (fun _ _ _ h => h) hSt (fun _ h => stC h) ?_
          refine pk_ 5 33 (bt_ 25 63) rfl rfl Try.func19 #[.int .i64 d, .int .i64 0, .int .i64 9] rfl (h6 _) (fun _ h => stStep hSt h) ?_; intro w5 hSt
          refine pi_ 6 34 (bt_ 25 127) rfl rfl (fun _ _ _ h => h) ?_
          refine pi_ 7 35 (bt_ 25 255) rfl rfl (fun _ _ _ h => h) ?_
          refine pi_ 8 36 (bt_ 25 511) rfl rfl (fun _ _ _ h => h) ?_
          refine pi_ 9 37 (bt_ 25 1023) rfl rfl (fun _ _ _ h => h) ?_
          refine pi_ 10 38 (bt_ 25 2047) rfl rfl (fun _ _ _ h => h) ?_
          refine pl_ 11 39 (bt_ 25 4095) rfl rfl (fun _ _ _ h => h) hSt (fun _ h => stG h) ?_
          refine pi_ 12 40 (bt_ 25 8191) rfl rfl (fun _ _ _ h => h) ?_
          refine pi_ 13 41 (bt_ 25 16383) rfl rfl (fun _ _ _ h => h) ?_
          refine pi_ 14 42 (bt_ 25 32767) rfl rfl (fun _ _ _ h => h) ?_
          refine pi_ 15 43 (bt_ 25 65535) rfl rfl (fun _ _ _ h => h) ?_
          refine pl_ 16 44 (bt_ 25 131071) rfl rfl (fun _ _ _ h => h) hSt (fun _ h => stG h) ?_
          refine pi_ 17 45 (bt_ 25 262143) rfl rfl (fun _ _ _ h => h) ?_
          refine pl_ 18 46 (bt_ 25 524287) rfl rfl (fun _ _ _ h => h) hSt (fun _ h => stC h) ?_
          refine pi_ 19 47 (bt_ 25 1048575) rfl rfl (fun _ _ _ h => h) ?_
          refine pi_ 20 48 (bt_ 25 2097151) rfl rfl (fun _ _ _ h => h) ?_
          refine pl_ 21 49 (bt_ 25 4194303) rfl rfl (fun _ _ _ h => h) hSt (fun _ h => stC h) ?_
          refine pi_ 22 50 (bt_ 25 8388607) rfl rfl (fun _ _ _ h => h) ?_
          refine pi_ 23 51 (bt_ 25 16777215) rfl rfl (fun _ _ _ h => h) ?_
          refine pi_ 24 52 (bt_ 25 33554431) rfl rfl (fun _ _ _ h => h) ?_
          refine done_ (by kernel_rfl) ?_
          obtain ⟨_, _, _, _, hX, _, hB⟩ := hSt
          gi_wp2
          exact ⟨⟨i + 1, k1, by simp, by omega, HN, ⟨hX⟩, ⟨hB⟩⟩, by simp [intOf]; omega⟩
def spec_StoreDirty.l0 : Nat → List Int → Int → List (S62) → List Int → Option (List Int)
 | 0, _, _, _, _ => none
 | k + 1, x3, x4, x414000, x414001 => if x4 ≤ 6 then ((spec_l11Dirty.f k x414000 x414001 x4).bind fun t418 => (if t418 = true then (if x3.length < 17592186044416 then (spec_StoreDirty.l0 k (x3 ++ [x4]) (wrap64 (x4 + 1)) x414000 x414001) else (none)) else (spec_StoreDirty.l0 k x3 (wrap64 (x4 + 1)) x414000 x414001))) else (some x3)
def spec_StoreDirty.f (k : Nat) (l0_0 : List (S62)) (l0_1 : List Int) : Option (List Int) := (some (([] : List Int) : List Int)).bind fun y414 => ((spec_StoreOk.f k l0_0 l0_1).bind fun t417 => (if t417 = true then (spec_StoreDirty.l0 k y414 1 l0_0 l0_1) else (some y414)))
theorem spec_StoreDirty.mono_l : ∀ k, (∀ y0 y1 y2 y3, LeO (spec_StoreDirty.l0 k y0 y1 y2 y3) (spec_StoreDirty.l0 (k + 1) y0 y1 y2 y3))
 | 0 => fun _ _ _ _ r h => by simp [spec_StoreDirty.l0] at h
 | k + 1 => by
  have ih0 := spec_StoreDirty.mono_l k
  · intro y0 y1 y2 y3
    unfold spec_StoreDirty.l0
    with_reducible repeat' first | exact ih0 _ _ _ _ | exact spec_StoreOk.mono _ _ _ | exact spec_l11Dirty.mono _ _ _ _ | exact LeO.refl _ | exact LeO.none _ | refine LeO.ite ?_ ?_ | refine LeO.bind ?_ (fun _ => ?_)
theorem spec_StoreDirty.mono : ∀ a0 a1 k, LeO (spec_StoreDirty.f k a0 a1) (spec_StoreDirty.f (k + 1) a0 a1) := by
 intro a0 a1 k
 have ih0 := spec_StoreDirty.mono_l k
 unfold spec_StoreDirty.f
 with_reducible repeat' first | exact ih0 _ _ _ _ | exact spec_StoreOk.mono _ _ _ | exact spec_l11Dirty.mono _ _ _ _ | exact LeO.refl _ | exact LeO.none _ | refine LeO.ite ?_ ?_ | refine LeO.bind ?_ (fun _ => ?_)
set_option maxHeartbeats 8000000 in
set_option maxRecDepth 100000 in
theorem spec_StoreDirty.calls (k : Nat) (A0_0 : Option Addr) (c0_0 : Nat) (l0_0 : List (S62)) (A0_1 : Option Addr) (c0_1 : Nat) (l0_1 : List Int) (r : List Int) (w : World) (hr0_0 : Kd.C k62 w A0_0 l0_0.length l0_0) (hc0_0 : l0_0.length ≤ c0_0) (hr0_1 : Kd.C (Kd.int .i64) w A0_1 l0_1.length l0_1) (hc0_1 : l0_1.length ≤ c0_1) (h : spec_StoreDirty.f k l0_0 l0_1 = some r) :
 Calls Try.prog 7 #[.agg #[.slice A0_0 l0_0.length c0_0, .slice A0_1 l0_1.length c0_1]] w fun e w' => ∃ v0_ : Value, e = .returned (v0_) ∧ Kd.R (Kd.int .i64) 3 w' w.heap.size (fun _ => True) v0_ r ∧ Below w.heap.size w w' := by
 have hu26 := Try.underlying26
 have HR0_0 := am hr0_0
 have HC0_0 := am hc0_0
 clear hr0_0 hc0_0
 have HR0_1 := am hr0_1
 have HC0_1 := am hc0_1
 clear hr0_1 hc0_1
 have HB := am (Below.refl w.heap.size w)
 have H : ((some (([] : List Int) : List Int)).bind fun y414 => ((spec_StoreOk.f k l0_0 l0_1).bind fun t417 => (if t417 = true then (spec_StoreDirty.l0 k y414 1 l0_0 l0_1) else (some y414)))) = some r := h
 clear h
 obtain ⟨y414, hy414⟩ : ∃ y_ : List Int, y_ = (([] : List Int)) := ⟨_, rfl⟩
 replace H : ((spec_StoreOk.f k l0_0 l0_1).bind fun t417 => (if t417 = true then (spec_StoreDirty.l0 k y414 1 l0_0 l0_1) else (some y414))) = some r := by first | (rw [hy414]; with_reducible exact H) | (have H2_ := (Option.bind_some _ _).symm.trans H; rw [hy414]; with_reducible exact H2_) | (have H2_ := (Option.bind_some _ _).symm.trans H; with_reducible exact H2_) | with_reducible exact H | (rw [hy414]; exact H) | exact H
 have Ny414 := am hy414
 clear hy414
 replace H := Option.bind_eq_some_iff.mp H
 obtain ⟨t417, A20, H⟩ := H
 have A2 := am A20
 clear A20
 by_cases c3 : t417 = true
 rotate_left
 · replace c3 := Bool.eq_false_iff.mpr c3
   subst c3
   rw [if_neg (show ¬ (false = true) by decide)] at H
   obtain rfl := Option.some.inj H
   go_enter Try.func7, Try.ntmps7
   go_wp2_with (first | (refine bx 1 #[.slice A0_0 l0_0.length c0_0, .slice A0_1 l0_1.length c0_1] 26 rfl ?_; intro gb413 hg w18 hbox hb; have BK413 := am (hbox); have GW413 := am (ge hg (ph HB.out)); have GE413 := GW413; replace HB := am (below_step (ph HB.out) hb); clear hb hbox hg) | ((with_reducible refine gate_dst (N := 5) rfl ?_); refine Kd.R_lit (Kd.int .i64) _ 3 ?hg (N := 5) ?hd (xs := ([] : List Int)) (inner := []) (ok := fun _ => True) (okp := fun _ => True) ?hr ?hp (fun _ hk => hk) trivial (Below.refl _ _) (Nat.le_refl _) (by simp) ?_; (case hd => rfl); (case hg => rfl); (case hr => first | (go_simp; done) | (go_simp; rfl)); (case hp => exact (Reps.none _ _)); intro v415 w19 ho20 hb hg_ hnew_; clear hg_ hnew_; (first | rw [← Ny414.out] at ho20 | (simp only [Int.reduceToNat] at ho20; rw [← Ny414.out] at ho20)); have HO416 := am (Kd.R_lower ho20 (below_size (bg1 HB.out GE413.out))); replace BK413 := am (blk_below (pb BK413.out) hb); replace HB := am (below_step (bg1 HB.out GE413.out) hb); clear hb ho20; obtain ⟨hcz21_0, hcz21_1⟩ := b2 BK413.out; obtain ⟨hfz21_0, hfz21_1⟩ := f2 BK413.out) | (refine gl 7 Try.func8 #[.agg #[.slice A0_0 l0_0.length c0_0, .slice A0_1 l0_1.length c0_1]] rfl ?_; (with_reducible refine (spec_StoreOk.calls k _ _ l0_0 _ _ l0_1 false _ ?side1 ?side2 ?side3 ?side4 A2.out).mono ?_); (case side1 => exact pc (Kd.C_below HR0_0.out HB.out)); (case side2 => exact HC0_0.out); (case side3 => exact pc (Kd.C_below HR0_1.out HB.out)); (case side4 => exact HC0_1.out); rintro e w22 ⟨rfl, hb⟩; refine ⟨_, rfl, ?_⟩; replace HO416 := am (Kd.R_below (pr HO416.out) hb); replace BK413 := am (blk_below (pb BK413.out) hb); replace HB := am (below_step (bg1 HB.out GE413.out) hb); (try clear hb); (try clear hb2); (try clear hk); (try clear hi)))
   go_ret
   exact ⟨_, rq ⟨pr HO416.out, bg1 HB.out GE413.out⟩⟩
 subst c3
 rw [if_pos rfl] at H
 have H' := am H
 clear H
 go_enter Try.func7, Try.ntmps7
 go_wp2_with (first | (refine bx 1 #[.slice A0_0 l0_0.length c0_0, .slice A0_1 l0_1.length c0_1] 26 rfl ?_; intro gb413 hg w4 hbox hb; have BK413 := am (hbox); have GW413 := am (ge hg (ph HB.out)); have GE413 := GW413; replace HB := am (below_step (ph HB.out) hb); clear hb hbox hg) | ((with_reducible refine gate_dst (N := 5) rfl ?_); refine Kd.R_lit (Kd.int .i64) _ 3 ?hg (N := 5) ?hd (xs := ([] : List Int)) (inner := []) (ok := fun _ => True) (okp := fun _ => True) ?hr ?hp (fun _ hk => hk) trivial (Below.refl _ _) (Nat.le_refl _) (by simp) ?_; (case hd => rfl); (case hg => rfl); (case hr => first | (go_simp; done) | (go_simp; rfl)); (case hp => exact (Reps.none _ _)); intro v415 w5 ho6 hb hg_ hnew_; clear hg_ hnew_; (first | rw [← Ny414.out] at ho6 | (simp only [Int.reduceToNat] at ho6; rw [← Ny414.out] at ho6)); have HO416 := am (Kd.R_lower ho6 (below_size (bg1 HB.out GE413.out))); replace BK413 := am (blk_below (pb BK413.out) hb); replace HB := am (below_step (bg1 HB.out GE413.out) hb); clear hb ho6; obtain ⟨hcz7_0, hcz7_1⟩ := b2 BK413.out; obtain ⟨hfz7_0, hfz7_1⟩ := f2 BK413.out) | (refine gl 7 Try.func8 #[.agg #[.slice A0_0 l0_0.length c0_0, .slice A0_1 l0_1.length c0_1]] rfl ?_; (with_reducible refine (spec_StoreOk.calls k _ _ l0_0 _ _ l0_1 true _ ?side1 ?side2 ?side3 ?side4 A2.out).mono ?_); (case side1 => exact pc (Kd.C_below HR0_0.out HB.out)); (case side2 => exact HC0_0.out); (case side3 => exact pc (Kd.C_below HR0_1.out HB.out)); (case side4 => exact HC0_1.out); rintro e w8 ⟨rfl, hb⟩; refine ⟨_, rfl, ?_⟩; replace HO416 := am (Kd.R_below (pr HO416.out) hb); replace BK413 := am (blk_below (pb BK413.out) hb); replace HB := am (below_step (bg1 HB.out GE413.out) hb); (try clear hb); (try clear hb2); (try clear hk); (try clear hi)))
 go_loopg [3, 4] k (fun kq v3 v4 w' => ∃ (x3_1 : List Int) (x4_1 : Int), v4 = .int .i64 x4_1 ∧ Aside0 (spec_StoreDirty.l0 kq x3_1 x4_1 l0_0 l0_1 = some r) ∧ Aside0 (kq ≤ k) ∧ Aside0 (Kd.R (Kd.int .i64) 3 w' w.heap.size (fun _ => True) v3 x3_1) ∧ Aside0 (w'.heap[gb413]? = some (.cells #[(.slice A0_0 l0_0.length c0_0), (.slice A0_1 l0_1.length c0_1)] 26 (0, 0))) ∧ Aside0 (Below w.heap.size w w'))
 case atStart => exact ⟨(y414), (1), rf, H', ⟨Nat.le_refl _⟩, ⟨pr HO416.out⟩, ⟨pb BK413.out⟩, ⟨bg1 HB.out GE413.out⟩⟩
 case round =>
  clear H'
  obtain ⟨x3_1, x4_1, rfl, HA, HK1, HO_3, BK413, HB⟩ := hrel
  cases gk with
  | zero => exact absurd HA.out (by simp [spec_StoreDirty.l0])
  | succ k1 =>
   have H := HA.out
   clear HA
   simp only [spec_StoreDirty.l0] at H
   by_cases c9 : x4_1 ≤ 6
   rotate_left
   · rw [if_neg c9] at H
     have c9b0 := decide_eq_false c9
     clear c9
     obtain rfl := Option.some.inj H
     go_wp2
     go_ret
     exact ⟨_, rq ⟨pr HO_3.out, bg1 HB.out GE413.out⟩⟩
   rw [if_pos c9] at H
   have c9b0 := decide_eq_true c9
   clear c9
   replace H := Option.bind_eq_some_iff.mp H
   obtain ⟨t418, A100, H⟩ := H
   have A10 := am A100
   clear A100
   by_cases c11 : t418 = true
   rotate_left
   · replace c11 := Bool.eq_false_iff.mpr c11
     subst c11
     rw [if_neg (show ¬ (false = true) by decide)] at H
     have H' := am H
     clear H
     obtain ⟨hcz16_0, hcz16_1⟩ := b2 BK413.out
     obtain ⟨hfz16_0, hfz16_1⟩ := f2 BK413.out
     go_wp2_with (first | (refine gl 16 Try.func16 #[.agg #[.slice A0_0 l0_0.length c0_0, .slice A0_1 l0_1.length c0_1], .int .i64 x4_1] rfl ?_; (with_reducible refine (spec_l11Dirty.calls k1 _ _ l0_0 _ _ l0_1 x4_1 false _ ?side1 ?side2 ?side3 ?side4 A10.out).mono ?_); (case side1 => exact pc (Kd.C_below HR0_0.out HB.out)); (case side2 => exact HC0_0.out); (case side3 => exact pc (Kd.C_below HR0_1.out HB.out)); (case side4 => exact HC0_1.out); rintro e w17 ⟨rfl, hb⟩; refine ⟨_, rfl, ?_⟩; replace HO_3 := am (Kd.R_below (pr HO_3.out) hb); replace BK413 := am (blk_below (pb BK413.out) hb); replace HB := am (below_step (bg1 HB.out GE413.out) hb); (try clear hb); (try clear hb2); (try clear hk); (try clear hi)))
     go_roundg k1
     case measure => have := HK1.out; omega
     case rel => exact ⟨(x3_1), (wrap64 (x4_1 + 1)), rf, H', ⟨by have := HK1.out; omega⟩, ⟨pr HO_3.out⟩, ⟨pb BK413.out⟩, ⟨bg1 HB.out GE413.out⟩⟩
   subst c11
   rw [if_pos rfl] at H
   by_cases c12 : x3_1.length < 17592186044416
   rotate_left
   · rw [if_neg c12] at H
     exact absurd H (by simp)
   rw [if_pos c12] at H
   have LMc12 := am c12
   clear c12
   obtain ⟨y419, hy419⟩ : ∃ y_ : List Int, y_ = (x3_1 ++ [x4_1]) := ⟨_, rfl⟩
   replace H : (spec_StoreDirty.l0 k1 y419 (wrap64 (x4_1 + 1)) l0_0 l0_1) = some r := by first | (rw [hy419]; with_reducible exact H) | (have H2_ := (Option.bind_some _ _).symm.trans H; rw [hy419]; with_reducible exact H2_) | (have H2_ := (Option.bind_some _ _).symm.trans H; with_reducible exact H2_) | with_reducible exact H | (rw [hy419]; exact H) | exact H
   have Ny419 := am hy419
   clear hy419
   have H' := am H
   clear H
   obtain ⟨hcz13_0, hcz13_1⟩ := b2 BK413.out
   obtain ⟨hfz13_0, hfz13_1⟩ := f2 BK413.out
   go_wp2_with (first | (refine gl 16 Try.func16 #[.agg #[.slice A0_0 l0_0.length c0_0, .slice A0_1 l0_1.length c0_1], .int .i64 x4_1] rfl ?_; (with_reducible refine (spec_l11Dirty.calls k1 _ _ l0_0 _ _ l0_1 x4_1 true _ ?side1 ?side2 ?side3 ?side4 A10.out).mono ?_); (case side1 => exact pc (Kd.C_below HR0_0.out HB.out)); (case side2 => exact HC0_0.out); (case side3 => exact pc (Kd.C_below HR0_1.out HB.out)); (case side4 => exact HC0_1.out); rintro e w14 ⟨rfl, hb⟩; refine ⟨_, rfl, ?_⟩; replace HO_3 := am (Kd.R_below (pr HO_3.out) hb); replace BK413 := am (blk_below (pb BK413.out) hb); replace HB := am (below_step (bg1 HB.out GE413.out) hb); (try clear hb); (try clear hb2); (try clear hk); (try clear hi)) | ((with_reducible refine gate_builtin (b := .append) (xs := #[.tmp 17, .tmp 19]) rfl ?_); at_builtin; refine Kd.R_append (Kd.int .i64) (w0 := w) w.heap.size rfl (.tmp 17) (.tmp 19) 24 3 (.int .i64 0) 8 rfl Try.underlying24 info3 rfl (by decide) (by omega) u3 x3_1 x4_1 [.int .i64 x4_1] (fun _ => True) (fun _ => False) rfl rfl ?aP (fun _ hk => hk.elim) ?aF ?aO ?aB ?aS ?aL ?_; (case aP => exact rfl); (case aB => exact (bg1 HB.out GE413.out)); (case aF => exact (fun _ _ => trivial)); (case aO => exact (pr HO_3.out)); (case aS => exact (below_size (bg1 HB.out GE413.out))); (case aL => have := LMc12.out; omega); intro v420 w15 ho hb hg hat; rw [← Ny419.out] at ho; replace BK413 := am (blk_grown (g := gb413) (o := .cells #[.slice A0_0 l0_0.length c0_0, .slice A0_1 l0_1.length c0_1] 26 (0, 0)) (pb BK413.out) hg (Kd.R_ne HO_3.out BK413.out (by decide))); replace HB := am (hb); have HO421 := am (ho); clear HO_3; clear ho hb hg hat))
   go_roundg k1
   case measure => have := HK1.out; omega
   case rel => exact ⟨(y419), (wrap64 (x4_1 + 1)), rf, H', ⟨by have := HK1.out; omega⟩, ⟨pr HO421.out⟩, ⟨pb BK413.out⟩, ⟨bg1 HB.out GE413.out⟩⟩
attribute [local go_sem] Oper.semAt_some
def lastStep (a : Int) (r : S32) (p : S54) : S32 := if p.f0 = 1 ∧ p.f1.f2 = a ∧ p.f1.f1 > r.f1 then p.f1 else r
def lastA (l : List S62) (a : Int) : S32 := (pagesL l).foldl (lastStep a) ⟨0, 0, 0, 0⟩
def impl_FindLast.f (l0 : List (S62)) (a1 : Int) : Option (Int × Int × Int × Int × Bool) := some (if addrB a1 = true ∧ flashOkB l0 = true then ((lastA l0 a1).f0, (lastA l0 a1).f1, (lastA l0 a1).f2, (lastA l0 a1).f3, decide ((lastA l0 a1).f1 > 0)) else (0, 0, 0, 0, false))
def lastOf (a : Int) (pre : List AnyPage) : S32 := pre.foldl (fun m x => lastStep a m x.1.2.2) ⟨0, 0, 0, 0⟩
theorem lastOf_snoc (a : Int) (pre : List AnyPage) (x : AnyPage) : lastOf a (pre ++ [x]) = lastStep a (lastOf a pre) x.1.2.2 := by simp [lastOf]
theorem lastOf_all {a : Int} {ys : List AnyPage} {l0 : List S62} (h : ys.map (·.1) = spotsF 0 l0) : lastOf a ys = lastA l0 a := by
 unfold lastOf lastA pagesL
 rw [← h, List.foldl_map, List.foldl_map]
set_option maxRecDepth 100000 in
set_option maxHeartbeats 4000000 in
theorem impl_FindLast.calls (A0 : Option Addr) (c0 : Nat) (l0 : List (S62)) (a1 : Int) (r1 : Int) (r2 : Int) (r3 : Int) (r4 : Int) (r5 : Bool) (w : World) (hr0 : Kd.C k62 w A0 l0.length l0) (hc0 : l0.length ≤ c0) (h : impl_FindLast.f l0 a1 = some (r1, r2, r3, r4, r5)) :
 Calls Try.prog 9 #[.slice A0 l0.length c0, .int .i64 a1] w fun e w' => e = .returned (.tuple #[.agg #[.int .i64 r1, .int .i64 r2, .int .i64 r3, .int .i64 r4], .bool r5]) ∧ Below w.heap.size w w' := by
 have hu := Try.underlying32
 refine (callsIn_wide (n := 3)).1 ?_
 have hak : ∀ w, CallsIn Fence.wide 2 Try.prog 20 #[.int .i64 a1] w fun e w' => e = .returned (.bool (addrB a1)) ∧ w = w' := fun w => callsIn_wide.2 (addrOk_any a1 w)
 unfold impl_FindLast.f at h
 have h := Option.some.inj h
 have b3 := Boxed.new w 3 (.int .i64 a1)
 have b4 : RecBox ((w.alloc (.cells #[.int .i64 a1] 3)).alloc (.cells #[.int .i64 0, .int .i64 0, .int .i64 0, .int .i64 0] 32)) (w.heap.size + 1) ⟨0, 0, 0, 0⟩ := by have := blk_new (w.alloc (.cells #[.int .i64 a1] 3)) (.cells #[.int .i64 0, .int .i64 0, .int .i64 0, .int .i64 0] 32); rw [World.size_alloc] at this; exact this
 replace b3 := b3.alloc (.cells #[.int .i64 0, .int .i64 0, .int .i64 0, .int .i64 0] 32)
 have hbw : Below w.heap.size w ((w.alloc (.cells #[.int .i64 a1] 3)).alloc (.cells #[.int .i64 0, .int .i64 0, .int .i64 0, .int .i64 0] 32)) := ((Below.refl _ w).alloc (Nat.le_refl _) _).alloc (by simp) _
 cases ha : addrB a1 with
 | false =>
  simp only [ha] at hak
  rw [ha, if_neg (by simp)] at h
  cases h
  refine callsIn_of_wp_marks Try.func9 rfl trivial ?_ rfl
  simp only [Try.ntmps9, List.size_toArray, List.length_cons, List.length_nil, Nat.reduceAdd, Nat.reduceSub, Array.replicate_succ, Array.replicate_zero, List.push_toArray, List.append_toArray, List.nil_append, List.cons_append]
  gi_wp2_with (first | (refine ⟨trivial, ?_⟩; gi_at_call 20; refine (hak _).mono ?_; rintro e w1 ⟨rfl, rfl⟩) | (refine And.intro (show Fence.wide.fn 21 from trivial) ?_))
  exact ⟨_, results_ct rfl _ _ (w.heap.size + 1) _ _ _ _ rfl b4 hu rfl (by kernel_rfl), rfl, hbw⟩
 | true =>
  simp only [ha] at hak
  have hok := callsIn_wide (n := 2).2 (impl_FlashOk.calls A0 c0 l0 _ _ (Kd.C_below hr0 hbw) hc0 rfl)
  cases hf : flashOkB l0 with
  | false =>
   rw [hf] at hok
   rw [hf, if_neg (by simp)] at h
   cases h
   refine callsIn_of_wp_marks Try.func9 rfl trivial ?_ rfl
   simp only [Try.ntmps9, List.size_toArray, List.length_cons, List.length_nil, Nat.reduceAdd, Nat.reduceSub, Array.replicate_succ, Array.replicate_zero, List.push_toArray, List.append_toArray, List.nil_append, List.cons_append]
   gi_wp2_with (first | (refine ⟨trivial, ?_⟩; gi_at_call 20; refine (hak _).mono ?_; rintro e w1 ⟨rfl, rfl⟩) | (refine ⟨trivial, ?_⟩; gi_at_call 21; refine hok.mono ?_; rintro e w1 ⟨rfl, hb⟩; have b4' : RecBox w1 (w.heap.size + 1) ⟨0, 0, 0, 0⟩ := blk_below b4 hb; obtain ⟨hq0, hq1, hq2, hq3⟩ := b4'.cells; have hg0 := b4'.frozen 0; have hg1 := b4'.frozen 1; have hg2 := b4'.frozen 2; have hg3 := b4'.frozen 3))
   exact ⟨_, results_ct rfl _ _ (w.heap.size + 1) _ _ _ _ rfl (b4'.put ⟨0, 0, 0, 0⟩) hu rfl (by kernel_rfl), rfl, below_set4 (below_then hbw hbw.size hb) (by omega) ⟨0, 0, 0, 0⟩⟩
  | true =>
   rw [hf] at hok
   rw [ha, hf, if_pos ⟨rfl, rfl⟩] at h
   refine callsIn_of_wp_marks Try.func9 rfl trivial ?_ rfl
   simp only [Try.ntmps9, List.size_toArray, List.length_cons, List.length_nil, Nat.reduceAdd, Nat.reduceSub, Array.replicate_succ, Array.replicate_zero, List.push_toArray, List.append_toArray, List.nil_append, List.cons_append]
   gi_wp2_with (first | (refine ⟨trivial, ?_⟩; gi_at_call 20; refine (hak _).mono ?_; rintro e w1 ⟨rfl, rfl⟩) | (refine ⟨trivial, ?_⟩; gi_at_call 21; refine hok.mono ?_; rintro e w1 ⟨rfl, hb⟩) | (refine ⟨trivial, ?_⟩; gi_at_call 22; refine (eachPage_in Fence.wide 2 trivial rfl _ _ _ _).mono ?_; rintro e w2 ⟨rfl, rfl⟩))
   have hs1 := hb.size
   simp only [World.size_alloc] at hs1
   have b3' : Boxed w1 w.heap.size 3 (.int .i64 a1) := blk_below b3 hb
   have b4' : RecBox w1 (w.heap.size + 1) ⟨0, 0, 0, 0⟩ := blk_below b4 hb
   have hbw1 := below_then hbw hbw.size hb
   have bL : RecBox (w1.alloc (.cells #[.int .i64 0, .int .i64 0, .int .i64 0, .int .i64 0] 32)) w1.heap.size ⟨0, 0, 0, 0⟩ := blk_new w1 _
   have bN := Boxed.new (w1.alloc (.cells #[.int .i64 0, .int .i64 0, .int .i64 0, .int .i64 0] 32)) 23 (.slice A0 l0.length c0)
   rw [World.size_alloc] at bN
   have bL2 : RecBox ((w1.alloc (.cells #[.int .i64 0, .int .i64 0, .int .i64 0, .int .i64 0] 32)).alloc (.cells #[.slice A0 l0.length c0] 23)) w1.heap.size ⟨0, 0, 0, 0⟩ := blk_alloc bL _
   have hB0 : Below w.heap.size w ((w1.alloc (.cells #[.int .i64 0, .int .i64 0, .int .i64 0, .int .i64 0] 32)).alloc (.cells #[.slice A0 l0.length c0] 23)) := (hbw1.alloc hbw1.size _).alloc (hbw1.alloc hbw1.size _).size _
   refine wpIn_rangeFunc_ownH (F := Fence.wide) rfl (by decide) (gf := 34) (lb := #[.pointer (some ⟨w1.heap.size + 1, 0, none⟩)]) rfl trivial (enters_of Try.func34 (by kernel_rfl) rfl)
    (eachPage_stops Fence.wide 2 trivial rfl (by decide) (fun _ => True) (w1.heap.size + 1) A0 c0 l0 w _ hr0 (fun _ _ => trivial) hB0 bN.cell) belowK_t (belowK_b hB0.size) (Below.refl _ _) (fun _ => rfl)
    (fun pre W => RecBox W w1.heap.size (lastOf a1 pre) ∧ Boxed W w.heap.size 3 (.int .i64 a1) ∧ RecBox W (w.heap.size + 1) ⟨0, 0, 0, 0⟩ ∧ Below w.heap.size w W) (fun _ _ _ => False)
    (OwnFrom.and (Own.from (RecBox.own _ _) _) (OwnFrom.and (Own.from (boxed_own _ _ _) _) (OwnFrom.and (Own.from (RecBox.own _ _) _) (ownFrom_below (Nat.le_refl _) hB0.size)))) (fun _ _ _ _ _ hs _ _ => hs)
    ⟨bL2, (b3'.alloc _).alloc _, blk_alloc (blk_alloc b4' _) _, hB0⟩
    (fun x a' W => ∃ Bx, w1.heap.size < Bx ∧ PageBox W Bx x.1.2.2 ∧ a' = { tmps := #[.slice A0 l0.length c0, .int .i64 a1, undef, .pointer (some ⟨w.heap.size, 0, none⟩), .pointer (some ⟨w.heap.size + 1, 0, none⟩), .bool false, .pointer (some ⟨w1.heap.size, 0, none⟩), undef, .pointer (some ⟨Bx, 0, none⟩), .int .i64 a1, .bool true, .bool false, .bool false, .slice A0 l0.length c0, .bool true, .bool false, .bool false, undef, .slice A0 l0.length c0, .func (.func 34) #[] #[.pointer (some ⟨w1.heap.size + 1, 0, none⟩)], .agg #[.int .i64 (x.1.1 : Int), .int .i64 (x.1.2.1 : Int)], .agg #[.int .i64 x.1.2.2.f0, .int .i64 x.1.2.2.f1.f0, .int .i64 x.1.2.2.f1.f1, .int .i64 x.1.2.2.f1.f2, .int .i64 x.1.2.2.f1.f3], undef, undef, undef, undef, undef, undef, undef, undef, undef, undef, undef, undef, undef, undef, undef, undef, undef, undef, undef, undef, undef, undef, undef, undef], defers := [] })
    (fun x a' s X Y row hs hg hr => by obtain ⟨Bx, h1, h2, h3⟩ := hs; exact ⟨Bx, h1, PageBox.own Bx _ _ () X Y row h2 hg hr, h3⟩) ?assign ?body ?done ?stop
   case assign =>
    rintro l pre x W K ⟨hbx, hb3, hb4, hB⟩ hK
    gi_wp2
    exact hK _ _ ((KeepsOthers.alloc _ _).from _) ((Below.refl _ W).alloc hB.size _) ⟨blk_alloc hbx _, hb3.alloc _, blk_alloc hb4 _, hB.alloc hB.size _⟩ ⟨W.heap.size, blk_lt hbx, blk_new W _, rfl⟩
   case body =>
    rintro l pre x a' W hl ⟨r, hr⟩ ⟨hbx, hb3, hb4, hB⟩ ⟨Bx, hBx, bX, rfl⟩ hlt
    obtain ⟨hc0_, hc1_, hc2_, hc3_, hc4_⟩ := bX.cells
    have hcl := hb3.cell
    obtain ⟨hq0, hq1, hq2, hq3⟩ := hbx.cells
    have hg0 := hbx.frozen 0
    have hg1 := hbx.frozen 1
    have hg2 := hbx.frozen 2
    have hg3 := hbx.frozen 3
    have hsn := lastOf_snoc a1 pre x
    unfold lastStep at hsn
    by_cases hs1 : x.1.2.2.f0 = 1
    rotate_left
    · have hs2 : (x.1.2.2.f0 == 1) = false := by simp [hs1]
      rw [if_neg (fun h => hs1 h.1)] at hsn
      gi_wp2
      exact ⟨KeepsFrom.refl _ _, Below.refl _ _, by rw [hsn]; exact hbx, hb3, hb4, hB⟩
    have hs2 : (x.1.2.2.f0 == 1) = true := by simp [hs1]
    by_cases ht1 : x.1.2.2.f1.f2 = a1
    rotate_left
    · have ht2 : (x.1.2.2.f1.f2 == a1) = false := by simp [ht1]
      rw [if_neg (fun h => ht1 h.2.1)] at hsn
      gi_wp2
      exact ⟨KeepsFrom.refl _ _, Below.refl _ _, by rw [hsn]; exact hbx, hb3, hb4, hB⟩
    have ht2 : (x.1.2.2.f1.f2 == a1) = true := by simp [ht1]
    by_cases hv1 : x.1.2.2.f1.f1 > (lastOf a1 pre).f1
    rotate_left
    · have hv2 : decide ((lastOf a1 pre).f1 < x.1.2.2.f1.f1) = false := decide_eq_false hv1
      rw [if_neg (fun h => hv1 h.2.2)] at hsn
      gi_wp2
      exact ⟨KeepsFrom.refl _ _, Below.refl _ _, by rw [hsn]; exact hbx, hb3, hb4, hB⟩
    have hv2 : decide ((lastOf a1 pre).f1 < x.1.2.2.f1.f1) = true := decide_eq_true hv1
    rw [if_pos ⟨hs1, ht1, hv1⟩] at hsn
    obtain ⟨q, hq, hq_⟩ : ∃ q : S32, q = ⟨x.1.2.2.f1.f0, x.1.2.2.f1.f1, a1, x.1.2.2.f1.f3⟩ ∧ x.1.2.2.f1 = q := ⟨_, rfl, by rw [← ht1]⟩
    rw [hq_] at hsn
    have ok1 : RecBox (set4 W w1.heap.size q) w1.heap.size (lastOf a1 (pre ++ [x])) := by rw [hsn]; exact RecBox.put hbx _
    have ok2 : Boxed (set4 W w1.heap.size q) w.heap.size 3 (.int .i64 a1) := Boxed.far4 hb3 (by omega) _
    have ok3 : RecBox (set4 W w1.heap.size q) (w.heap.size + 1) ⟨0, 0, 0, 0⟩ := RecBox.far hb4 (by omega) _
    have ok4 : Below w.heap.size w (set4 W w1.heap.size q) := below_set4 hB (by omega) _
    have ok5 : Below w.heap.size W (set4 W w1.heap.size q) := below_set4 (Below.refl _ W) (by omega) _
    have OK1 := am ok1
    have OK2 := am ok2
    have OK3 := am ok3
    have OK4 := am ok4
    have OK5 := am ok5
    have OK6 := am ((keeps_set4 W w1.heap.size q).from ((w1.alloc (.cells #[.int .i64 0, .int .i64 0, .int .i64 0, .int .i64 0] 32)).alloc (.cells #[.slice A0 l0.length c0] 23)).heap.size)
    subst hq
    clear ok1 ok2 ok3 ok4 ok5 hsn hq_
    gi_wp2
    exact ⟨OK6.out, OK5.out, OK1.out, OK2.out, OK3.out, OK4.out⟩
   case done =>
    rintro D ys W hD hys ⟨hbx, hb3, hb4, hB⟩ hK
    rw [lastOf_all hys] at hbx
    cases h
    obtain ⟨hq0, hq1, hq2, hq3⟩ := hbx.cells
    obtain ⟨ho0, ho1, ho2, ho3⟩ := hb4.cells
    have hg0 := hb4.frozen 0
    have hg1 := hb4.frozen 1
    have hg2 := hb4.frozen 2
    have hg3 := hb4.frozen 3
    gi_wp2
    gi_region
    gi_wp2
    have hbp : RecBox (set4 W (w.heap.size + 1) (lastA l0 a1)).drew (w.heap.size + 1) (lastA l0 a1) := RecBox.put hb4 _
    have hK' : (set4 W (w.heap.size + 1) (lastA l0 a1)).drew.heap[D]? = some (.deferred (some [])) := (keeps_set4 W (w.heap.size + 1) (lastA l0 a1)).same D _ hK rfl
    have hB' : Below w.heap.size w (set4 W (w.heap.size + 1) (lastA l0 a1)).drew := below_drew (below_set4 hB (by omega) _)
    refine ⟨by simp, .inl ⟨_, _, rfl, run_takeDeferred hK', ?_⟩⟩
    have hbq := RecBox.own (β := Unit) _ (fun _ => lastA l0 a1) () _ _ _ hbp (grownBy_putObj' _ D (.deferred none)) (fun r e => by cases e; exact ⟨_, hK', rfl⟩)
    exact ⟨_, results_ct rfl _ _ (w.heap.size + 1) _ _ _ _ rfl hbq hu rfl (by kernel_rfl), rfl, hB'.trans (belowK_b (w := w) (Nat.le_refl _) _ D _ _ (by have := hB0.size; omega) hK' rfl rfl)⟩
   case stop =>
    rintro D c pre W _ _ h _
    exact h.elim
open Go.Proofs.YtjlmndgpmhbdlaaW
attribute [local go_sem] Oper.semAt_some
def readV (l0 : List S62) (l1 : List Int) (a : Int) : Int := if storeOkB l0 l1 = true ∧ addrB a = true then (match lastMap l0 a with
 | some r => r.2.2.2
 | none => rd l1 (a - 1)) else -1
def impl_StoreRead.f (l0_0 : List (S62)) (l0_1 : List Int) (a1 : Int) : Option (Int) := some (readV l0_0 l0_1 a1)
set_option maxRecDepth 100000 in
set_option maxHeartbeats 8000000 in
theorem impl_StoreRead.calls (A0_0 : Option Addr) (c0_0 : Nat) (l0_0 : List (S62)) (A0_1 : Option Addr) (c0_1 : Nat) (l0_1 : List Int) (a1 : Int) (r : Int) (w : World) (hr0_0 : Kd.C k62 w A0_0 l0_0.length l0_0) (hc0_0 : l0_0.length ≤ c0_0) (hr0_1 : Kd.C (Kd.int .i64) w A0_1 l0_1.length l0_1) (hc0_1 : l0_1.length ≤ c0_1) (h : impl_StoreRead.f l0_0 l0_1 a1 = some r) :
 Calls Try.prog 10 #[.agg #[.slice A0_0 l0_0.length c0_0, .slice A0_1 l0_1.length c0_1], .int .i64 a1] w fun e w' => e = .returned (.int .i64 r) ∧ Below w.heap.size w w' := by
 obtain rfl := Option.some.inj h
 clear h
 refine (callsIn_wide (n := 3)).1 ?_
 have hu := Try.underlying26
 have hu2 := Try.underlying32
 have hso : ∀ W, Below w.heap.size w W → CallsIn Fence.wide 2 Try.prog 13 #[.agg #[.slice A0_0 l0_0.length c0_0, .slice A0_1 l0_1.length c0_1]] W fun e w' => e = .returned (.bool (storeOkB l0_0 l0_1)) ∧ Below W.heap.size W w' := fun W hb => callsIn_wide.2 (impl_StoreOk.calls A0_0 c0_0 l0_0 A0_1 c0_1 l0_1 _ W (Kd.C_below hr0_0 hb) hc0_0 (Kd.C_below hr0_1 hb) hc0_1 rfl)
 have hak : ∀ W, CallsIn Fence.wide 2 Try.prog 20 #[.int .i64 a1] W fun e w' => e = .returned (.bool (addrB a1)) ∧ W = w' := fun W => callsIn_wide.2 (addrOk_any a1 W)
 have hbox := blk_new w (.cells #[.slice A0_0 l0_0.length c0_0, .slice A0_1 l0_1.length c0_1] 26)
 have hB1 := below_alloc (Below.refl _ w) (.cells #[.slice A0_0 l0_0.length c0_0, .slice A0_1 l0_1.length c0_1] 26)
 unfold readV
 cases hs : storeOkB l0_0 l0_1 with
 | false =>
  rw [hs] at hso
  rw [if_neg (by simp)]
  refine callsIn_of_wp Try.func10 rfl trivial ?_ rfl
  simp only [Try.ntmps10, List.size_toArray, List.length_cons, List.length_nil, Nat.reduceAdd, Nat.reduceSub, Array.replicate_succ, Array.replicate_zero, List.push_toArray, List.append_toArray, List.nil_append, List.cons_append]
  gi_wp2_with (first | (refine ⟨trivial, ?_⟩; gi_at_call 13; refine (hso _ hB1).mono ?_; rintro e w1 ⟨rfl, hb⟩; have hbox1 := blk_below hbox hb; have hB2 := below_then hB1 hB1.size hb; have hq0 : w1.cell? ⟨w.heap.size, 0, none⟩ = some (.slice A0_0 l0_0.length c0_0) := (blk_cell hbox1 0).trans rfl) | (refine And.intro (show Fence.wide.fn 20 from trivial) ?_))
  go_ret
  exact ⟨rfl, hB2⟩
 | true =>
  rw [hs] at hso
  cases ha : addrB a1 with
  | false =>
   rw [ha] at hak
   rw [if_neg (by simp)]
   refine callsIn_of_wp Try.func10 rfl trivial ?_ rfl
   simp only [Try.ntmps10, List.size_toArray, List.length_cons, List.length_nil, Nat.reduceAdd, Nat.reduceSub, Array.replicate_succ, Array.replicate_zero, List.push_toArray, List.append_toArray, List.nil_append, List.cons_append]
   gi_wp2_with (first | (refine ⟨trivial, ?_⟩; gi_at_call 13; refine (hso _ hB1).mono ?_; rintro e w1 ⟨rfl, hb⟩; have hbox1 := blk_below hbox hb; have hB2 := below_then hB1 hB1.size hb; have hq0 : w1.cell? ⟨w.heap.size, 0, none⟩ = some (.slice A0_0 l0_0.length c0_0) := (blk_cell hbox1 0).trans rfl) | (refine ⟨trivial, ?_⟩; gi_at_call 20; refine (hak _).mono ?_; rintro e w3 ⟨rfl, rfl⟩))
   go_ret
   exact ⟨rfl, hB2⟩
  | true =>
   rw [ha] at hak
   rw [if_pos ⟨rfl, rfl⟩]
   have hl : l0_1.length = 6 ∧ orderI l0_0 = true := by
    unfold storeOkB at hs
    rw [Bool.and_eq_true, Bool.and_eq_true, decide_eq_true_eq] at hs
    exact ⟨by omega, hs.2.1⟩
   have hf := order_flash hl.2
   have hl := hl.1
   have hr16 : 1 ≤ a1 ∧ a1 ≤ 6 := by unfold addrB at ha; simpa using ha
   have hwf : (Lit.int .i64 a1).wf = true := WalkArith.wf_i64 ⟨by omega, by omega⟩
   have hlr : ∀ W, Below w.heap.size w W → CallsIn Fence.wide 2 Try.prog 14 #[.slice A0_0 l0_0.length c0_0] W fun e w' => ∃ B n, e = .returned (.map (some B)) ∧ RecsIs Try.prog 3 w' B n (lastMap l0_0) ∧ W.heap.size ≤ B ∧ Below W.heap.size W w' := fun W hb => callsIn_wide.2 (lastRecords_any A0_0 c0_0 l0_0 W (Kd.C_below hr0_0 hb) hf)
   generalize lastMap l0_0 = M at hlr ⊢
   rw [hl] at hbox hB1 hso ⊢
   cases hM : M a1 with
   | some q =>
    obtain ⟨qa, qb, qc, qd⟩ := q
    refine callsIn_of_wp Try.func10 rfl trivial ?_ rfl
    simp only [Try.ntmps10, List.size_toArray, List.length_cons, List.length_nil, Nat.reduceAdd, Nat.reduceSub, Array.replicate_succ, Array.replicate_zero, List.push_toArray, List.append_toArray, List.nil_append, List.cons_append]
    gi_wp2_with (first | (refine ⟨trivial, ?_⟩; gi_at_call 13; refine (hso _ hB1).mono ?_; rintro e w1 ⟨rfl, hb⟩; have hbox1 := blk_below hbox hb; have hB2 := below_then hB1 hB1.size hb; have hq0 : w1.cell? ⟨w.heap.size, 0, none⟩ = some (.slice A0_0 l0_0.length c0_0) := (blk_cell hbox1 0).trans rfl) | (refine ⟨trivial, ?_⟩; gi_at_call 20; refine (hak _).mono ?_; rintro e w3 ⟨rfl, rfl⟩) | (refine ⟨trivial, ?_⟩; gi_at_call 14; refine (hlr _ hB2).mono ?_; rintro e w2 ⟨B, n, rfl, hm, hBq, hb2⟩; have hB3 := below_then hB2 hB2.size hb2; have hbox2 := blk_below hbox1 hb2; have hq1 : w2.cell? ⟨w.heap.size, 1, none⟩ = some (.slice A0_1 6 c0_1) := (blk_cell hbox2 1).trans rfl; have hlk := hm.look_ok (T := 40) (E := 32) Try.underlying3 Try.underlying40 (by go_simp; rfl) hwf; rw [hM] at hlk; simp only [Option.getD_some, Option.isSome_some, Option.getD_none, Option.isSome_none, recVal] at hlk))
    go_ret
    exact ⟨rfl, below_alloc hB3 _⟩
   | none =>
    have p1 : 0 ≤ a1 - 1 := by omega
    have q1 : a1 - 1 < 6 := by omega
    obtain ⟨ad1, e1, hx1⟩ := Kd.at_int hr0_1 (a1 - 1) p1 (by omega)
    cases e1
    rw [show (a1 - 1).toNat = a1.toNat - 1 by omega] at hx1
    refine callsIn_of_wp Try.func10 rfl trivial ?_ rfl
    simp only [Try.ntmps10, List.size_toArray, List.length_cons, List.length_nil, Nat.reduceAdd, Nat.reduceSub, Array.replicate_succ, Array.replicate_zero, List.push_toArray, List.append_toArray, List.nil_append, List.cons_append]
    gi_wp2_with (first | (refine ⟨trivial, ?_⟩; gi_at_call 13; refine (hso _ hB1).mono ?_; rintro e w1 ⟨rfl, hb⟩; have hbox1 := blk_below hbox hb; have hB2 := below_then hB1 hB1.size hb; have hq0 : w1.cell? ⟨w.heap.size, 0, none⟩ = some (.slice A0_0 l0_0.length c0_0) := (blk_cell hbox1 0).trans rfl) | (refine ⟨trivial, ?_⟩; gi_at_call 20; refine (hak _).mono ?_; rintro e w3 ⟨rfl, rfl⟩) | (refine ⟨trivial, ?_⟩; gi_at_call 14; refine (hlr _ hB2).mono ?_; rintro e w2 ⟨B, n, rfl, hm, hBq, hb2⟩; have hB3 := below_then hB2 hB2.size hb2; have hbox2 := blk_below hbox1 hb2; have hq1 : w2.cell? ⟨w.heap.size, 1, none⟩ = some (.slice (some ad1) 6 c0_1) := (blk_cell hbox2 1).trans rfl; have hlk := hm.look_ok (T := 40) (E := 32) Try.underlying3 Try.underlying40 (by go_simp; rfl) hwf; rw [hM] at hlk; simp only [Option.getD_some, Option.isSome_some, Option.getD_none, Option.isSome_none, recVal] at hlk; have hlt2 := blk_lt hbox2; have hx2 := (hB3.cell (World.block_lt_of_cell? w _ hx1)).trans hx1; have hx3 := ((below_alloc (Below.refl _ w2) (.cells #[.int .i64 0, .int .i64 0, .int .i64 0, .int .i64 0] 32)).cell (World.block_lt_of_cell? w2 _ hx2)).trans hx2))
    go_ret
    exact ⟨rfl, below_alloc hB3 _⟩
end Go.Proofs.Ytjlmndgpmhbdlaa.Rz
