-- printed by wip/pp/pp.py
import Derived.Test.YtbhchamohldehaaP40
import Derived.Test.YtbhchamohldehaaP42
import Derived.Test.YtbhchamohldehaaP43
import Derived.Test.YtbhchamohldehaaP48
import Derived.Test.YtbhchamohldehaaP410
import Derived.Deep.RegionHeld3
import Derived.RegionTactic
import Derived.Laws.IdiomCopy
namespace Go.Proofs.Ytbhchamohldehaa.P4
set_option maxHeartbeats 8000000
set_option maxRecDepth 100000
open Go.RowKit Go.Proofs.YtbhchamohldehaaW.PrintWords Go.Proofs.YtbhchamohldehaaW.PrintLast Go.Proofs.YtbhchamohldehaaW.PrintMore
attribute [local go_sem] max2_int min2_int max_two min_two max_three min_three max_four min_four
set_option linter.unusedVariables false
set_option linter.unusedSimpArgs false
theorem Q_up {W : World} {base b : Nat} {ok : Nat → Prop} {v : Value} {xs : List Int} (h : Kd.Q (Kd.int .i64) 3 W base ok v xs) (hb : ∀ k, ok k → b ≤ k) : Kd.Q (Kd.int .i64) 3 W b (fun k => b ≤ k) v xs := by
 obtain ⟨h0, inner, ⟨hl, hq⟩, hr⟩ := h
 refine ⟨fun k hk => hb k (h0 k hk), inner, ⟨hl, ?_⟩, hr⟩
 rcases hq with ⟨hn, A, rfl, ha⟩ | ⟨g, off, cap, cur, rfl, _, hg⟩
 · exact .inl ⟨hn, A, rfl, fun a e => ⟨hb _ (h0 _ (by rw [e]; rfl)), (ha a e).2⟩⟩
 · exact .inr ⟨g, off, cap, cur, rfl, hb g (h0 g rfl), hg⟩
theorem flAt_S {W : World} {base : Nat} {v : Value} {xs : List S73} (h : FlAt W base v xs) (hf : flFine xs = true) : Kd.S k73 73 W base (fun k => base ≤ k) v xs := by
 obtain ⟨g, o, hi, n, c, G, O, C, rfl, rfl, hc, hF, rfl, hz⟩ := h
 obtain ⟨rfl, hO⟩ := hz hf
 obtain ⟨h4, hp⟩ := fl_fine hf
 obtain ⟨cells, hcs, hsz, hmx⟩ := hF.typ
 refine ⟨fun k => if k = G 0 then 0 else if k = G 1 then 1 else if k = G 2 then 2 else 3, ?_⟩
 have hlen : xs.zipIdx.length = xs.length := List.length_zipIdx
 rw [← hlen]
 refine R_cells (d := Kd.tag _ k73) hcs hF.own.1 (by rw [hlen]; exact hc) hmx (by rw [hsz, Nat.zero_add]; rfl) hF.own.1 (fun j p hj => ?_)
 rw [List.getElem?_zipIdx, Nat.zero_add] at hj
 obtain ⟨x, hx, rfl⟩ := Option.map_eq_some_iff.1 hj
 have hjl : j < xs.length := (List.getElem?_eq_some_iff.1 hx).1
 have hOj := hO j (by omega)
 obtain ⟨a1, a2, a3, a4, ⟨c', a5, a6, a7⟩, a8, a9, a10⟩ := hF.at_ j hjl
 rw [flB_at hx, hOj] at a8
 rw [flB_at hx] at a4 a9 a10
 rw [hOj] at a6
 refine ⟨[.slice (some ⟨G j, 0, none⟩) x.f0.length (C j), .int .i64 x.f1], rfl, ?_, ?_⟩
 · refine k73_mkM W base _ x (R_cells (d := k69) a5 a1 a4 a7 (by rw [a6, Nat.zero_add]; rfl) ⟨⟨a1, fun e => a3 (Option.some.inj e)⟩, ?_⟩ (fun i q hq => ?_))
   · have h1 := hF.one 1 0
     have h2 := hF.one 2 0
     have h3 := hF.one 2 1
     have h5 := hF.one 3 0
     have h6 := hF.one 3 1
     have h7 := hF.one 3 2
     have hj4 : j = 0 ∨ j = 1 ∨ j = 2 ∨ j = 3 := by omega
     show (if G j = G 0 then 0 else if G j = G 1 then 1 else if G j = G 2 then 2 else 3) = j
     rcases hj4 with rfl | rfl | rfl | rfl
     · exact if_pos rfl
     · rw [if_neg (h1 (by omega) (by omega) (by decide)), if_pos rfl]
     · rw [if_neg (h2 (by omega) (by omega) (by decide)), if_neg (h3 (by omega) (by omega) (by decide)), if_pos rfl]
     · rw [if_neg (h5 (by omega) (by omega) (by decide)), if_neg (h6 (by omega) (by omega) (by decide)), if_neg (h7 (by omega) (by omega) (by decide))]
   · have hil : i < x.f0.length := (List.getElem?_eq_some_iff.1 hq).1
     have h8 := a10 i hil
     rw [flP_at hq, hOj] at h8
     refine ⟨pgC q, rfl, k69_mkM W base _ q, fun t u hu => ?_⟩
     have h9 := cell_get a5 (h8 t u hu)
     rw [Nat.zero_add] at h9
     exact h9
 · intro t u hu
   match t, hu with
   | 0, hu =>
    cases hu
    have h9 := cell_get hcs a8
    rw [Nat.zero_add] at h9
    exact h9
   | 1, hu =>
    cases hu
    have h9 := cell_get hcs a9
    rw [Nat.zero_add] at h9
    exact h9
theorem S_Vq {W : World} {base b b' : Nat} {ok ok' : Nat → Prop} {v u : Value} {xs : List S73} {ys : List Int} (h : Kd.S k73 73 W base ok v xs) (hq : Kd.Q (Kd.int .i64) 3 W b ok' u ys) : Kd.V k73 73 W b' (fun k => ok k ∧ some k ≠ u.ownBlock) v xs :=
 Kd.S_V (Kd.S_mono (Kd.S_bound h) (fun k hk => ⟨hk.1, by
  obtain ⟨_, _, _, q, hq', c, hc⟩ := hk
  exact Kd.Q_ne hq hc (by rintro rfl; revert hq'; decide)⟩))
structure FullI (w0 w : World) (g b3 : Nat) (s : List Int) (p : Int) (v0 v1 : Value) (fl : List S73) (dk : List Int) (W : World) : Prop where
 hV : Kd.V k73 73 W w0.heap.size (fun k => (fun k => w.heap.size < k ∧ k ≠ b3) k ∧ some k ≠ v1.ownBlock) v0 fl
 hQ : Kd.Q (Kd.int .i64) 3 W w0.heap.size (fun k => w.heap.size < k ∧ k ≠ b3) v1 dk
 hS : flFine fl = true → Kd.S k73 73 W w0.heap.size (fun k => w.heap.size < k ∧ k ≠ b3) v0 fl
 hR : dk.length = 6 → (Kd.int .i64).R 3 W w0.heap.size (fun k => w.heap.size < k ∧ k ≠ b3) v1 dk
 b2 : W.heap[w.heap.size]? = some (.cells #[.slice none 0 0, .slice none 0 0] 26)
 b3 : W.heap[b3]? = some (.cells #[v0, v1] 26)
 hI : IsS56 w0 W g s p
 hB : Below w0.heap.size w0 W
 hK : KeepBut w W g none
section
variable {w0 w W W' : World} {g b3 : Nat} {s : List Int} {p : Int} {v0 v1 : Value} {fl : List S73} {dk : List Int}
theorem FullI.below (h : FullI w0 w g b3 s p v0 v1 fl dk W) (hb : Below W.heap.size W W') : FullI w0 w g b3 s p v0 v1 fl dk W' :=
 ⟨Kd.V_below h.hV hb, Kd.Q_below h.hQ hb, fun hf => Kd.S_below (h.hS hf) hb, fun hf => Kd.R_below (h.hR hf) hb, blk_below h.b2 hb, blk_below h.b3 hb, h.hI.below hb, below_step h.hB hb, h.hK.trans (KeepBut.of_below hb g none) (.inl rfl)⟩
theorem FullI.drew (h : FullI w0 w g b3 s p v0 v1 fl dk W) : FullI w0 w g b3 s p v0 v1 fl dk W.drew :=
 ⟨Kd.V_drew h.hV, Kd.Q_drew h.hQ, fun hf => Kd.S_drew (h.hS hf), fun hf => Kd.R_drew (h.hR hf), h.b2, h.b3, IsS56.drew h.hI, below_drew h.hB, keep_drew h.hK⟩
theorem FullI.pick {p' : Int} (h : FullI w0 w g b3 s p v0 v1 fl dk W) (hg : g < w.heap.size) (h3 : w.heap.size < b3) (hi : IsS56 w0 W' g s p') (hb : Below w0.heap.size w0 W') (hk : KeepBut W W' g none) : FullI w0 w g b3 s p' v0 v1 fl dk W' :=
 have hn : ∀ k, (fun k => w.heap.size < k ∧ k ≠ b3) k → k ≠ g := fun k hk => by have := hk.1; omega
 ⟨Kd.V_keep h.hV hk (fun k hk => hn k hk.1), Kd.Q_keep h.hQ hk hn, fun hf => Kd.S_keep (h.hS hf) hk hn, fun hf => Kd.R_keep (h.hR hf) hk hn, blk_kb h.b2 hk (by omega), blk_kb h.b3 hk (by omega), hi, hb, h.hK.trans hk (.inl rfl)⟩
theorem FullI.put {u0 u1 : Value} {fl' : List S73} {dk' : List Int} (h : FullI w0 w g b3 s p v0 v1 fl dk W) (h0 : w0.heap.size ≤ w.heap.size) (hg : g < w.heap.size) (h3 : w.heap.size < b3) (hS : Kd.S k73 73 W' w0.heap.size (fun k => ((fun k => w.heap.size < k ∧ k ≠ b3) k ∨ (fun k => w.heap.size < k ∧ k ≠ b3) k) ∨ W.heap.size ≤ k) u0 fl') (hR : (Kd.int .i64).R 3 W' w0.heap.size (fun k => ((fun k => w.heap.size < k ∧ k ≠ b3) k ∨ (fun k => w.heap.size < k ∧ k ≠ b3) k) ∨ W.heap.size ≤ k) u1 dk') (hb : Below w0.heap.size w0 W') (hk : Kept W W' (fun k => (fun k => w.heap.size < k ∧ k ≠ b3) k ∨ (fun k => w.heap.size < k ∧ k ≠ b3) k)) :
 FullI w0 w g b3 s p u0 u1 fl' dk' ((W'.setCell ⟨b3, 0, none⟩ u0).setCell ⟨b3, 1, none⟩ u1) := by
 have hl3 := blk_lt h.b3
 have hP : ∀ k, (((fun k => w.heap.size < k ∧ k ≠ b3) k ∨ (fun k => w.heap.size < k ∧ k ≠ b3) k) ∨ W.heap.size ≤ k) → (fun k => w.heap.size < k ∧ k ≠ b3) k := fun k hk => by
  rcases hk with (hk | hk) | hk
  · exact hk
  · exact hk
  · exact ⟨by omega, by omega⟩
 have hn : ∀ k, (fun k => w.heap.size < k ∧ k ≠ b3) k → k ≠ b3 := fun k hk => hk.2
 have hS1 := Kd.S_far (p := ⟨b3, 1, none⟩) (Kd.S_far (p := ⟨b3, 0, none⟩) (Kd.S_mono hS hP) hn u0) hn u1
 have hR1 := Kd.R_far (p := ⟨b3, 1, none⟩) (Kd.R_far (p := ⟨b3, 0, none⟩) (Kd.R_mono hR hP) hn u0) hn u1
 have hb2 := blk_kept h.b2 hk (fun hs => by rcases hs with hs | hs <;> exact absurd hs.1 (Nat.lt_irrefl _))
 have hb3 := blk_kept h.b3 hk (fun hs => by rcases hs with hs | hs <;> exact hs.2 rfl)
 have hI := IsS56.kept h.hI hk (fun hs => by rcases hs with hs | hs <;> (have := hs.1; omega))
 exact ⟨S_Vq hS1 (Kd.Q_of_R hR1), Kd.Q_of_R hR1, fun _ => hS1, fun _ => hR1, blk_far (p := ⟨b3, 1, none⟩) (blk_far (p := ⟨b3, 0, none⟩) hb2 (show w.heap.size ≠ b3 by omega) u0) (show w.heap.size ≠ b3 by omega) u1, blk_put (cs := #[u0, v1]) (blk_put (cs := #[v0, v1]) hb3 0 u0 rfl) 1 u1 rfl,
  IsS56.far (p := ⟨b3, 1, none⟩) (IsS56.far (p := ⟨b3, 0, none⟩) hI (show g ≠ b3 by omega) u0) (show g ≠ b3 by omega) u1, Below.setCell (Below.setCell hb (p := ⟨b3, 0, none⟩) (show _ ≤ b3 by omega) u0) (p := ⟨b3, 1, none⟩) (show _ ≤ b3 by omega) u1,
  keep_far (p := ⟨b3, 1, none⟩) (keep_far (p := ⟨b3, 0, none⟩) (Kept.keep h.hK hk (fun k hs => by rcases hs with hs | hs <;> exact Nat.le_of_lt hs.1)) (show w.heap.size ≤ b3 by omega) u0) (show w.heap.size ≤ b3 by omega) u1⟩
theorem FullI.out (h : FullI w0 w g b3 s p v0 v1 fl dk W) (h0 : w0.heap.size ≤ w.heap.size) (hg : g < w.heap.size) : Kd.V k73 73 ((W.setCell ⟨w.heap.size, 0, none⟩ v0).setCell ⟨w.heap.size, 1, none⟩ v1) w.heap.size (fun k_ => (w.heap.size ≤ k_) ∧ some k_ ≠ v1.ownBlock) v0 fl ∧ Kd.Q (Kd.int .i64) 3 ((W.setCell ⟨w.heap.size, 0, none⟩ v0).setCell ⟨w.heap.size, 1, none⟩ v1) w.heap.size (fun k_ => (w.heap.size ≤ k_)) v1 dk ∧ IsS56 w0 ((W.setCell ⟨w.heap.size, 0, none⟩ v0).setCell ⟨w.heap.size, 1, none⟩ v1) g s p ∧ Below w0.heap.size w0 ((W.setCell ⟨w.heap.size, 0, none⟩ v0).setCell ⟨w.heap.size, 1, none⟩ v1) ∧ KeepBut w ((W.setCell ⟨w.heap.size, 0, none⟩ v0).setCell ⟨w.heap.size, 1, none⟩ v1) g none := by
 have hn : ∀ k, (fun k => w.heap.size < k ∧ k ≠ b3) k → k ≠ w.heap.size := fun k hk => Nat.ne_of_gt hk.1
 refine ⟨Kd.V_mono (Kd.V_far (p := ⟨w.heap.size, 1, none⟩) (Kd.V_far (p := ⟨w.heap.size, 0, none⟩) h.hV (fun k hk => hn k hk.1) v0) (fun k hk => hn k hk.1) v1) (fun k hk => ⟨Nat.le_of_lt hk.1.1, hk.2⟩), ?_, IsS56.far (p := ⟨w.heap.size, 1, none⟩) (IsS56.far (p := ⟨w.heap.size, 0, none⟩) h.hI (Nat.ne_of_lt hg) v0) (Nat.ne_of_lt hg) v1, Below.setCell (Below.setCell h.hB (p := ⟨w.heap.size, 0, none⟩) h0 v0) (p := ⟨w.heap.size, 1, none⟩) h0 v1, keep_far (p := ⟨w.heap.size, 1, none⟩) (keep_far (p := ⟨w.heap.size, 0, none⟩) h.hK (Nat.le_refl _) v0) (Nat.le_refl _) v1⟩
 exact Q_up (Kd.Q_far (p := ⟨w.heap.size, 1, none⟩) (Kd.Q_far (p := ⟨w.heap.size, 0, none⟩) h.hQ hn v0) hn v1) (fun k hk => Nat.le_of_lt hk.1)
end
def spec_l71Full.l (k : Nat) (s0_0 : List Int) : Nat → List S73 → List Int → Int → Option (List S73 × List Int × Int)
 | 0, fl, dk, p => some (fl, dk, p)
 | n + 1, fl, dk, p => (spec_StoreOk.f k fl dk).bind fun ok => if ok = true then (spec_l6Rd_pick.f k s0_0 p 8).bind fun q => if q.1 > 0 then (if flFine fl = true ∧ dk.length = 6 then (spec_l3Open.f k fl).bind fun o => if o.2 = true then (spec_l6Rd_pick.f k s0_0 q.2 6).bind fun a => (spec_l6Rd_pick.f k s0_0 a.2 10).bind fun b => (spec_l21Do.f k fl dk 1 (wrap64 (1 + a.1)) b.1 9 false).bind fun x => spec_l71Full.l k s0_0 n x.1 x.2 b.2 else some (fl, dk, q.2) else none) else some (fl, dk, q.2) else some (fl, dk, p)
def spec_l71Full.f (k : Nat) (s0_0 : List Int) (s0_1 : Int) : Option (List S73 × List Int × Int) := (spec_l71Store.f k s0_0 s0_1).bind fun x => spec_l71Full.l k s0_0 12 x.1 x.2.1 x.2.2
def spec_l71Full.T8 : Bool × List (List Nat × List Nat) := (true, [([], []), ([], []), ([1], [1]), ([2], [2]), ([], []), ([4, 2], [4]), ([3, 5], [3, 5]), ([0, 6, 5], [0, 6]), ([7, 7, 0, 1, 2, 3, 4, 5, 6, 7], [7])])
def spec_l71Full.B8 : List Nat := [0, 0, 2, 6, 0, 22, 62, 127, 255]
theorem spec_l71Full.tab8 : rtab .any (opsOf Try.f12 8) = spec_l71Full.T8 := by kernel_rfl
theorem spec_l71Full.bits8 : waitsOk spec_l71Full.T8.2 spec_l71Full.B8 = true := by kernel_rfl
theorem spec_l71Full.calls (k g : Nat) (s0_0 : List Int) (s0_1 : Int) (r1 : List S73) (r2 : List Int) (r3 : Int) (w0 w : World) (hI : IsS56 w0 w g s0_0 s0_1) (hB : Below w0.heap.size w0 w) (h : spec_l71Full.f k s0_0 s0_1 = some (r1, r2, r3)) :
 Calls Try.prog 12 #[.pointer (some ⟨g, 0, none⟩)] w fun e w' => ∃ v0_ v1_ : Value, e = .returned (.agg #[v0_, v1_]) ∧ Kd.V k73 73 w' w.heap.size (fun k_ => (w.heap.size ≤ k_) ∧ some k_ ≠ (v1_ : Value).ownBlock) v0_ r1 ∧ Kd.Q (Kd.int .i64) 3 w' w.heap.size (fun k_ => (w.heap.size ≤ k_)) v1_ r2 ∧ IsS56 w0 w' g s0_0 r3 ∧ Below w0.heap.size w0 w' ∧ KeepBut w w' g none := by
 unfold spec_l71Full.f at h
 obtain ⟨⟨fl0, dk0, p1⟩, h1, h⟩ := Option.bind_eq_some_iff.1 h
 have HH := am (show spec_l71Full.l k s0_0 12 fl0 dk0 p1 = some (r1, r2, r3) from h)
 have hu70 := Try.underlying26
 have hgl := IsS56.lt hI
 have HL0 := am hB.size
 clear h
 go_enter Try.func12, Try.ntmps12
 go_wp2_with fail
 refine (spec_l71Store.callsF k g s0_0 s0_1 fl0 dk0 p1 w0 _ (hI.alloc _) (below_alloc hB _) h1).mono ?_
 rintro e w1 ⟨v0, v1, rfl, ⟨hF, hQ, hR⟩, hI1, hB1, hK1⟩
 have hb1 : (w.alloc (.cells #[.slice none 0 0, .slice none 0 0] 26)).heap.size = w.heap.size + 1 := Array.size_push _
 have hlb : w0.heap.size ≤ w.heap.size + 1 := Nat.le_succ_of_le HL0.out
 rw [hb1] at hF hQ hR
 have BK2 := blk_kb (blk_new w (.cells #[.slice none 0 0, .slice none 0 0] 26)) hK1 (show w.heap.size ≠ g by omega)
 have hl1 : w.heap.size < w1.heap.size := blk_lt BK2
 have hP : ∀ k, (w.heap.size + 1 ≤ k) ∧ k < w1.heap.size → w.heap.size < k ∧ k ≠ w1.heap.size := fun k hk => ⟨hk.1, Nat.ne_of_lt hk.2⟩
 have HX : ∀ o, Aside0 (o = .cells #[v0, v1] 26 → FullI w0 w g w1.heap.size s0_0 p1 v0 v1 fl0 dk0 (w1.alloc o)) := fun o => ⟨by
  rintro rfl
  exact ⟨Kd.V_lower (e := 73) (base := w.heap.size + 1) (Kd.V_alloc (e := 73) (base := w.heap.size + 1) (Kd.V_mono (e := 73) (base := w.heap.size + 1) (Kd.V_elderB (e := 73) (base := w.heap.size + 1) (hF.Vq (e := 73) hQ) w1.heap.size (Nat.le_refl _)) (fun k hk => ⟨⟨hk.1.1, hk.2⟩, hk.1.2⟩)) _) hlb, Kd.Q_lower (Kd.Q_alloc (Kd.Q_mono (Kd.Q_bound hQ) (fun k hk => hP k ⟨hk.1, hk.2.2.1⟩)) _) hlb, fun hf => Kd.S_lower (Kd.S_alloc (Kd.S_mono (Kd.S_bound (flAt_S hF hf)) (fun k hk => hP k ⟨hk.1, hk.2.2.1⟩)) _) hlb, fun hf => Kd.R_lower (Kd.R_alloc (Kd.R_mono (Kd.R_bound (hR hf)) (fun k hk => hP k ⟨hk.1, hk.2.2.1⟩)) _) hlb, blk_alloc BK2 _, blk_new w1 _, hI1.alloc _, below_alloc hB1 _, keep_alloc (KeepBut.trans (keep_alloc (KeepBut.refl w g none) _) hK1 (.inl rfl)) _⟩⟩
 obtain ⟨A0, c0, rfl⟩ := Kd.V_slice (hF.V (b := 0) (e := 0))
 obtain ⟨A1, c1, rfl, -⟩ := Kd.Q_slice hQ
 replace HX := am ((HX _).out rfl)
 have HL1 := am hl1
 generalize hb3 : w1.heap.size = b3 at HX HL1
 clear hF hQ hR hI1 hB1 hK1 BK2 hP hlb hb1 h1 hI hB hl1
 go_wp2_with fail
 go_loopg [4] 14 (fun kq v4 W => ∃ (i n : Nat) (fl : List S73) (dk : List Int) (p : Int) (v0 v1 : Value), v4 = .int .i64 (i : Int) ∧ Aside0 (kq + i = 14) ∧ Aside0 (n + i = 12) ∧ Aside0 (spec_l71Full.l k s0_0 n fl dk p = some (r1, r2, r3)) ∧ Aside0 (FullI w0 w g b3 s0_0 p v0 v1 fl dk W))
 case atStart => exact ⟨0, 12, fl0, dk0, p1, _, _, rfl, ⟨rfl⟩, ⟨rfl⟩, HH, HX⟩
 case round =>
  clear HH HX
  obtain ⟨i, n, fl, dk, p, v0, v1, rfl, HK, HN, HH, HX⟩ := hrel
  obtain ⟨A0, c0, rfl⟩ := Kd.V_slice HX.out.hV
  obtain ⟨A1, c1, rfl, -⟩ := Kd.Q_slice HX.out.hQ
  cases n with
  | zero =>
   have h := HH.out
   rw [spec_l71Full.l] at h
   obtain ⟨rfl, rfl, rfl⟩ : fl = r1 ∧ dk = r2 ∧ p = r3 := by
    have e := Prod.mk.inj (Option.some.inj h)
    exact ⟨e.1, Prod.mk.inj e.2⟩
   have cic : ¬ ((i : Int) < 12) := by have := HN.out; omega
   have cib := decide_eq_false cic
   clear HH HK HN h
   have hz0 := (blk_cell HX.out.b3 0).trans rfl
   have hz1 := (blk_cell HX.out.b3 1).trans rfl
   have hy0 := (blk_cell HX.out.b2 0).trans rfl
   have hy1 := (blk_cell HX.out.b2 1).trans rfl
   have hx0 := blk_frozen HX.out.b3 0
   have hx1 := blk_frozen HX.out.b3 1
   have hw0 := blk_frozen HX.out.b2 0
   have hw1 := blk_frozen HX.out.b2 1
   have hne := Nat.ne_of_gt HL1.out
   have hne' := Nat.ne_of_lt HL1.out
   go_wp2
   refine bodyPost_ret (results_cell_row rfl _ _ w.heap.size 26 #[.slice A0 fl.length c0, .slice A1 dk.length c1] (0, 0) _ rfl (blk_put (cs := #[.slice A0 fl.length c0, .slice none 0 0]) (blk_put (cs := #[.slice none 0 0, .slice none 0 0]) HX.out.b2 0 _ rfl) 1 _ rfl) Try.underlying26 rfl (by kernel_rfl)) rfl ?_
   exact ⟨_, _, rfl, HX.out.out HL0.out hgl⟩
  | succ n =>
   have h := HH.out
   rw [spec_l71Full.l] at h
   obtain ⟨ok, hok, h⟩ := Option.bind_eq_some_iff.1 h
   have cic : (i : Int) < 12 := by have := HN.out; omega
   have cib := decide_eq_true cic
   replace HH := am h
   clear h
   have hz0 := (blk_cell HX.out.b3 0).trans rfl
   have hz1 := (blk_cell HX.out.b3 1).trans rfl
   have hy0 := (blk_cell HX.out.b2 0).trans rfl
   have hy1 := (blk_cell HX.out.b2 1).trans rfl
   have hx0 := blk_frozen HX.out.b3 0
   have hx1 := blk_frozen HX.out.b3 1
   have hw0 := blk_frozen HX.out.b2 0
   have hw1 := blk_frozen HX.out.b2 1
   have hne := Nat.ne_of_gt HL1.out
   have hne' := Nat.ne_of_lt HL1.out
   go_wp2_with fail
   refine (spec_StoreOk.calls k A0 c0 fl A1 c1 dk ok _ (Kd.V_reads' HX.out.hV).2.2 (Kd.V_reads' HX.out.hV).2.1 (Kd.Q_reads' HX.out.hQ).2.2 (Kd.Q_reads' HX.out.hQ).2.1 hok).mono ?_
   rintro e W2 ⟨rfl, hb⟩
   replace HX := am (HX.out.below hb)
   clear hb hok hz0 hz1 hy0 hy1 hx0 hx1 hw0 hw1 hne hne'
   have h := HH.out
   clear HH
   cases ok with
   | false =>
    rw [if_neg (by decide)] at h
    obtain ⟨rfl, rfl, rfl⟩ : fl = r1 ∧ dk = r2 ∧ p = r3 := by
     have e := Prod.mk.inj (Option.some.inj h)
     exact ⟨e.1, Prod.mk.inj e.2⟩
    clear h
    have hz0 := (blk_cell HX.out.b3 0).trans rfl
    have hz1 := (blk_cell HX.out.b3 1).trans rfl
    have hy0 := (blk_cell HX.out.b2 0).trans rfl
    have hy1 := (blk_cell HX.out.b2 1).trans rfl
    have hx0 := blk_frozen HX.out.b3 0
    have hx1 := blk_frozen HX.out.b3 1
    have hw0 := blk_frozen HX.out.b2 0
    have hw1 := blk_frozen HX.out.b2 1
    have hne := Nat.ne_of_gt HL1.out
    have hne' := Nat.ne_of_lt HL1.out
    go_wp2
    refine bodyPost_ret (results_cell_row rfl _ _ w.heap.size 26 #[.slice A0 fl.length c0, .slice A1 dk.length c1] (0, 0) _ rfl (blk_put (cs := #[.slice A0 fl.length c0, .slice none 0 0]) (blk_put (cs := #[.slice none 0 0, .slice none 0 0]) HX.out.b2 0 _ rfl) 1 _ rfl) Try.underlying26 rfl (by kernel_rfl)) rfl ?_
    exact ⟨_, _, rfl, HX.out.out HL0.out hgl⟩
   | true =>
    rw [if_pos rfl] at h
    obtain ⟨⟨q, p2⟩, hq, h⟩ := Option.bind_eq_some_iff.1 h
    have HH := am h
    clear h
    go_wp2_with fail
    refine (spec_l6Rd_pick.calls k g s0_0 p 8 q p2 w0 _ HX.out.hI HX.out.hB hq).mono ?_
    rintro e W3 ⟨rfl, hI_, hB_, hK_⟩
    replace HX := am (HX.out.pick hgl HL1.out hI_ hB_ hK_)
    clear hI_ hB_ hK_ hq
    have h := HH.out
    clear HH
    by_cases hq0 : q > 0
    rotate_left
    · replace h := (if_neg hq0).symm.trans h
      obtain ⟨rfl, rfl, rfl⟩ : fl = r1 ∧ dk = r2 ∧ p2 = r3 := by
       have e := Prod.mk.inj (Option.some.inj h)
       exact ⟨e.1, Prod.mk.inj e.2⟩
      have hqb := decide_eq_false hq0
      clear h
      have hz0 := (blk_cell HX.out.b3 0).trans rfl
      have hz1 := (blk_cell HX.out.b3 1).trans rfl
      have hy0 := (blk_cell HX.out.b2 0).trans rfl
      have hy1 := (blk_cell HX.out.b2 1).trans rfl
      have hx0 := blk_frozen HX.out.b3 0
      have hx1 := blk_frozen HX.out.b3 1
      have hw0 := blk_frozen HX.out.b2 0
      have hw1 := blk_frozen HX.out.b2 1
      have hne := Nat.ne_of_gt HL1.out
      have hne' := Nat.ne_of_lt HL1.out
      go_wp2
      refine bodyPost_ret (results_cell_row rfl _ _ w.heap.size 26 #[.slice A0 fl.length c0, .slice A1 dk.length c1] (0, 0) _ rfl (blk_put (cs := #[.slice A0 fl.length c0, .slice none 0 0]) (blk_put (cs := #[.slice none 0 0, .slice none 0 0]) HX.out.b2 0 _ rfl) 1 _ rfl) Try.underlying26 rfl (by kernel_rfl)) rfl ?_
      exact ⟨_, _, rfl, HX.out.out HL0.out hgl⟩
    replace h := (if_pos hq0).symm.trans h
    have hqb := decide_eq_true hq0
    by_cases hg2 : flFine fl = true ∧ dk.length = 6
    rotate_left
    · cases (if_neg hg2).symm.trans h
    replace h := (if_pos hg2).symm.trans h
    have HG := am hg2
    clear hg2
    obtain ⟨⟨o1, o2⟩, ho, h⟩ := Option.bind_eq_some_iff.1 h
    have HH := am h
    clear h
    have hz0 := (blk_cell HX.out.b3 0).trans rfl
    have hz1 := (blk_cell HX.out.b3 1).trans rfl
    have hy0 := (blk_cell HX.out.b2 0).trans rfl
    have hy1 := (blk_cell HX.out.b2 1).trans rfl
    have hx0 := blk_frozen HX.out.b3 0
    have hx1 := blk_frozen HX.out.b3 1
    have hw0 := blk_frozen HX.out.b2 0
    have hw1 := blk_frozen HX.out.b2 1
    have hne := Nat.ne_of_gt HL1.out
    have hne' := Nat.ne_of_lt HL1.out
    go_wp2_with fail
    refine (spec_l3Open.calls k A0 c0 fl o1 o2 _ (Kd.V_reads' HX.out.hV).2.2 (Kd.V_reads' HX.out.hV).2.1 ho).mono ?_
    rintro e W4 ⟨rfl, hb⟩
    replace HX := am (HX.out.below hb)
    clear hb ho hz0 hz1 hy0 hy1 hx0 hx1 hw0 hw1 hne hne'
    have h := HH.out
    clear HH
    cases o2 with
    | false =>
     replace h := (if_neg (show ¬ (false = true) by decide)).symm.trans h
     obtain ⟨rfl, rfl, rfl⟩ : fl = r1 ∧ dk = r2 ∧ p2 = r3 := by
      have e := Prod.mk.inj (Option.some.inj h)
      exact ⟨e.1, Prod.mk.inj e.2⟩
     clear h
     have hz0 := (blk_cell HX.out.b3 0).trans rfl
     have hz1 := (blk_cell HX.out.b3 1).trans rfl
     have hy0 := (blk_cell HX.out.b2 0).trans rfl
     have hy1 := (blk_cell HX.out.b2 1).trans rfl
     have hx0 := blk_frozen HX.out.b3 0
     have hx1 := blk_frozen HX.out.b3 1
     have hw0 := blk_frozen HX.out.b2 0
     have hw1 := blk_frozen HX.out.b2 1
     have hne := Nat.ne_of_gt HL1.out
     have hne' := Nat.ne_of_lt HL1.out
     go_wp2
     refine bodyPost_ret (results_cell_row rfl _ _ w.heap.size 26 #[.slice A0 fl.length c0, .slice A1 dk.length c1] (0, 0) _ rfl (blk_put (cs := #[.slice A0 fl.length c0, .slice none 0 0]) (blk_put (cs := #[.slice none 0 0, .slice none 0 0]) HX.out.b2 0 _ rfl) 1 _ rfl) Try.underlying26 rfl (by kernel_rfl)) rfl ?_
     exact ⟨_, _, rfl, HX.out.out HL0.out hgl⟩
    | true =>
     replace h := (if_pos rfl).symm.trans h
     obtain ⟨⟨a, p3⟩, ha, h⟩ := Option.bind_eq_some_iff.1 h
     obtain ⟨⟨b, p4⟩, hb, h⟩ := Option.bind_eq_some_iff.1 h
     obtain ⟨⟨fl2, dk2⟩, hd, h⟩ := Option.bind_eq_some_iff.1 h
     have HH := am h
     clear h
     go_wp2_with fail
     have hHeld0 : W4.drew.cell? ⟨b3, 0, none⟩ = some (.slice A0 fl.length c0) ∧ W4.drew.cell? ⟨b3, 1, none⟩ = some (.slice A1 dk.length c1) := ⟨(blk_cell HX.out.b3 0).trans rfl, (blk_cell HX.out.b3 1).trans rfl⟩
     replace HX := am HX.out.drew
     refine start_ (n := 9) (S := fun W => W.cell? ⟨b3, 0, none⟩ = some (.slice A0 fl.length c0) ∧ W.cell? ⟨b3, 1, none⟩ = some (.slice A1 dk.length c1)) (ds := [8]) (bt 9 0) (by kernel_rfl) rfl rfl hHeld0 (fun hHeld => ?_)
     refine with_tabW spec_l71Full.tab8 spec_l71Full.bits8 (fun HT_ HW_ => ?_)
     generalize W4.drew = W5 at HX hHeld ⊢
     clear hHeld0
     refine qm 0 31 (bt 9 1) rfl rfl HT_.out HW_.out hHeld ?_
     refine qj 1 32 (bt 9 3) rfl rfl HT_.out ?_
     refine qj 4 35 (bt 9 19) rfl rfl HT_.out ?_
     refine qo 2 (some 33) (bt 9 23) rfl rfl HT_.out fun K hK => ?_
     refine qg Try.func14 #[.pointer (some ⟨g, 0, none⟩), .int .i64 6] rfl rfl ?_
     refine (spec_l6Rd_pick.calls k g s0_0 p2 6 a p3 w0 _ HX.out.hI HX.out.hB ha).mono ?_
     rintro e W6 ⟨rfl, hI_, hB_, hK_⟩
     refine ⟨_, rfl, ?_⟩
     replace HX := am (HX.out.pick hgl HL1.out hI_ hB_ hK_)
     clear hI_ hB_ hK_
     refine hK.out _ _ ⟨(blk_cell HX.out.b3 0).trans rfl, (blk_cell HX.out.b3 1).trans rfl⟩ (fun hHeld => ?_)
     clear hK K
     refine qn (some 33) ?_
     refine qj 3 34 (bt 9 31) rfl rfl HT_.out ?_
     refine qo 5 (some 36) (bt 9 63) rfl rfl HT_.out fun K hK => ?_
     refine qg Try.func14 #[.pointer (some ⟨g, 0, none⟩), .int .i64 10] rfl rfl ?_
     refine (spec_l6Rd_pick.calls k g s0_0 p3 10 b p4 w0 _ HX.out.hI HX.out.hB hb).mono ?_
     rintro e W7 ⟨rfl, hI_, hB_, hK_⟩
     refine ⟨_, rfl, ?_⟩
     replace HX := am (HX.out.pick hgl HL1.out hI_ hB_ hK_)
     clear hI_ hB_ hK_
     refine hK.out _ _ ⟨(blk_cell HX.out.b3 0).trans rfl, (blk_cell HX.out.b3 1).trans rfl⟩ (fun hHeld => ?_)
     clear hK K
     refine qn (some 36) ?_
     refine qj 6 37 (bt 9 127) rfl rfl HT_.out ?_
     refine qo 7 (some 38) (bt 9 255) rfl rfl HT_.out fun K hK => ?_
     refine qg Try.func28 #[.agg #[.slice A0 fl.length c0, .slice A1 dk.length c1], .agg #[.int .i64 1, .int .i64 (wrap64 (1 + a)), .int .i64 b, .int .i64 9, .bool false]] rfl rfl ?_
     refine (spec_l21Do.calls k (fun k => w.heap.size < k ∧ k ≠ b3) _ fl (fun k => w.heap.size < k ∧ k ≠ b3) _ dk 1 (wrap64 (1 + a)) b 9 false fl2 dk2 w0 _ HX.out.hB (HX.out.hS HG.out.1) (HX.out.hR HG.out.2) hd).mono ?_
     rintro e W8 ⟨u0, u1, rfl, hS8, hR8, hb8, hk8⟩
     refine ⟨_, rfl, ?_⟩
     have hX8 := HX.out.put HL0.out hgl HL1.out hS8 hR8 hb8 hk8
     have hb3 := blk_kept HX.out.b3 hk8 (fun hs => by rcases hs with hs | hs <;> exact hs.2 rfl)
     obtain ⟨A2, c2, rfl⟩ := Kd.S_slice hS8
     obtain ⟨A3, c3, rfl⟩ := Kd.R_slice hR8
     have HX8 := am hX8
     refine hK.out _ _ ⟨(blk_cell hb3 0).trans rfl, (blk_cell hb3 1).trans rfl⟩ (fun hHeld => ?_)
     clear hK K HX hX8 hS8 hR8 hb8 hk8
     refine qn (some 38) ?_
     refine last_ (i := 8) (N := none) (bt 9 511) rfl rfl (one_of HT_.out (by kernel_rfl)) (by decide) (fun K hK => ?_)
     have hf0 := blk_frozen hb3 0
     have hf1 := blk_frozen hb3 1
     obtain ⟨hc0, hc1⟩ := hHeld
     refine qs rfl ?_
     refine hK.out _ _ ?_
     clear hK K hb3 hf0 hf1 hc0 hc1
     refine done_ (done_of HT_.out (by kernel_rfl)) ?_
     clear HT_ HW_
     generalize ((W8.setCell ⟨b3, 0, none⟩ (.slice A2 fl2.length c2)).setCell ⟨b3, 1, none⟩ (.slice A3 dk2.length c3)) = W9 at HX8 ⊢
     have hw14 : wrap64 ((i : Int) + 1) = ((i + 1 : Nat) : Int) := by rw [IntWalk.wrap64_in _ (by have := HN.out; omega)]; omega
     obtain ⟨k1, rfl⟩ : ∃ k, gk = k + 1 := by
      have := HK.out
      have := HN.out
      exact ⟨gk - 1, by omega⟩
     go_wp2
     go_roundg k1
     case measure => have := HK.out; omega
     case rel => exact ⟨i + 1, n, fl2, dk2, p4, _, _, by first | rfl | (simp; done) | (simp [hw14]; done), ⟨by have := HK.out; omega⟩, ⟨by have := HN.out; omega⟩, HH, HX8⟩
def spec_StoreDirty.l0 : Nat → List Int → Int → List (S73) → List Int → Option (List Int)
 | 0, _, _, _, _ => none
 | k + 1, x3, x4, x360000, x360001 => if x4 ≤ 6 then ((spec_l11Dirty.f k x360000 x360001 x4).bind fun t364 => (if t364 = true then (if x3.length < 17592186044416 then (spec_StoreDirty.l0 k (x3 ++ [x4]) (wrap64 (x4 + 1)) x360000 x360001) else (none)) else (spec_StoreDirty.l0 k x3 (wrap64 (x4 + 1)) x360000 x360001))) else (some x3)
def spec_StoreDirty.f (k : Nat) (l0_0 : List (S73)) (l0_1 : List Int) : Option (List Int) := (some (([] : List Int) : List Int)).bind fun y360 => ((spec_StoreOk.f k l0_0 l0_1).bind fun t363 => (if t363 = true then (spec_StoreDirty.l0 k y360 1 l0_0 l0_1) else (some y360)))
theorem spec_StoreDirty.calls (k : Nat) (A0_0 : Option Addr) (c0_0 : Nat) (l0_0 : List (S73)) (A0_1 : Option Addr) (c0_1 : Nat) (l0_1 : List Int) (r : List Int) (w : World) (hr0_0 : Kd.C k73 w A0_0 l0_0.length l0_0) (hc0_0 : l0_0.length ≤ c0_0) (hr0_1 : Kd.C (Kd.int .i64) w A0_1 l0_1.length l0_1) (hc0_1 : l0_1.length ≤ c0_1) (h : spec_StoreDirty.f k l0_0 l0_1 = some r) :
 Calls Try.prog 13 #[.agg #[.slice A0_0 l0_0.length c0_0, .slice A0_1 l0_1.length c0_1]] w fun e w' => ∃ v0_ : Value, e = .returned (v0_) ∧ Kd.R (Kd.int .i64) 3 w' w.heap.size (fun _ => True) v0_ r ∧ Below w.heap.size w w' := by
 have hu26 := Try.underlying26
 have HR0_0 := am hr0_0
 have HC0_0 := am hc0_0
 clear hr0_0 hc0_0
 have HR0_1 := am hr0_1
 have HC0_1 := am hc0_1
 clear hr0_1 hc0_1
 have HB := am (Below.refl w.heap.size w)
 have H : ((some (([] : List Int) : List Int)).bind fun y360 => ((spec_StoreOk.f k l0_0 l0_1).bind fun t363 => (if t363 = true then (spec_StoreDirty.l0 k y360 1 l0_0 l0_1) else (some y360)))) = some r := h
 clear h
 obtain ⟨y360, hy360⟩ : ∃ y_ : List Int, y_ = (([] : List Int)) := ⟨_, rfl⟩
 replace H : ((spec_StoreOk.f k l0_0 l0_1).bind fun t363 => (if t363 = true then (spec_StoreDirty.l0 k y360 1 l0_0 l0_1) else (some y360))) = some r := yy hy360 H
 have Ny360 := am hy360
 clear hy360
 replace H := Option.bind_eq_some_iff.mp H
 obtain ⟨t363, A20, H⟩ := H
 have A2 := am A20
 clear A20
 by_cases c3 : t363 = true
 rotate_left
 · replace c3 := Bool.eq_false_iff.mpr c3
   subst c3
   rw [if_neg (show ¬ (false = true) by decide)] at H
   obtain rfl := Option.some.inj H
   go_enter Try.func13, Try.ntmps13
   go_wp2_with (first | (refine bx 1 #[.slice A0_0 l0_0.length c0_0, .slice A0_1 l0_1.length c0_1] 26 rfl ?_; intro gb359 hg w18 hbox hb; have BK359 := am (hbox); have GW359 := am (ge hg (ph HB.out)); have GE359 := GW359; replace HB := am (below_step (ph HB.out) hb); clear hb hbox hg) | ((with_reducible refine gate_dst (N := 5) rfl ?_); refine Kd.R_lit (Kd.int .i64) _ 3 ?hg (N := 5) ?hd (xs := ([] : List Int)) (inner := []) (ok := fun _ => True) (okp := fun _ => True) ?hr ?hp (fun _ hk => hk) trivial (Below.refl _ _) (Nat.le_refl _) (by simp) ?_; (case hd => rfl); (case hg => rfl); (case hr => first | (go_simp; done) | (go_simp; rfl)); (case hp => exact (Reps.none _ _)); intro v361 w19 ho20 hb hg_ hnew_; clear hg_ hnew_; (first | rw [← Ny360.out] at ho20 | (simp only [Int.reduceToNat] at ho20; rw [← Ny360.out] at ho20)); have HO362 := am (Kd.R_lower ho20 (below_size (bg1 HB.out GE359.out))); replace BK359 := am (blk_below (pb BK359.out) hb); replace HB := am (below_step (bg1 HB.out GE359.out) hb); clear hb ho20; obtain ⟨hcz21_0, hcz21_1⟩ := b2 BK359.out; obtain ⟨hfz21_0, hfz21_1⟩ := f2 BK359.out) | (refine gl 7 Try.func7 #[.agg #[.slice A0_0 l0_0.length c0_0, .slice A0_1 l0_1.length c0_1]] rfl ?_; (with_reducible refine (spec_StoreOk.calls k _ _ l0_0 _ _ l0_1 false _ ?side1 ?side2 ?side3 ?side4 A2.out).mono ?_); (case side1 => exact pc (Kd.C_below HR0_0.out HB.out)); (case side2 => exact HC0_0.out); (case side3 => exact pc (Kd.C_below HR0_1.out HB.out)); (case side4 => exact HC0_1.out); rintro e w22 ⟨rfl, hb⟩; refine ⟨_, rfl, ?_⟩; replace HO362 := am (Kd.R_below (pr HO362.out) hb); replace BK359 := am (blk_below (pb BK359.out) hb); replace HB := am (below_step (bg1 HB.out GE359.out) hb); clear hb))
   go_ret
   exact ⟨_, rq ⟨pr HO362.out, bg1 HB.out GE359.out⟩⟩
 subst c3
 rw [if_pos rfl] at H
 have H' := am H
 clear H
 go_enter Try.func13, Try.ntmps13
 go_wp2_with (first | (refine bx 1 #[.slice A0_0 l0_0.length c0_0, .slice A0_1 l0_1.length c0_1] 26 rfl ?_; intro gb359 hg w4 hbox hb; have BK359 := am (hbox); have GW359 := am (ge hg (ph HB.out)); have GE359 := GW359; replace HB := am (below_step (ph HB.out) hb); clear hb hbox hg) | ((with_reducible refine gate_dst (N := 5) rfl ?_); refine Kd.R_lit (Kd.int .i64) _ 3 ?hg (N := 5) ?hd (xs := ([] : List Int)) (inner := []) (ok := fun _ => True) (okp := fun _ => True) ?hr ?hp (fun _ hk => hk) trivial (Below.refl _ _) (Nat.le_refl _) (by simp) ?_; (case hd => rfl); (case hg => rfl); (case hr => first | (go_simp; done) | (go_simp; rfl)); (case hp => exact (Reps.none _ _)); intro v361 w5 ho6 hb hg_ hnew_; clear hg_ hnew_; (first | rw [← Ny360.out] at ho6 | (simp only [Int.reduceToNat] at ho6; rw [← Ny360.out] at ho6)); have HO362 := am (Kd.R_lower ho6 (below_size (bg1 HB.out GE359.out))); replace BK359 := am (blk_below (pb BK359.out) hb); replace HB := am (below_step (bg1 HB.out GE359.out) hb); clear hb ho6; obtain ⟨hcz7_0, hcz7_1⟩ := b2 BK359.out; obtain ⟨hfz7_0, hfz7_1⟩ := f2 BK359.out) | (refine gl 7 Try.func7 #[.agg #[.slice A0_0 l0_0.length c0_0, .slice A0_1 l0_1.length c0_1]] rfl ?_; (with_reducible refine (spec_StoreOk.calls k _ _ l0_0 _ _ l0_1 true _ ?side1 ?side2 ?side3 ?side4 A2.out).mono ?_); (case side1 => exact pc (Kd.C_below HR0_0.out HB.out)); (case side2 => exact HC0_0.out); (case side3 => exact pc (Kd.C_below HR0_1.out HB.out)); (case side4 => exact HC0_1.out); rintro e w8 ⟨rfl, hb⟩; refine ⟨_, rfl, ?_⟩; replace HO362 := am (Kd.R_below (pr HO362.out) hb); replace BK359 := am (blk_below (pb BK359.out) hb); replace HB := am (below_step (bg1 HB.out GE359.out) hb); clear hb))
 go_loopg [3, 4] k (fun kq v3 v4 w' => ∃ (x3_1 : List Int) (x4_1 : Int), v4 = .int .i64 x4_1 ∧ Aside0 (spec_StoreDirty.l0 kq x3_1 x4_1 l0_0 l0_1 = some r) ∧ Aside0 (kq ≤ k) ∧ Aside0 (Kd.R (Kd.int .i64) 3 w' w.heap.size (fun _ => True) v3 x3_1) ∧ Aside0 (w'.heap[gb359]? = some (.cells #[(.slice A0_0 l0_0.length c0_0), (.slice A0_1 l0_1.length c0_1)] 26 (0, 0))) ∧ Aside0 (Below w.heap.size w w'))
 case atStart => exact ⟨(y360), (1), rf, H', ⟨Nat.le_refl _⟩, ⟨pr HO362.out⟩, ⟨pb BK359.out⟩, ⟨bg1 HB.out GE359.out⟩⟩
 case round =>
  clear H'
  obtain ⟨x3_1, x4_1, rfl, HA, HK1, HO_3, BK359, HB⟩ := hrel
  cases gk with
  | zero => exact absurd HA.out (by simp [spec_StoreDirty.l0])
  | succ k1 =>
   have H := HA.out
   clear HA
   simp only [spec_StoreDirty.l0] at H
   by_cases c9 : x4_1 ≤ 6
   rotate_left
   · rw [if_neg c9] at H
     have c9b0 := decide_eq_false c9
     clear c9
     obtain rfl := Option.some.inj H
     go_wp2
     go_ret
     exact ⟨_, rq ⟨pr HO_3.out, bg1 HB.out GE359.out⟩⟩
   rw [if_pos c9] at H
   have c9b0 := decide_eq_true c9
   clear c9
   replace H := Option.bind_eq_some_iff.mp H
   obtain ⟨t364, A100, H⟩ := H
   have A10 := am A100
   clear A100
   by_cases c11 : t364 = true
   rotate_left
   · replace c11 := Bool.eq_false_iff.mpr c11
     subst c11
     rw [if_neg (show ¬ (false = true) by decide)] at H
     have H' := am H
     clear H
     obtain ⟨hcz16_0, hcz16_1⟩ := b2 BK359.out
     obtain ⟨hfz16_0, hfz16_1⟩ := f2 BK359.out
     go_wp2_with (first | (refine gl 16 Try.func29 #[.agg #[.slice A0_0 l0_0.length c0_0, .slice A0_1 l0_1.length c0_1], .int .i64 x4_1] rfl ?_; (with_reducible refine (spec_l11Dirty.calls k1 _ _ l0_0 _ _ l0_1 x4_1 false _ ?side1 ?side2 ?side3 ?side4 A10.out).mono ?_); (case side1 => exact pc (Kd.C_below HR0_0.out HB.out)); (case side2 => exact HC0_0.out); (case side3 => exact pc (Kd.C_below HR0_1.out HB.out)); (case side4 => exact HC0_1.out); rintro e w17 ⟨rfl, hb⟩; refine ⟨_, rfl, ?_⟩; replace HO_3 := am (Kd.R_below (pr HO_3.out) hb); replace BK359 := am (blk_below (pb BK359.out) hb); replace HB := am (below_step (bg1 HB.out GE359.out) hb); clear hb))
     go_roundg k1
     case measure => have := HK1.out; omega
     case rel => exact ⟨(x3_1), (wrap64 (x4_1 + 1)), rf, H', ⟨by have := HK1.out; omega⟩, ⟨pr HO_3.out⟩, ⟨pb BK359.out⟩, ⟨bg1 HB.out GE359.out⟩⟩
   subst c11
   rw [if_pos rfl] at H
   by_cases c12 : x3_1.length < 17592186044416
   rotate_left
   · rw [if_neg c12] at H
     exact absurd H (by simp)
   rw [if_pos c12] at H
   have LMc12 := am c12
   clear c12
   obtain ⟨y365, hy365⟩ : ∃ y_ : List Int, y_ = (x3_1 ++ [x4_1]) := ⟨_, rfl⟩
   replace H : (spec_StoreDirty.l0 k1 y365 (wrap64 (x4_1 + 1)) l0_0 l0_1) = some r := yy hy365 H
   have Ny365 := am hy365
   clear hy365
   have H' := am H
   clear H
   obtain ⟨hcz13_0, hcz13_1⟩ := b2 BK359.out
   obtain ⟨hfz13_0, hfz13_1⟩ := f2 BK359.out
   go_wp2_with (first | (refine gl 16 Try.func29 #[.agg #[.slice A0_0 l0_0.length c0_0, .slice A0_1 l0_1.length c0_1], .int .i64 x4_1] rfl ?_; (with_reducible refine (spec_l11Dirty.calls k1 _ _ l0_0 _ _ l0_1 x4_1 true _ ?side1 ?side2 ?side3 ?side4 A10.out).mono ?_); (case side1 => exact pc (Kd.C_below HR0_0.out HB.out)); (case side2 => exact HC0_0.out); (case side3 => exact pc (Kd.C_below HR0_1.out HB.out)); (case side4 => exact HC0_1.out); rintro e w14 ⟨rfl, hb⟩; refine ⟨_, rfl, ?_⟩; replace HO_3 := am (Kd.R_below (pr HO_3.out) hb); replace BK359 := am (blk_below (pb BK359.out) hb); replace HB := am (below_step (bg1 HB.out GE359.out) hb); clear hb) | ((with_reducible refine gate_builtin (b := .append) (xs := #[.tmp 17, .tmp 19]) rfl ?_); at_builtin; refine Kd.R_append (Kd.int .i64) (w0 := w) w.heap.size rfl (.tmp 17) (.tmp 19) 24 3 (.int .i64 0) 8 rfl Try.underlying24 info3 rfl (by decide) (by omega) u3 x3_1 x4_1 [.int .i64 x4_1] (fun _ => True) (fun _ => False) rfl rfl ?aP (fun _ hk => hk.elim) ?aF ?aO ?aB ?aS ?aL ?_; (case aP => exact rfl); (case aB => exact (bg1 HB.out GE359.out)); (case aF => exact (fun _ _ => trivial)); (case aO => exact (pr HO_3.out)); (case aS => exact (below_size (bg1 HB.out GE359.out))); (case aL => have := LMc12.out; omega); intro v366 w15 ho hb hg hat; rw [← Ny365.out] at ho; replace BK359 := am (blk_grown (g := gb359) (o := .cells #[.slice A0_0 l0_0.length c0_0, .slice A0_1 l0_1.length c0_1] 26 (0, 0)) (pb BK359.out) hg (Kd.R_ne HO_3.out BK359.out (by decide))); replace HB := am (hb); have HO367 := am (ho); clear HO_3; clear ho hb hg hat))
   go_roundg k1
   case measure => have := HK1.out; omega
   case rel => exact ⟨(y365), (wrap64 (x4_1 + 1)), rf, H', ⟨by have := HK1.out; omega⟩, ⟨pr HO367.out⟩, ⟨pb BK359.out⟩, ⟨bg1 HB.out GE359.out⟩⟩
def spec_DrawStepsFlush.j0 : Nat → List Int → Bool → List Int → Int → List (S73) → List Int → Option ((List (S73)) × List Int × Int)
 | 0, _, _, _, _, _, _ => none
 | k + 1, x6, x20, x372000, x372001, x380000, x380001 => if x20 = true then ((spec_l6Rd_pick.f k x372000 x372001 (x6.length : Int)).bind fun bt385 => (if 0 ≤ bt385.1 then (if bt385.1 < (x6.length : Int) then (some (x380000, x380001, rd x6 bt385.1)) else (none)) else (none))) else ((spec_l6Rd_pick.f k x372000 x372001 6).bind fun bt388 => ((spec_l6Rd_pick.f k x372000 bt388.2 24).bind fun bt390 => (some (x380000, x380001, wrap64 ((wrap64 (1 + bt388.1)) + (wrap64 ((wrap64 (Int.tdiv bt390.1 23)) * 6)))))))
def spec_DrawStepsFlush.f (k : Nat) (l0 : List Int) : Option ((List (S73)) × List Int × Int) := (spec_l6Open.f l0).bind fun bt369 => ((spec_l71Full.f k bt369.1 bt369.2).bind fun bt372 => ((spec_StoreDirty.f k bt372.1 bt372.2.1).bind fun t380 => (if (t380.length : Int) > 0 then ((spec_l6Rd_pick.f k bt369.1 bt372.2.2 6).bind fun bt383 => (spec_DrawStepsFlush.j0 k t380 (decide (bt383.1 > 0)) bt369.1 bt383.2 bt372.1 bt372.2.1)) else (spec_DrawStepsFlush.j0 k t380 false bt369.1 bt372.2.2 bt372.1 bt372.2.1))))
def spec_DrawStepsFlush.T5 : Bool × List (List Nat × List Nat) := (true, [([], []), ([], []), ([], []), ([], []), ([3], [3]), ([2, 4], [2, 4]), ([1, 5], [1, 5]), ([6], [6]), ([0, 5, 0], [0]), ([7, 8, 0, 1, 2, 3, 4, 5, 6, 7, 8], [7])])
def spec_DrawStepsFlush.B5 : List Nat := [0, 0, 0, 0, 8, 28, 62, 126, 61, 511]
theorem spec_DrawStepsFlush.tab5 : rtab .any (opsOf Try.f4 5) = spec_DrawStepsFlush.T5 := by kernel_rfl
theorem spec_DrawStepsFlush.bits5 : waitsOk spec_DrawStepsFlush.T5.2 spec_DrawStepsFlush.B5 = true := by kernel_rfl
def spec_DrawStepsFlush.T6 : Bool × List (List Nat × List Nat) := (true, [([], []), ([], []), ([1], [1]), ([2], [2]), ([], []), ([4, 2], [4]), ([5], [5]), ([6], [6]), ([3, 7], [3, 7]), ([0, 5, 0], [0]), ([8, 9, 0, 1, 2, 3, 4, 5, 6, 7, 8, 9], [8])])
def spec_DrawStepsFlush.B6 : List Nat := [0, 0, 2, 6, 0, 22, 54, 118, 254, 55, 1023]
theorem spec_DrawStepsFlush.tab6 : rtab .any (opsOf Try.f4 6) = spec_DrawStepsFlush.T6 := by kernel_rfl
theorem spec_DrawStepsFlush.bits6 : waitsOk spec_DrawStepsFlush.T6.2 spec_DrawStepsFlush.B6 = true := by kernel_rfl
theorem spec_DrawStepsFlush.calls (k : Nat) (A0 : Option Addr) (c0 : Nat) (l0 : List Int) (r1 : List (S73)) (r2 : List Int) (r3 : Int) (w : World) (hr0 : Kd.C (Kd.int .u8) w A0 l0.length l0) (hc0 : l0.length ≤ c0) (h : spec_DrawStepsFlush.f k l0 = some (r1, r2, r3)) :
 Calls Try.prog 4 #[.slice A0 l0.length c0] w fun e w' => ∃ v0_ v1_ : Value, e = .returned (.tuple #[.agg #[v0_, v1_], .int .i64 r3]) ∧ Kd.V k73 73 w' w.heap.size (fun k_ => (w.heap.size ≤ k_) ∧ some k_ ≠ (v1_ : Value).ownBlock) v0_ r1 ∧ Kd.Q (Kd.int .i64) 3 w' w.heap.size (fun k_ => (w.heap.size ≤ k_)) v1_ r2 ∧ Below w.heap.size w w' := by
 have hu26 := Try.underlying26
 have HR0 := am hr0
 have HC0 := am hc0
 clear hr0 hc0
 have HB := am (Below.refl w.heap.size w)
 have H : ((spec_l6Open.f l0).bind fun bt369 => ((spec_l71Full.f k bt369.1 bt369.2).bind fun bt372 => ((spec_StoreDirty.f k bt372.1 bt372.2.1).bind fun t380 => (if (t380.length : Int) > 0 then ((spec_l6Rd_pick.f k bt369.1 bt372.2.2 6).bind fun bt383 => (spec_DrawStepsFlush.j0 k t380 (decide (bt383.1 > 0)) bt369.1 bt383.2 bt372.1 bt372.2.1)) else (spec_DrawStepsFlush.j0 k t380 false bt369.1 bt372.2.2 bt372.1 bt372.2.1))))) = some (r1, r2, r3) := h
 clear h
 replace H := Option.bind_eq_some_iff.mp H
 obtain ⟨⟨t369, t370⟩, A20, H⟩ := H
 have A2 := am A20
 clear A20
 replace H := Option.bind_eq_some_iff.mp H
 obtain ⟨⟨t372, t375, t378⟩, A30, H⟩ := H
 have A3 := am A30
 clear A30
 replace H := Option.bind_eq_some_iff.mp H
 obtain ⟨t380, A40, H⟩ := H
 have A4 := am A40
 clear A40
 have HC5 := am H
 clear H
 go_enter Try.func4, Try.ntmps4
 go_upto_region 4 with (first | (refine bx 2 #[.slice none 0 0, .slice none 0 0] 26 rfl ?_; intro gb368 hg w6 hbox hb; have BK368 := am (hbox); have GW368 := am (ge hg (ph HB.out)); have GE368 := GW368; replace HB := am (below_step (ph HB.out) hb); clear hb hbox hg) | (refine gl 8 Try.func11 #[.slice A0 l0.length c0] rfl ?_; (with_reducible refine (spec_l6Open.calls _ _ l0 t369 t370 w _ ?side1 ?side2 ?side3 A2.out).mono ?_); (case side1 => exact bg1 HB.out GE368.out); (case side2 => exact HR0.out); (case side3 => exact HC0.out); rintro e w7 ⟨g371, rfl, hi, hb, hb2⟩; refine ⟨_, rfl, ?_⟩; replace HB := am (hb); have HI371 := am (hi); have NB371_368 := am (IsS56.ne_blk hi (blk_below (pb BK368.out) hb2) (by decide)); have NB368_371 := am (Ne.symm (IsS56.ne_blk hi (blk_below (pb BK368.out) hb2) (by decide))); replace BK368 := am (blk_below (pb BK368.out) hb2); clear hb hb2 hi) | (refine gl 10 Try.func12 #[.pointer (some ⟨g371, 0, none⟩)] rfl ?_; (with_reducible refine (spec_l71Full.calls k g371 t369 t370 t372 t375 t378 w _ ?side1 ?side2 A3.out).mono ?_); (case side1 => exact IsS56.g1 HI371.out NB371_368.out); (case side2 => exact bg2 HB.out (IsS56.ge HI371.out) GE368.out); rintro e w8 ⟨v373, v376, rfl, ho0, ho1, hi, hb, hk⟩; refine ⟨_, rfl, ?_⟩; have HO374 := am (Kd.V_lower (Kd.V_mono (ok' := fun k_ => (w.heap.size ≤ k_) ∧ some k_ ≠ (v376 : Value).ownBlock ∧ k_ ≠ gb368 ∧ k_ ≠ g371) ho0 (fun k_ hk_ => ⟨(Nat.le_trans (below_size (bg2 HB.out (IsS56.ge HI371.out) GE368.out)) hk_.1), hk_.2, (Kd.freshB (g := gb368) (o := .cells #[.slice none 0 0, .slice none 0 0] 26 (0, 0)) (pb BK368.out) k_ hk_.1), (IsS56.fresh (IsS56.g1 HI371.out NB371_368.out) k_ hk_.1)⟩)) (below_size (bg2 HB.out (IsS56.ge HI371.out) GE368.out))); replace BK368 := am (KeepBut.blk hk (pb BK368.out) NB368_371.out (by simp)); have HO377 := am (Kd.Q_lower (Kd.Q_newM (M := fun k_ => (w.heap.size ≤ k_)) (Kd.Q_mono (ok' := fun k_ => True) ho1 (fun _ hk_ => trivial)) (below_size (bg2 HB.out (IsS56.ge HI371.out) GE368.out)) (fun k_ h_ => h_)) (below_size (bg2 HB.out (IsS56.ge HI371.out) GE368.out))); replace HB := am (hb); replace HI371 := am (hi); clear hb hk hi ho0 ho1) | (refine bx 5 #[.slice none 0 0, .slice none 0 0] 26 rfl ?_; intro gb379 hg w9 hbox hb; replace HO374 := am (Kd.V_below (Kd.V_elderB (pv HO374.out) gb379 (Nat.le_of_eq hg.symm)) hb); replace HO377 := am (Kd.Q_below (pq HO377.out) hb); have BK379 := am (hbox); have GW379 := am ((by rw [hg]; exact (below_size (bg2 HB.out (IsS56.ge HI371.out) GE368.out)) : w.heap.size ≤ gb379)); have GE379 := GW379; replace HB := am (below_step (bg2 HB.out (IsS56.ge HI371.out) GE368.out) hb); have NB368_379 := am (nb hg (pb BK368.out)); have NB379_368 := am (Ne.symm NB368_379.out); replace BK368 := am (blk_below (pb BK368.out) hb); have NB371_379 := am ((by rw [hg]; exact Nat.ne_of_lt (IsS56.lt (show IsS56 w _ g371 t369 t378 from IsS56.g1 HI371.out NB371_368.out)) : g371 ≠ gb379)); have NB379_371 := am (Ne.symm NB371_379.out); replace HI371 := am (IsS56.below (IsS56.g1 HI371.out NB371_368.out) hb); clear hb hbox hg; obtain ⟨Ao10, co10, eo10⟩ := Kd.V_slice HO374.out; subst eo10; have hnb11 := NB379_368.out; have hnc11 := NB368_379.out; have hnb12 := NB379_371.out; have hnc12 := NB371_379.out; obtain ⟨hcz13_0, hcz13_1⟩ := b2 BK379.out; obtain ⟨hfz13_0, hfz13_1⟩ := f2 BK379.out; obtain ⟨Ao14, co14, eo14, _⟩ := Kd.Q_slice HO377.out; subst eo14) | (refine gl 12 Try.func13 #[.agg #[.slice Ao10 t372.length co10, .slice Ao14 t375.length co14]] rfl ?_; (with_reducible refine (spec_StoreDirty.calls k _ _ t372 _ _ t375 t380 _ ?side1 ?side2 ?side3 ?side4 A4.out).mono ?_); (case side1 => refine (Kd.V_reads' (e := 73) (base := w.heap.size) (ok := fun k_ => (((w.heap.size ≤ k_) ∧ (some k_ ≠ (.slice Ao14 t375.length co14 : Value).ownBlock ∧ (k_ ≠ gb368 ∧ k_ ≠ g371))) ∧ k_ ≠ gb379)) (n := t372.length) (c := co10) ?_).2.2; exact (pv ((Kd.V_mono (Kd.V_far (p := ⟨gb379, 1, none⟩) (Kd.V_far (p := ⟨gb379, 0, none⟩) (Kd.V_mono HO374.out (fun k_ hk => (⟨hk, hk.2⟩ : _ ∧ k_ ≠ gb379))) (fun _ hk => hk.2) (.slice Ao10 t372.length co10)) (fun _ hk => hk.2) (.slice Ao14 t375.length co14)) (fun _ h_ => h_.1))))); (case side2 => exact (Kd.V_reads' HO374.out).2.1); (case side3 => refine (Kd.Q_reads' (e := 3) (base := w.heap.size) (ok := fun k_ => ((w.heap.size ≤ k_) ∧ True)) (n := t375.length) (c := co14) ?_).2.2; exact (pq ((Kd.Q_mono (Kd.Q_far (p := ⟨gb379, 1, none⟩) (Kd.Q_far (p := ⟨gb379, 0, none⟩) (Kd.Q_types HO377.out BK379.out (by decide)) (fun _ hk => hk.2) (.slice Ao10 t372.length co10)) (fun _ hk => hk.2) (.slice Ao14 t375.length co14)) (fun _ h_ => h_.1))))); (case side4 => exact (Kd.Q_reads' HO377.out).2.1); rintro e w15 ⟨v381, rfl, ho0, hb⟩; refine ⟨_, rfl, ?_⟩; replace HO374 := am (Kd.V_elder' (pv ((Kd.V_mono (Kd.V_far (p := ⟨gb379, 1, none⟩) (Kd.V_far (p := ⟨gb379, 0, none⟩) (Kd.V_mono HO374.out (fun k_ hk => (⟨hk, hk.2⟩ : _ ∧ k_ ≠ gb379))) (fun _ hk => hk.2) (.slice Ao10 t372.length co10)) (fun _ hk => hk.2) (.slice Ao14 t375.length co14)) (fun _ h_ => h_.1)))) (Kd.R_base ho0) hb); have HO382 := am (Kd.R_lower (Kd.R_new' (Kd.R_newM (M := fun k_ => (w.heap.size ≤ k_)) ho0 (below_size (bg3 HB.out (IsS56.ge HI371.out) GE368.out GE379.out)) (fun k_ h_ => h_)) (Kd.Q_lt (pq ((Kd.Q_mono (Kd.Q_far (p := ⟨gb379, 1, none⟩) (Kd.Q_far (p := ⟨gb379, 0, none⟩) (Kd.Q_types HO377.out BK379.out (by decide)) (fun _ hk => hk.2) (.slice Ao10 t372.length co10)) (fun _ hk => hk.2) (.slice Ao14 t375.length co14)) (fun _ h_ => h_.1)))))) (below_size (bg3 HB.out (IsS56.ge HI371.out) GE368.out GE379.out))); replace HO377 := am (Kd.Q_elder' (pq ((Kd.Q_mono (Kd.Q_far (p := ⟨gb379, 1, none⟩) (Kd.Q_far (p := ⟨gb379, 0, none⟩) (Kd.Q_types HO377.out BK379.out (by decide)) (fun _ hk => hk.2) (.slice Ao10 t372.length co10)) (fun _ hk => hk.2) (.slice Ao14 t375.length co14)) (fun _ h_ => h_.1)))) (Kd.R_base ho0) hb); replace BK368 := am (blk_below (bf2 (pb BK368.out) NB368_379.out) hb); replace BK379 := am (blk_below (bp2 (pb BK379.out)) hb); replace HB := am (below_step (bg3 HB.out (IsS56.ge HI371.out) GE368.out GE379.out) hb); replace HI371 := am (IsS56.below (show IsS56 w ((w9.setCell ⟨gb379, 0, none⟩ (.slice Ao10 t372.length co10)).setCell ⟨gb379, 1, none⟩ (.slice Ao14 t375.length co14)) g371 t369 t378 from IsS56.g2 HI371.out NB371_368.out NB371_379.out) hb); clear hb ho0))
 (try simp only [Act.put, List.setIfInBounds_toArray, List.set_cons_zero, List.set_cons_succ])
 go_cut [20] (fun v20 wc => ∃ (kq : Nat) (x20_4 : Bool) (x372001_4 : Int), v20 = .bool x20_4 ∧ Aside0 (spec_DrawStepsFlush.j0 kq t380 x20_4 t369 x372001_4 t372 t375 = some (r1, r2, r3)) ∧ Aside0 (kq ≤ k) ∧ Aside0 (Kd.R (Kd.int .i64) 3 wc w.heap.size (fun k_ => (w.heap.size ≤ k_) ∧ some k_ ≠ ((.slice Ao14 t375.length co14) : Value).ownBlock) v381 t380) ∧ Aside0 (Kd.V k73 73 wc w.heap.size (fun k_ => (w.heap.size ≤ k_) ∧ some k_ ≠ (v381 : Value).ownBlock ∧ some k_ ≠ ((.slice Ao14 t375.length co14) : Value).ownBlock ∧ k_ ≠ gb368 ∧ k_ ≠ gb379 ∧ k_ ≠ g371) (.slice Ao10 t372.length co10) t372) ∧ Aside0 (Kd.Q (Kd.int .i64) 3 wc w.heap.size (fun k_ => (w.heap.size ≤ k_) ∧ some k_ ≠ (v381 : Value).ownBlock) (.slice Ao14 t375.length co14) t375) ∧ Aside0 (wc.heap[gb368]? = some (.cells #[(.slice none 0 0), (.slice none 0 0)] 26 (0, 0))) ∧ Aside0 (wc.heap[gb379]? = some (.cells #[(.slice Ao10 t372.length co10), (.slice Ao14 t375.length co14)] 26 (0, 0))) ∧ Aside0 (IsS56 w wc g371 t369 x372001_4) ∧ Aside0 (Below w.heap.size w wc))
 case first =>
  have H := HC5.out
  clear HC5
  by_cases c16 : (t380.length : Int) > 0
  rotate_left
  · rw [if_neg c16] at H
    have c16b0 := decide_eq_false c16
    have c16b1 : decide (0 < t380.length) = false := decide_eq_false (by omega)
    clear c16
    (first | rw [c16b0] | (simp only [i64_w, i32_w]; rw [c16b0]) | skip)
    have H' := am H
    clear H
    obtain ⟨Ao20, co20, eo20⟩ := Kd.R_slice HO382.out
    subst eo20
    go_wp2
    go_meet
    case rel => exact ⟨_, (false), (t378), rf, H', ⟨by first | omega | exact Nat.le_refl _⟩, ⟨pr (Kd.R_mono HO382.out (fun _ hk => ⟨hk.1.1, hk.2⟩))⟩, ⟨pv (Kd.V_mono HO374.out (fun _ hk => ⟨hk.1.1.1, ⟨hk.2, ⟨hk.1.1.2.1, ⟨hk.1.1.2.2.1, ⟨hk.1.2, hk.1.1.2.2.2⟩⟩⟩⟩⟩))⟩, ⟨pq (Kd.Q_mono HO377.out (fun _ hk => ⟨hk.1.1, hk.2⟩))⟩, ⟨pb BK368.out⟩, ⟨pb BK379.out⟩, ⟨IsS56.g2 HI371.out NB371_368.out NB371_379.out⟩, ⟨bg3 HB.out (IsS56.ge HI371.out) GE368.out GE379.out⟩⟩
  rw [if_pos c16] at H
  have c16b0 := decide_eq_true c16
  have c16b1 : decide (0 < t380.length) = true := decide_eq_true (by omega)
  clear c16
  (first | rw [c16b0] | (simp only [i64_w, i32_w]; rw [c16b0]) | skip)
  replace H := Option.bind_eq_some_iff.mp H
  obtain ⟨⟨t383, t384⟩, A170, H⟩ := H
  have A17 := am A170
  clear A170
  have H' := am H
  clear H
  obtain ⟨Ao18, co18, eo18⟩ := Kd.R_slice HO382.out
  subst eo18
  go_wp2_with (first | (go_at_call 14; (with_reducible refine (spec_l6Rd_pick.calls k g371 t369 t378 6 t383 t384 w _ ?side1 ?side2 A17.out).mono ?_); (case side1 => exact IsS56.g2 HI371.out NB371_368.out NB371_379.out); (case side2 => exact bg3 HB.out (IsS56.ge HI371.out) GE368.out GE379.out); rintro e w19 ⟨rfl, hi, hb, hk⟩; replace BK368 := am (KeepBut.blk hk (pb BK368.out) NB368_371.out (by simp)); replace HO374 := am (Kd.V_mono (Kd.V_keep (Kd.V_mono (ok := fun k_ => (((((w.heap.size ≤ k_)) ∧ (some k_ ≠ (.slice Ao14 t375.length co14 : Value).ownBlock ∧ (k_ ≠ gb368 ∧ k_ ≠ g371))) ∧ k_ ≠ gb379) ∧ some k_ ≠ (.slice Ao18 t380.length co18 : Value).ownBlock)) (pv HO374.out) (fun k_ hk_ => (⟨hk_, hk_.1.1.2.2.2⟩ : _ ∧ k_ ≠ g371))) hk (fun _ h => h.2)) (fun _ h => h.1)); replace HO377 := am (Kd.Q_mono (Kd.Q_keep (IsS56.apartQ (show IsS56 w _ g371 t369 t378 from IsS56.g2 HI371.out NB371_368.out NB371_379.out) (pq HO377.out) (by decide)) hk (fun _ h => h.2)) (fun _ h => h.1)); replace BK379 := am (KeepBut.blk hk (pb BK379.out) NB379_371.out (by simp)); replace HO382 := am (Kd.R_mono (Kd.R_keep (IsS56.apart (show IsS56 w _ g371 t369 t378 from IsS56.g2 HI371.out NB371_368.out NB371_379.out) (pr HO382.out) (by decide)) hk (fun _ h => h.2)) (fun _ h => h.1)); replace HB := am (hb); replace HI371 := am (hi); clear hb hk hi))
  go_meet
  case rel => exact ⟨_, (decide (t383 > 0)), (t384), rf, H', ⟨by first | omega | exact Nat.le_refl _⟩, ⟨pr (Kd.R_mono HO382.out (fun _ hk => ⟨hk.1.1, hk.2⟩))⟩, ⟨pv (Kd.V_mono HO374.out (fun _ hk => ⟨hk.1.1.1, ⟨hk.2, ⟨hk.1.1.2.1, ⟨hk.1.1.2.2.1, ⟨hk.1.2, hk.1.1.2.2.2⟩⟩⟩⟩⟩))⟩, ⟨pq (Kd.Q_mono HO377.out (fun _ hk => ⟨hk.1.1, hk.2⟩))⟩, ⟨pb BK368.out⟩, ⟨pb BK379.out⟩, ⟨IsS56.g2 HI371.out NB371_368.out NB371_379.out⟩, ⟨bg3 HB.out (IsS56.ge HI371.out) GE368.out GE379.out⟩⟩
 case rest =>
  clear HC5
  obtain ⟨kq, x20_4, x372001_4, rfl, HA, HJ4, HO_6, HO_380000, HO_380001, BK368, BK379, HI371, HB⟩ := hcut
  cases kq with
  | zero => exact absurd HA.out (by simp [spec_DrawStepsFlush.j0])
  | succ kj4 =>
   have H := HA.out
   clear HA
   simp only [spec_DrawStepsFlush.j0] at H
   by_cases c21 : x20_4 = true
   · subst c21
     rw [if_pos rfl] at H
     replace H := Option.bind_eq_some_iff.mp H
     obtain ⟨⟨t385, t386⟩, A220, H⟩ := H
     have A22 := am A220
     clear A220
     obtain ⟨c23b0, H⟩ := ifd H
     obtain ⟨c24b0, H⟩ := ifd H
     simp only [Option.some.injEq, Prod.mk.injEq] at H
     obtain ⟨rfl, rfl, rfl⟩ := H
     try go_wp2
     replace HO_6 := am (Kd.R_drew HO_6.out)
     replace HO_380000 := am (Kd.V_drew HO_380000.out)
     replace HO_380001 := am (Kd.Q_drew HO_380001.out)
     replace BK368 := am (blk_drew BK368.out)
     replace BK379 := am (blk_drew BK379.out)
     replace HI371 := am (IsS56.drew HI371.out)
     replace HB := am (below_drew1 HB.out)
     obtain ⟨Ao26, co26, eo26⟩ := Kd.R_slice HO_6.out
     (first | subst eo26 | (injection eo26 with f1_ f2_ f3_; have f4_ := f1_.symm; have f5_ := f3_.symm; clear f1_ f2_ f3_; subst f4_; subst f5_))
     have p387 : 0 ≤ (t385 : Int) := ofb
     have q387 : t385 < (t380.length : Int) := ofb
     obtain ⟨ad387, e387, hx387_0⟩ := Kd.at_int (Kd.R_reads' HO_6.out).2.2 t385 p387 q387
     cases e387
     replace p387 := eq_true p387
     replace q387 := eq_true q387
     refine start_ (n := 10) (S := fun w' => w'.cell? ⟨gb379, 0, none⟩ = some (.slice Ao10 t372.length co10) ∧ w'.cell? ⟨gb379, 1, none⟩ = some (.slice Ao14 t375.length co14) ∧ w'.cell? (ad387.add (t385).toNat) = some (.int .i64 (rd t380 t385))) (ds := []) (bt 10 0) (by kernel_rfl) rfl rfl ⟨(blk_cell BK379.out 0).trans rfl, (blk_cell BK379.out 1).trans rfl, hx387_0⟩ (fun hHeld => ?_); refine with_tabW spec_DrawStepsFlush.tab5 spec_DrawStepsFlush.bits5 (fun HT_ HW_ => ?_)
     generalize wc.drew = w25 at HO_6 HO_380000 HO_380001 BK368 BK379 HI371 HB hx387_0 hHeld ⊢
     refine qj 1 22 (bt 10 2) rfl rfl HT_.out ?_
     refine qj 2 23 (bt 10 6) rfl rfl HT_.out ?_
     refine qj 3 24 (bt 10 14) rfl rfl HT_.out ?_
     refine qj 4 25 (bt 10 30) rfl rfl HT_.out ?_
     refine qm 0 21 (bt 10 31) rfl rfl HT_.out HW_.out hHeld ?_
     refine qo 5 (some 26) (bt 10 63) rfl rfl HT_.out fun K hK => ?_
     refine qg Try.func14 #[.pointer (some ⟨g371, 0, none⟩), .int .i64 (t380.length : Int)] rfl rfl ?_
     with_reducible refine (spec_l6Rd_pick.calls kj4 g371 t369 x372001_4 (t380.length : Int) t385 t386 w _ ?side1 ?side2 A22.out).mono ?_
     (case side1 => exact IsS56.g2 HI371.out NB371_368.out NB371_379.out)
     (case side2 => exact bg3 HB.out (IsS56.ge HI371.out) GE368.out GE379.out)
     rintro e w27 ⟨rfl, hi, hb, hk⟩
     have HS2_ := keep_cell hk (hHeld.2.2) (by first | (rw [add_block]; exact Kd.own_blk (IsS56.own_ne HI371.out HO_6.out (by decide))) | (show (Addr.add _ _).block ≠ _; rw [add_block]; exact Kd.own_blk (IsS56.own_ne HI371.out HO_6.out (by decide))) | exact Kd.own_blk (IsS56.own_ne HI371.out HO_6.out (by decide)))
     refine ⟨_, rfl, ?_⟩
     replace HO_6 := am (Kd.R_mono (Kd.R_keep (IsS56.apart (show IsS56 w _ g371 t369 x372001_4 from IsS56.g2 HI371.out NB371_368.out NB371_379.out) (pr HO_6.out) (by decide)) hk (fun _ h => h.2)) (fun _ h => h.1))
     replace HO_380000 := am (Kd.V_mono (Kd.V_keep (Kd.V_mono (ok := fun k_ => (((w.heap.size ≤ k_)) ∧ (some k_ ≠ (.slice (some ad387) t380.length co26 : Value).ownBlock ∧ (some k_ ≠ (.slice Ao14 t375.length co14 : Value).ownBlock ∧ (k_ ≠ gb368 ∧ (k_ ≠ gb379 ∧ k_ ≠ g371)))))) (pv HO_380000.out) (fun k_ hk_ => (⟨hk_, hk_.2.2.2.2.2⟩ : _ ∧ k_ ≠ g371))) hk (fun _ h => h.2)) (fun _ h => h.1))
     replace HO_380001 := am (Kd.Q_mono (Kd.Q_keep (IsS56.apartQ (show IsS56 w _ g371 t369 x372001_4 from IsS56.g2 HI371.out NB371_368.out NB371_379.out) (pq HO_380001.out) (by decide)) hk (fun _ h => h.2)) (fun _ h => h.1))
     replace BK368 := am (KeepBut.blk hk (pb BK368.out) NB368_371.out (by simp))
     replace BK379 := am (KeepBut.blk hk (pb BK379.out) NB379_371.out (by simp))
     replace HB := am (hb)
     replace HI371 := am (hi)
     clear hb hk hi
     refine hK.out _ _ ⟨(blk_cell BK379.out 0).trans rfl, (blk_cell BK379.out 1).trans rfl, HS2_⟩ (fun hHeld => ?_)
     clear hK K
     refine qn (some 26) ?_
     refine qj 6 27 (bt 10 127) rfl rfl HT_.out ?_
     refine qm 7 28 (bt 10 255) rfl rfl HT_.out HW_.out hHeld ?_
     refine qo 8 none (bt 10 511) rfl rfl HT_.out fun K hK => ?_
     have hs28 : w27.cell? ⟨gb368, 0, none⟩ = some (.slice none 0 0) := (blk_cell BK368.out 0).trans rfl
     have hfs28 := blk_frozen BK368.out 0
     have hns28_1 := NB379_368.out
     have hms28_1 := NB368_379.out
     have hs29 : w27.cell? ⟨gb368, 1, none⟩ = some (.slice none 0 0) := (blk_cell BK368.out 1).trans rfl
     have hfs29 := blk_frozen BK368.out 1
     have hns29_1 := NB379_368.out
     have hms29_1 := NB368_379.out
     refine qs rfl ?_
     refine hK.out _ _ ⟨((cell_far (p := ⟨gb368, _, none⟩) NB379_368.out _).trans (((cell_far (p := ⟨gb368, _, none⟩) NB379_368.out _).trans (hHeld.1)))), ((cell_far (p := ⟨gb368, _, none⟩) NB379_368.out _).trans (((cell_far (p := ⟨gb368, _, none⟩) NB379_368.out _).trans (hHeld.2.1)))), ((cell_far (p := ⟨gb368, _, none⟩) (by first | exact Kd.own_blk (Kd.R_ne HO_6.out BK368.out (by decide)) | (rw [add_block]; exact Kd.own_blk (Kd.R_ne HO_6.out BK368.out (by decide))) | (show (Addr.add _ _).block ≠ _; rw [add_block]; exact Kd.own_blk (Kd.R_ne HO_6.out BK368.out (by decide))) | (dsimp only; exact Kd.own_blk (Kd.R_ne HO_6.out BK368.out (by decide)))) _).trans (((cell_far (p := ⟨gb368, _, none⟩) (by first | exact Kd.own_blk (Kd.R_ne HO_6.out BK368.out (by decide)) | (rw [add_block]; exact Kd.own_blk (Kd.R_ne HO_6.out BK368.out (by decide))) | (show (Addr.add _ _).block ≠ _; rw [add_block]; exact Kd.own_blk (Kd.R_ne HO_6.out BK368.out (by decide))) | (dsimp only; exact Kd.own_blk (Kd.R_ne HO_6.out BK368.out (by decide)))) _).trans (hHeld.2.2))))⟩ (fun hHeld => ?_)
     clear hK K
     refine qj 9 3 (bt 10 1023) rfl rfl HT_.out ?_
     refine done_ (done_of HT_.out (by kernel_rfl)) ?_
     try go_wp2
     refine bodyPost_ret (results_ct rfl _ _ gb368 26 #[.slice Ao10 t372.length co10, .slice Ao14 t375.length co14] (0, 0) _ rfl (bp2 (pb BK368.out)) Try.underlying26 rfl (by kernel_rfl)) rfl ?_
     exact ⟨_, _, rq ⟨pv (Kd.V_mono (Kd.V_far (p := ⟨gb368, 1, none⟩) (Kd.V_far (p := ⟨gb368, 0, none⟩) (Kd.V_mono HO_380000.out (fun k_ hk => (⟨hk, hk.2.2.2.1⟩ : _ ∧ k_ ≠ gb368))) (fun _ hk => hk.2) (.slice Ao10 t372.length co10)) (fun _ hk => hk.2) (.slice Ao14 t375.length co14)) (fun _ hk => ⟨hk.1.1, hk.1.2.2.1⟩)), pq (Kd.Q_mono (Kd.Q_far (p := ⟨gb368, 1, none⟩) (Kd.Q_far (p := ⟨gb368, 0, none⟩) (Kd.Q_types HO_380001.out BK368.out (by decide)) (fun _ hk => hk.2) (.slice Ao10 t372.length co10)) (fun _ hk => hk.2) (.slice Ao14 t375.length co14)) (fun _ hk => hk.1.1)), bg3 HB.out (IsS56.ge HI371.out) GE368.out GE379.out⟩⟩
   replace c21 := Bool.eq_false_iff.mpr c21
   subst c21
   rw [if_neg (show ¬ (false = true) by decide)] at H
   replace H := Option.bind_eq_some_iff.mp H
   obtain ⟨⟨t388, t389⟩, A300, H⟩ := H
   have A30 := am A300
   clear A300
   replace H := Option.bind_eq_some_iff.mp H
   obtain ⟨⟨t390, t391⟩, A310, H⟩ := H
   have A31 := am A310
   clear A310
   simp only [Option.some.injEq, Prod.mk.injEq] at H
   obtain ⟨rfl, rfl, rfl⟩ := H
   try go_wp2
   replace HO_6 := am (Kd.R_drew HO_6.out)
   replace HO_380000 := am (Kd.V_drew HO_380000.out)
   replace HO_380001 := am (Kd.Q_drew HO_380001.out)
   replace BK368 := am (blk_drew BK368.out)
   replace BK379 := am (blk_drew BK379.out)
   replace HI371 := am (IsS56.drew HI371.out)
   replace HB := am (below_drew1 HB.out)
   refine start_ (n := 11) (S := fun w' => w'.cell? ⟨gb379, 0, none⟩ = some (.slice Ao10 t372.length co10) ∧ w'.cell? ⟨gb379, 1, none⟩ = some (.slice Ao14 t375.length co14)) (ds := []) (bt 11 0) (by kernel_rfl) rfl rfl ⟨(blk_cell BK379.out 0).trans rfl, (blk_cell BK379.out 1).trans rfl⟩ (fun hHeld => ?_); refine with_tabW spec_DrawStepsFlush.tab6 spec_DrawStepsFlush.bits6 (fun HT_ HW_ => ?_)
   generalize wc.drew = w32 at HO_6 HO_380000 HO_380001 BK368 BK379 HI371 HB hHeld ⊢
   refine qj 1 30 (bt 11 2) rfl rfl HT_.out ?_
   refine qj 4 33 (bt 11 18) rfl rfl HT_.out ?_
   refine qm 0 29 (bt 11 19) rfl rfl HT_.out HW_.out hHeld ?_
   refine qo 2 (some 31) (bt 11 23) rfl rfl HT_.out fun K hK => ?_
   refine qg Try.func14 #[.pointer (some ⟨g371, 0, none⟩), .int .i64 6] rfl rfl ?_
   with_reducible refine (spec_l6Rd_pick.calls kj4 g371 t369 x372001_4 6 t388 t389 w _ ?side1 ?side2 A30.out).mono ?_
   (case side1 => exact IsS56.g2 HI371.out NB371_368.out NB371_379.out)
   (case side2 => exact bg3 HB.out (IsS56.ge HI371.out) GE368.out GE379.out)
   rintro e w33 ⟨rfl, hi, hb, hk⟩
   refine ⟨_, rfl, ?_⟩
   replace HO_6 := am (Kd.R_mono (Kd.R_keep (IsS56.apart (show IsS56 w _ g371 t369 x372001_4 from IsS56.g2 HI371.out NB371_368.out NB371_379.out) (pr HO_6.out) (by decide)) hk (fun _ h => h.2)) (fun _ h => h.1))
   replace HO_380000 := am (Kd.V_mono (Kd.V_keep (Kd.V_mono (ok := fun k_ => (((w.heap.size ≤ k_)) ∧ (some k_ ≠ (v381 : Value).ownBlock ∧ (some k_ ≠ (.slice Ao14 t375.length co14 : Value).ownBlock ∧ (k_ ≠ gb368 ∧ (k_ ≠ gb379 ∧ k_ ≠ g371)))))) (pv HO_380000.out) (fun k_ hk_ => (⟨hk_, hk_.2.2.2.2.2⟩ : _ ∧ k_ ≠ g371))) hk (fun _ h => h.2)) (fun _ h => h.1))
   replace HO_380001 := am (Kd.Q_mono (Kd.Q_keep (IsS56.apartQ (show IsS56 w _ g371 t369 x372001_4 from IsS56.g2 HI371.out NB371_368.out NB371_379.out) (pq HO_380001.out) (by decide)) hk (fun _ h => h.2)) (fun _ h => h.1))
   replace BK368 := am (KeepBut.blk hk (pb BK368.out) NB368_371.out (by simp))
   replace BK379 := am (KeepBut.blk hk (pb BK379.out) NB379_371.out (by simp))
   replace HB := am (hb)
   replace HI371 := am (hi)
   clear hb hk hi
   refine hK.out _ _ ⟨(blk_cell BK379.out 0).trans rfl, (blk_cell BK379.out 1).trans rfl⟩ (fun hHeld => ?_)
   clear hK K
   refine qn (some 31) ?_
   refine qj 3 32 (bt 11 31) rfl rfl HT_.out ?_
   refine qo 5 (some 34) (bt 11 63) rfl rfl HT_.out fun K hK => ?_
   refine qg Try.func14 #[.pointer (some ⟨g371, 0, none⟩), .int .i64 24] rfl rfl ?_
   with_reducible refine (spec_l6Rd_pick.calls kj4 g371 t369 t389 24 t390 t391 w _ ?side1 ?side2 A31.out).mono ?_
   (case side1 => exact IsS56.g2 HI371.out NB371_368.out NB371_379.out)
   (case side2 => exact bg3 HB.out (IsS56.ge HI371.out) GE368.out GE379.out)
   rintro e w34 ⟨rfl, hi, hb, hk⟩
   refine ⟨_, rfl, ?_⟩
   replace HO_6 := am (Kd.R_mono (Kd.R_keep (IsS56.apart (show IsS56 w _ g371 t369 t389 from IsS56.g2 HI371.out NB371_368.out NB371_379.out) (pr HO_6.out) (by decide)) hk (fun _ h => h.2)) (fun _ h => h.1))
   replace HO_380000 := am (Kd.V_mono (Kd.V_keep (Kd.V_mono (ok := fun k_ => (((w.heap.size ≤ k_)) ∧ (some k_ ≠ (v381 : Value).ownBlock ∧ (some k_ ≠ (.slice Ao14 t375.length co14 : Value).ownBlock ∧ (k_ ≠ gb368 ∧ (k_ ≠ gb379 ∧ k_ ≠ g371)))))) (pv HO_380000.out) (fun k_ hk_ => (⟨hk_, hk_.2.2.2.2.2⟩ : _ ∧ k_ ≠ g371))) hk (fun _ h => h.2)) (fun _ h => h.1))
   replace HO_380001 := am (Kd.Q_mono (Kd.Q_keep (IsS56.apartQ (show IsS56 w _ g371 t369 t389 from IsS56.g2 HI371.out NB371_368.out NB371_379.out) (pq HO_380001.out) (by decide)) hk (fun _ h => h.2)) (fun _ h => h.1))
   replace BK368 := am (KeepBut.blk hk (pb BK368.out) NB368_371.out (by simp))
   replace BK379 := am (KeepBut.blk hk (pb BK379.out) NB379_371.out (by simp))
   replace HB := am (hb)
   replace HI371 := am (hi)
   clear hb hk hi
   refine hK.out _ _ ⟨(blk_cell BK379.out 0).trans rfl, (blk_cell BK379.out 1).trans rfl⟩ (fun hHeld => ?_)
   clear hK K
   refine qn (some 34) ?_
   refine qj 6 35 (bt 11 127) rfl rfl HT_.out ?_
   refine qj 7 36 (bt 11 255) rfl rfl HT_.out ?_
   refine qj 8 37 (bt 11 511) rfl rfl HT_.out ?_
   refine qo 9 none (bt 11 1023) rfl rfl HT_.out fun K hK => ?_
   have hs35 : w34.cell? ⟨gb368, 0, none⟩ = some (.slice none 0 0) := (blk_cell BK368.out 0).trans rfl
   have hfs35 := blk_frozen BK368.out 0
   have hns35_1 := NB379_368.out
   have hms35_1 := NB368_379.out
   have hs36 : w34.cell? ⟨gb368, 1, none⟩ = some (.slice none 0 0) := (blk_cell BK368.out 1).trans rfl
   have hfs36 := blk_frozen BK368.out 1
   have hns36_1 := NB379_368.out
   have hms36_1 := NB368_379.out
   refine qs rfl ?_
   refine hK.out _ _ ⟨((cell_far (p := ⟨gb368, _, none⟩) NB379_368.out _).trans (((cell_far (p := ⟨gb368, _, none⟩) NB379_368.out _).trans (hHeld.1)))), ((cell_far (p := ⟨gb368, _, none⟩) NB379_368.out _).trans (((cell_far (p := ⟨gb368, _, none⟩) NB379_368.out _).trans (hHeld.2))))⟩ (fun hHeld => ?_)
   clear hK K
   refine qj 10 3 (bt 11 2047) rfl rfl HT_.out ?_
   refine done_ (done_of HT_.out (by kernel_rfl)) ?_
   try go_wp2
   refine bodyPost_ret (results_ct rfl _ _ gb368 26 #[.slice Ao10 t372.length co10, .slice Ao14 t375.length co14] (0, 0) _ rfl (bp2 (pb BK368.out)) Try.underlying26 rfl (by kernel_rfl)) rfl ?_
   exact ⟨_, _, rq ⟨pv (Kd.V_mono (Kd.V_far (p := ⟨gb368, 1, none⟩) (Kd.V_far (p := ⟨gb368, 0, none⟩) (Kd.V_mono HO_380000.out (fun k_ hk => (⟨hk, hk.2.2.2.1⟩ : _ ∧ k_ ≠ gb368))) (fun _ hk => hk.2) (.slice Ao10 t372.length co10)) (fun _ hk => hk.2) (.slice Ao14 t375.length co14)) (fun _ hk => ⟨hk.1.1, hk.1.2.2.1⟩)), pq (Kd.Q_mono (Kd.Q_far (p := ⟨gb368, 1, none⟩) (Kd.Q_far (p := ⟨gb368, 0, none⟩) (Kd.Q_types HO_380001.out BK368.out (by decide)) (fun _ hk => hk.2) (.slice Ao10 t372.length co10)) (fun _ hk => hk.2) (.slice Ao14 t375.length co14)) (fun _ hk => hk.1.1)), bg3 HB.out (IsS56.ge HI371.out) GE368.out GE379.out⟩⟩
end Go.Proofs.Ytbhchamohldehaa.P4
