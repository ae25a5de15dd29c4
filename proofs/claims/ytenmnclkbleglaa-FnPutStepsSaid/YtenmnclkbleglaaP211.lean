-- printed by wip/pp/pp.py
import Derived.Test.YtenmnclkbleglaaP20
import Derived.Test.YtenmnclkbleglaaP22
import Derived.Test.YtenmnclkbleglaaP24
import Derived.Test.YtenmnclkbleglaaP28
import Derived.Test.YtenmnclkbleglaaP210
import Derived.Deep.RegionHeld3
import Derived.RegionTactic
import Derived.Laws.IdiomCopy
set_option maxHeartbeats 8000000
set_option maxRecDepth 100000
namespace Go.Proofs.Ytenmnclkbleglaa.P2
open Go.RowKit Go.Proofs.YtenmnclkbleglaaW.PrintWords Go.Proofs.YtenmnclkbleglaaW.PrintLast Go.Proofs.YtenmnclkbleglaaW.PrintMore
attribute [local go_sem] max2_int min2_int max_two min_two max_three min_three max_four min_four
set_option linter.unusedVariables false
set_option linter.unusedSimpArgs false
theorem Q_up {W : World} {base b : Nat} {ok : Nat → Prop} {v : Value} {xs : List Int} (h : Kd.Q (Kd.int .i64) 3 W base ok v xs) (hb : ∀ k, ok k → b ≤ k) : Kd.Q (Kd.int .i64) 3 W b (fun k => b ≤ k) v xs := by
 obtain ⟨h0, inner, ⟨hl, hq⟩, hr⟩ := h
 refine ⟨fun k hk => hb k (h0 k hk), inner, ⟨hl, ?_⟩, hr⟩
 rcases hq with ⟨hn, A, rfl, ha⟩ | ⟨g, off, cap, cur, rfl, _, hg⟩
 · exact .inl ⟨hn, A, rfl, fun a e => ⟨hb _ (h0 _ (by rw [e]; rfl)), (ha a e).2⟩⟩
 · exact .inr ⟨g, off, cap, cur, rfl, hb g (h0 g rfl), hg⟩
theorem flAt_S {W : World} {base : Nat} {v : Value} {xs : List S42} (h : FlAt W base v xs) (hf : flFine xs = true) : Kd.S k42 42 W base (fun k => base ≤ k) v xs := by
 obtain ⟨g, o, hi, n, c, G, O, C, rfl, rfl, hc, hF, rfl, hz⟩ := h
 obtain ⟨rfl, hO⟩ := hz hf
 obtain ⟨h4, hp⟩ := fl_fine hf
 obtain ⟨cells, hcs, hsz, hmx⟩ := hF.typ
 refine ⟨fun k => if k = G 0 then 0 else if k = G 1 then 1 else if k = G 2 then 2 else 3, ?_⟩
 have hlen : xs.zipIdx.length = xs.length := List.length_zipIdx
 rw [← hlen]
 refine R_cells (d := Kd.tag _ k42) hcs hF.own.1 (by rw [hlen]; exact hc) hmx (by rw [hsz, Nat.zero_add]; rfl) hF.own.1 (fun j p hj => ?_)
 rw [List.getElem?_zipIdx, Nat.zero_add] at hj
 obtain ⟨x, hx, rfl⟩ := Option.map_eq_some_iff.1 hj
 have hjl : j < xs.length := (List.getElem?_eq_some_iff.1 hx).1
 have hOj := hO j (by omega)
 obtain ⟨a1, a2, a3, a4, ⟨c', a5, a6, a7⟩, a8, a9, a10⟩ := hF.at_ j hjl
 rw [flB_at hx, hOj] at a8
 rw [flB_at hx] at a4 a9 a10
 rw [hOj] at a6
 refine ⟨[.slice (some ⟨G j, 0, none⟩) x.f0.length (C j), .int .i64 x.f1], rfl, ?_, ?_⟩
 · refine k42_mkM W base _ x (R_cells (d := k39) a5 a1 a4 a7 (by rw [a6, Nat.zero_add]; rfl) ⟨⟨a1, fun e => a3 (Option.some.inj e)⟩, ?_⟩ (fun i q hq => ?_))
   · have h1 := hF.one 1 0
     have h2 := hF.one 2 0
     have h3 := hF.one 2 1
     have h5 := hF.one 3 0
     have h6 := hF.one 3 1
     have h7 := hF.one 3 2
     have hj4 : j = 0 ∨ j = 1 ∨ j = 2 ∨ j = 3 := by omega
     show (if G j = G 0 then 0 else if G j = G 1 then 1 else if G j = G 2 then 2 else 3) = j
     rcases hj4 with rfl | rfl | rfl | rfl
     · exact if_pos rfl
     · rw [if_neg (h1 (by omega) (by omega) (by decide)), if_pos rfl]
     · rw [if_neg (h2 (by omega) (by omega) (by decide)), if_neg (h3 (by omega) (by omega) (by decide)), if_pos rfl]
     · rw [if_neg (h5 (by omega) (by omega) (by decide)), if_neg (h6 (by omega) (by omega) (by decide)), if_neg (h7 (by omega) (by omega) (by decide))]
   · have hil : i < x.f0.length := (List.getElem?_eq_some_iff.1 hq).1
     have h8 := a10 i hil
     rw [flP_at hq, hOj] at h8
     refine ⟨pgC q, rfl, k39_mkM W base _ q, fun t u hu => ?_⟩
     have h9 := cell_get a5 (h8 t u hu)
     rw [Nat.zero_add] at h9
     exact h9
 · intro t u hu
   match t, hu with
   | 0, hu =>
    cases hu
    have h9 := cell_get hcs a8
    rw [Nat.zero_add] at h9
    exact h9
   | 1, hu =>
    cases hu
    have h9 := cell_get hcs a9
    rw [Nat.zero_add] at h9
    exact h9
theorem S_Vq {W : World} {base b b' : Nat} {ok ok' : Nat → Prop} {v u : Value} {xs : List S42} {ys : List Int} (h : Kd.S k42 42 W base ok v xs) (hq : Kd.Q (Kd.int .i64) 3 W b ok' u ys) : Kd.V k42 42 W b' (fun k => ok k ∧ some k ≠ u.ownBlock) v xs :=
 Kd.S_V (Kd.S_mono (Kd.S_bound h) (fun k hk => ⟨hk.1, by
  obtain ⟨_, _, _, q, hq', c, hc⟩ := hk
  exact Kd.Q_ne hq hc (by rintro rfl; revert hq'; decide)⟩))
structure FullI (w0 w : World) (g b3 : Nat) (s : List Int) (p : Int) (v0 v1 : Value) (fl : List S42) (dk : List Int) (W : World) : Prop where
 hV : Kd.V k42 42 W w0.heap.size (fun k => (fun k => w.heap.size < k ∧ k ≠ b3) k ∧ some k ≠ v1.ownBlock) v0 fl
 hQ : Kd.Q (Kd.int .i64) 3 W w0.heap.size (fun k => w.heap.size < k ∧ k ≠ b3) v1 dk
 hS : flFine fl = true → Kd.S k42 42 W w0.heap.size (fun k => w.heap.size < k ∧ k ≠ b3) v0 fl
 hR : dk.length = 6 → (Kd.int .i64).R 3 W w0.heap.size (fun k => w.heap.size < k ∧ k ≠ b3) v1 dk
 b2 : W.heap[w.heap.size]? = some (.cells #[.slice none 0 0, .slice none 0 0] 26)
 b3 : W.heap[b3]? = some (.cells #[v0, v1] 26)
 hI : IsS68 w0 W g s p
 hB : Below w0.heap.size w0 W
 hK : KeepBut w W g none
section
variable {w0 w W W' : World} {g b3 : Nat} {s : List Int} {p : Int} {v0 v1 : Value} {fl : List S42} {dk : List Int}
theorem FullI.below (h : FullI w0 w g b3 s p v0 v1 fl dk W) (hb : Below W.heap.size W W') : FullI w0 w g b3 s p v0 v1 fl dk W' :=
 ⟨Kd.V_below h.hV hb, Kd.Q_below h.hQ hb, fun hf => Kd.S_below (h.hS hf) hb, fun hf => Kd.R_below (h.hR hf) hb, blk_below h.b2 hb, blk_below h.b3 hb, h.hI.below hb, below_step h.hB hb, h.hK.trans (KeepBut.of_below hb g none) (.inl rfl)⟩
theorem FullI.drew (h : FullI w0 w g b3 s p v0 v1 fl dk W) : FullI w0 w g b3 s p v0 v1 fl dk W.drew :=
 ⟨Kd.V_drew h.hV, Kd.Q_drew h.hQ, fun hf => Kd.S_drew (h.hS hf), fun hf => Kd.R_drew (h.hR hf), h.b2, h.b3, IsS68.drew h.hI, below_drew h.hB, keep_drew h.hK⟩
theorem FullI.pick {p' : Int} (h : FullI w0 w g b3 s p v0 v1 fl dk W) (hg : g < w.heap.size) (h3 : w.heap.size < b3) (hi : IsS68 w0 W' g s p') (hb : Below w0.heap.size w0 W') (hk : KeepBut W W' g none) : FullI w0 w g b3 s p' v0 v1 fl dk W' :=
 have hn : ∀ k, (fun k => w.heap.size < k ∧ k ≠ b3) k → k ≠ g := fun k hk => by have := hk.1; omega
 ⟨Kd.V_keep h.hV hk (fun k hk => hn k hk.1), Kd.Q_keep h.hQ hk hn, fun hf => Kd.S_keep (h.hS hf) hk hn, fun hf => Kd.R_keep (h.hR hf) hk hn, blk_kb h.b2 hk (by omega), blk_kb h.b3 hk (by omega), hi, hb, h.hK.trans hk (.inl rfl)⟩
theorem FullI.put {u0 u1 : Value} {fl' : List S42} {dk' : List Int} (h : FullI w0 w g b3 s p v0 v1 fl dk W) (h0 : w0.heap.size ≤ w.heap.size) (hg : g < w.heap.size) (h3 : w.heap.size < b3) (hS : Kd.S k42 42 W' w0.heap.size (fun k => ((fun k => w.heap.size < k ∧ k ≠ b3) k ∨ (fun k => w.heap.size < k ∧ k ≠ b3) k) ∨ W.heap.size ≤ k) u0 fl') (hR : (Kd.int .i64).R 3 W' w0.heap.size (fun k => ((fun k => w.heap.size < k ∧ k ≠ b3) k ∨ (fun k => w.heap.size < k ∧ k ≠ b3) k) ∨ W.heap.size ≤ k) u1 dk') (hb : Below w0.heap.size w0 W') (hk : Kept W W' (fun k => (fun k => w.heap.size < k ∧ k ≠ b3) k ∨ (fun k => w.heap.size < k ∧ k ≠ b3) k)) :
 FullI w0 w g b3 s p u0 u1 fl' dk' ((W'.setCell ⟨b3, 0, none⟩ u0).setCell ⟨b3, 1, none⟩ u1) := by
 have hl3 := blk_lt h.b3
 have hP : ∀ k, (((fun k => w.heap.size < k ∧ k ≠ b3) k ∨ (fun k => w.heap.size < k ∧ k ≠ b3) k) ∨ W.heap.size ≤ k) → (fun k => w.heap.size < k ∧ k ≠ b3) k := fun k hk => by
  rcases hk with (hk | hk) | hk
  · exact hk
  · exact hk
  · exact ⟨by omega, by omega⟩
 have hn : ∀ k, (fun k => w.heap.size < k ∧ k ≠ b3) k → k ≠ b3 := fun k hk => hk.2
 have hS1 := Kd.S_far (p := ⟨b3, 1, none⟩) (Kd.S_far (p := ⟨b3, 0, none⟩) (Kd.S_mono hS hP) hn u0) hn u1
 have hR1 := Kd.R_far (p := ⟨b3, 1, none⟩) (Kd.R_far (p := ⟨b3, 0, none⟩) (Kd.R_mono hR hP) hn u0) hn u1
 have hb2 := blk_kept h.b2 hk (fun hs => by rcases hs with hs | hs <;> exact absurd hs.1 (Nat.lt_irrefl _))
 have hb3 := blk_kept h.b3 hk (fun hs => by rcases hs with hs | hs <;> exact hs.2 rfl)
 have hI := IsS68.kept h.hI hk (fun hs => by rcases hs with hs | hs <;> (have := hs.1; omega))
 exact ⟨S_Vq hS1 (Kd.Q_of_R hR1), Kd.Q_of_R hR1, fun _ => hS1, fun _ => hR1, blk_far (p := ⟨b3, 1, none⟩) (blk_far (p := ⟨b3, 0, none⟩) hb2 (show w.heap.size ≠ b3 by omega) u0) (show w.heap.size ≠ b3 by omega) u1, blk_put (cs := #[u0, v1]) (blk_put (cs := #[v0, v1]) hb3 0 u0 rfl) 1 u1 rfl,
  IsS68.far (p := ⟨b3, 1, none⟩) (IsS68.far (p := ⟨b3, 0, none⟩) hI (show g ≠ b3 by omega) u0) (show g ≠ b3 by omega) u1, Below.setCell (Below.setCell hb (p := ⟨b3, 0, none⟩) (show _ ≤ b3 by omega) u0) (p := ⟨b3, 1, none⟩) (show _ ≤ b3 by omega) u1,
  keep_far (p := ⟨b3, 1, none⟩) (keep_far (p := ⟨b3, 0, none⟩) (Kept.keep h.hK hk (fun k hs => by rcases hs with hs | hs <;> exact Nat.le_of_lt hs.1)) (show w.heap.size ≤ b3 by omega) u0) (show w.heap.size ≤ b3 by omega) u1⟩
theorem FullI.out (h : FullI w0 w g b3 s p v0 v1 fl dk W) (h0 : w0.heap.size ≤ w.heap.size) (hg : g < w.heap.size) : Kd.V k42 42 ((W.setCell ⟨w.heap.size, 0, none⟩ v0).setCell ⟨w.heap.size, 1, none⟩ v1) w.heap.size (fun k_ => (w.heap.size ≤ k_) ∧ some k_ ≠ v1.ownBlock) v0 fl ∧ Kd.Q (Kd.int .i64) 3 ((W.setCell ⟨w.heap.size, 0, none⟩ v0).setCell ⟨w.heap.size, 1, none⟩ v1) w.heap.size (fun k_ => (w.heap.size ≤ k_)) v1 dk ∧ IsS68 w0 ((W.setCell ⟨w.heap.size, 0, none⟩ v0).setCell ⟨w.heap.size, 1, none⟩ v1) g s p ∧ Below w0.heap.size w0 ((W.setCell ⟨w.heap.size, 0, none⟩ v0).setCell ⟨w.heap.size, 1, none⟩ v1) ∧ KeepBut w ((W.setCell ⟨w.heap.size, 0, none⟩ v0).setCell ⟨w.heap.size, 1, none⟩ v1) g none := by
 have hn : ∀ k, (fun k => w.heap.size < k ∧ k ≠ b3) k → k ≠ w.heap.size := fun k hk => Nat.ne_of_gt hk.1
 refine ⟨Kd.V_mono (Kd.V_far (p := ⟨w.heap.size, 1, none⟩) (Kd.V_far (p := ⟨w.heap.size, 0, none⟩) h.hV (fun k hk => hn k hk.1) v0) (fun k hk => hn k hk.1) v1) (fun k hk => ⟨Nat.le_of_lt hk.1.1, hk.2⟩), ?_, IsS68.far (p := ⟨w.heap.size, 1, none⟩) (IsS68.far (p := ⟨w.heap.size, 0, none⟩) h.hI (Nat.ne_of_lt hg) v0) (Nat.ne_of_lt hg) v1, Below.setCell (Below.setCell h.hB (p := ⟨w.heap.size, 0, none⟩) h0 v0) (p := ⟨w.heap.size, 1, none⟩) h0 v1, keep_far (p := ⟨w.heap.size, 1, none⟩) (keep_far (p := ⟨w.heap.size, 0, none⟩) h.hK (Nat.le_refl _) v0) (Nat.le_refl _) v1⟩
 exact Q_up (Kd.Q_far (p := ⟨w.heap.size, 1, none⟩) (Kd.Q_far (p := ⟨w.heap.size, 0, none⟩) h.hQ hn v0) hn v1) (fun k hk => Nat.le_of_lt hk.1)
end
def spec_l71Full.l (k : Nat) (s0_0 : List Int) : Nat → List S42 → List Int → Int → Option (List S42 × List Int × Int)
 | 0, fl, dk, p => some (fl, dk, p)
 | n + 1, fl, dk, p => (spec_StoreOk.f k fl dk).bind fun ok => if ok = true then (spec_l6Rd_pick.f k s0_0 p 8).bind fun q => if q.1 > 0 then (if flFine fl = true ∧ dk.length = 6 then (spec_l3Open.f k fl).bind fun o => if o.2 = true then (spec_l6Rd_pick.f k s0_0 q.2 6).bind fun a => (spec_l6Rd_pick.f k s0_0 a.2 10).bind fun b => (spec_l21Do.f k fl dk 1 (wrap64 (1 + a.1)) b.1 9 false).bind fun x => spec_l71Full.l k s0_0 n x.1 x.2 b.2 else some (fl, dk, q.2) else none) else some (fl, dk, q.2) else some (fl, dk, p)
def spec_l71Full.f (k : Nat) (s0_0 : List Int) (s0_1 : Int) : Option (List S42 × List Int × Int) := (spec_l71Store.f k s0_0 s0_1).bind fun x => spec_l71Full.l k s0_0 12 x.1 x.2.1 x.2.2
def spec_l71Full.T8 : Bool × List (List Nat × List Nat) := (true, [([], []), ([], []), ([1], [1]), ([2], [2]), ([], []), ([4, 2], [4]), ([3, 5], [3, 5]), ([0, 6, 5], [0, 6]), ([7, 7, 0, 1, 2, 3, 4, 5, 6, 7], [7])])
def spec_l71Full.B8 : List Nat := [0, 0, 2, 6, 0, 22, 62, 127, 255]
theorem spec_l71Full.tab8 : rtab .any (opsOf Try.f12 8) = spec_l71Full.T8 := by kernel_rfl
theorem spec_l71Full.bits8 : waitsOk spec_l71Full.T8.2 spec_l71Full.B8 = true := by kernel_rfl
theorem spec_l71Full.calls (k g : Nat) (s0_0 : List Int) (s0_1 : Int) (r1 : List S42) (r2 : List Int) (r3 : Int) (w0 w : World) (hI : IsS68 w0 w g s0_0 s0_1) (hB : Below w0.heap.size w0 w) (h : spec_l71Full.f k s0_0 s0_1 = some (r1, r2, r3)) :
 Calls Try.prog 12 #[.pointer (some ⟨g, 0, none⟩)] w fun e w' => ∃ v0_ v1_ : Value, e = .returned (.agg #[v0_, v1_]) ∧ Kd.V k42 42 w' w.heap.size (fun k_ => (w.heap.size ≤ k_) ∧ some k_ ≠ (v1_ : Value).ownBlock) v0_ r1 ∧ Kd.Q (Kd.int .i64) 3 w' w.heap.size (fun k_ => (w.heap.size ≤ k_)) v1_ r2 ∧ IsS68 w0 w' g s0_0 r3 ∧ Below w0.heap.size w0 w' ∧ KeepBut w w' g none := by
 unfold spec_l71Full.f at h
 obtain ⟨⟨fl0, dk0, p1⟩, h1, h⟩ := Option.bind_eq_some_iff.1 h
 have HH := am (show spec_l71Full.l k s0_0 12 fl0 dk0 p1 = some (r1, r2, r3) from h)
 have hu70 := Try.underlying26
 have hgl := IsS68.lt hI
 have HL0 := am hB.size
 clear h
 go_enter Try.func12, Try.ntmps12
 go_wp2_with fail
 refine (spec_l71Store.callsF k g s0_0 s0_1 fl0 dk0 p1 w0 _ (hI.alloc _) (below_alloc hB _) h1).mono ?_
 rintro e w1 ⟨v0, v1, rfl, ⟨hF, hQ, hR⟩, hI1, hB1, hK1⟩
 have hb1 : (w.alloc (.cells #[.slice none 0 0, .slice none 0 0] 26)).heap.size = w.heap.size + 1 := Array.size_push _
 have hlb : w0.heap.size ≤ w.heap.size + 1 := Nat.le_succ_of_le HL0.out
 rw [hb1] at hF hQ hR
 have BK2 := blk_kb (blk_new w (.cells #[.slice none 0 0, .slice none 0 0] 26)) hK1 (show w.heap.size ≠ g by omega)
 have hl1 : w.heap.size < w1.heap.size := blk_lt BK2
 have hP : ∀ k, (w.heap.size + 1 ≤ k) ∧ k < w1.heap.size → w.heap.size < k ∧ k ≠ w1.heap.size := fun k hk => ⟨hk.1, Nat.ne_of_lt hk.2⟩
 have HX : ∀ o, Aside0 (o = .cells #[v0, v1] 26 → FullI w0 w g w1.heap.size s0_0 p1 v0 v1 fl0 dk0 (w1.alloc o)) := fun o => ⟨by
  rintro rfl
  exact ⟨Kd.V_lower (e := 42) (base := w.heap.size + 1) (Kd.V_alloc (e := 42) (base := w.heap.size + 1) (Kd.V_mono (e := 42) (base := w.heap.size + 1) (Kd.V_elderB (e := 42) (base := w.heap.size + 1) (hF.Vq (e := 42) hQ) w1.heap.size (Nat.le_refl _)) (fun k hk => ⟨⟨hk.1.1, hk.2⟩, hk.1.2⟩)) _) hlb, Kd.Q_lower (Kd.Q_alloc (Kd.Q_mono (Kd.Q_bound hQ) (fun k hk => hP k ⟨hk.1, hk.2.2.1⟩)) _) hlb, fun hf => Kd.S_lower (Kd.S_alloc (Kd.S_mono (Kd.S_bound (flAt_S hF hf)) (fun k hk => hP k ⟨hk.1, hk.2.2.1⟩)) _) hlb, fun hf => Kd.R_lower (Kd.R_alloc (Kd.R_mono (Kd.R_bound (hR hf)) (fun k hk => hP k ⟨hk.1, hk.2.2.1⟩)) _) hlb, blk_alloc BK2 _, blk_new w1 _, hI1.alloc _, below_alloc hB1 _, keep_alloc (KeepBut.trans (keep_alloc (KeepBut.refl w g none) _) hK1 (.inl rfl)) _⟩⟩
 obtain ⟨A0, c0, rfl⟩ := Kd.V_slice (hF.V (b := 0) (e := 0))
 obtain ⟨A1, c1, rfl, -⟩ := Kd.Q_slice hQ
 replace HX := am ((HX _).out rfl)
 have HL1 := am hl1
 generalize hb3 : w1.heap.size = b3 at HX HL1
 clear hF hQ hR hI1 hB1 hK1 BK2 hP hlb hb1 h1 hI hB hl1
 go_wp2_with fail
 go_loopg [4] 14 (fun kq v4 W => ∃ (i n : Nat) (fl : List S42) (dk : List Int) (p : Int) (v0 v1 : Value), v4 = .int .i64 (i : Int) ∧ Aside0 (kq + i = 14) ∧ Aside0 (n + i = 12) ∧ Aside0 (spec_l71Full.l k s0_0 n fl dk p = some (r1, r2, r3)) ∧ Aside0 (FullI w0 w g b3 s0_0 p v0 v1 fl dk W))
 case atStart => exact ⟨0, 12, fl0, dk0, p1, _, _, rfl, ⟨rfl⟩, ⟨rfl⟩, HH, HX⟩
 case round =>
  clear HH HX
  obtain ⟨i, n, fl, dk, p, v0, v1, rfl, HK, HN, HH, HX⟩ := hrel
  obtain ⟨A0, c0, rfl⟩ := Kd.V_slice HX.out.hV
  obtain ⟨A1, c1, rfl, -⟩ := Kd.Q_slice HX.out.hQ
  cases n with
  | zero =>
   have h := HH.out
   rw [spec_l71Full.l] at h
   obtain ⟨rfl, rfl, rfl⟩ : fl = r1 ∧ dk = r2 ∧ p = r3 := by
    have e := Prod.mk.inj (Option.some.inj h)
    exact ⟨e.1, Prod.mk.inj e.2⟩
   have cic : ¬ ((i : Int) < 12) := by have := HN.out; omega
   have cib := decide_eq_false cic
   clear HH HK HN h
   have hz0 := (blk_cell HX.out.b3 0).trans rfl
   have hz1 := (blk_cell HX.out.b3 1).trans rfl
   have hy0 := (blk_cell HX.out.b2 0).trans rfl
   have hy1 := (blk_cell HX.out.b2 1).trans rfl
   have hx0 := blk_frozen HX.out.b3 0
   have hx1 := blk_frozen HX.out.b3 1
   have hw0 := blk_frozen HX.out.b2 0
   have hw1 := blk_frozen HX.out.b2 1
   have hne := Nat.ne_of_gt HL1.out
   have hne' := Nat.ne_of_lt HL1.out
   go_wp2
   refine bodyPost_ret (results_cell_row rfl _ _ w.heap.size 26 #[.slice A0 fl.length c0, .slice A1 dk.length c1] (0, 0) _ rfl (blk_put (cs := #[.slice A0 fl.length c0, .slice none 0 0]) (blk_put (cs := #[.slice none 0 0, .slice none 0 0]) HX.out.b2 0 _ rfl) 1 _ rfl) Try.underlying26 rfl (by kernel_rfl)) rfl ?_
   exact ⟨_, _, rfl, HX.out.out HL0.out hgl⟩
  | succ n =>
   have h := HH.out
   rw [spec_l71Full.l] at h
   obtain ⟨ok, hok, h⟩ := Option.bind_eq_some_iff.1 h
   have cic : (i : Int) < 12 := by have := HN.out; omega
   have cib := decide_eq_true cic
   replace HH := am h
   clear h
   have hz0 := (blk_cell HX.out.b3 0).trans rfl
   have hz1 := (blk_cell HX.out.b3 1).trans rfl
   have hy0 := (blk_cell HX.out.b2 0).trans rfl
   have hy1 := (blk_cell HX.out.b2 1).trans rfl
   have hx0 := blk_frozen HX.out.b3 0
   have hx1 := blk_frozen HX.out.b3 1
   have hw0 := blk_frozen HX.out.b2 0
   have hw1 := blk_frozen HX.out.b2 1
   have hne := Nat.ne_of_gt HL1.out
   have hne' := Nat.ne_of_lt HL1.out
   go_wp2_with fail
   refine (spec_StoreOk.calls k A0 c0 fl A1 c1 dk ok _ (Kd.V_reads' HX.out.hV).2.2 (Kd.V_reads' HX.out.hV).2.1 (Kd.Q_reads' HX.out.hQ).2.2 (Kd.Q_reads' HX.out.hQ).2.1 hok).mono ?_
   rintro e W2 ⟨rfl, hb⟩
   replace HX := am (HX.out.below hb)
   clear hb hok hz0 hz1 hy0 hy1 hx0 hx1 hw0 hw1 hne hne'
   have h := HH.out
   clear HH
   cases ok with
   | false =>
    rw [if_neg (by decide)] at h
    obtain ⟨rfl, rfl, rfl⟩ : fl = r1 ∧ dk = r2 ∧ p = r3 := by
     have e := Prod.mk.inj (Option.some.inj h)
     exact ⟨e.1, Prod.mk.inj e.2⟩
    clear h
    have hz0 := (blk_cell HX.out.b3 0).trans rfl
    have hz1 := (blk_cell HX.out.b3 1).trans rfl
    have hy0 := (blk_cell HX.out.b2 0).trans rfl
    have hy1 := (blk_cell HX.out.b2 1).trans rfl
    have hx0 := blk_frozen HX.out.b3 0
    have hx1 := blk_frozen HX.out.b3 1
    have hw0 := blk_frozen HX.out.b2 0
    have hw1 := blk_frozen HX.out.b2 1
    have hne := Nat.ne_of_gt HL1.out
    have hne' := Nat.ne_of_lt HL1.out
    go_wp2
    refine bodyPost_ret (results_cell_row rfl _ _ w.heap.size 26 #[.slice A0 fl.length c0, .slice A1 dk.length c1] (0, 0) _ rfl (blk_put (cs := #[.slice A0 fl.length c0, .slice none 0 0]) (blk_put (cs := #[.slice none 0 0, .slice none 0 0]) HX.out.b2 0 _ rfl) 1 _ rfl) Try.underlying26 rfl (by kernel_rfl)) rfl ?_
    exact ⟨_, _, rfl, HX.out.out HL0.out hgl⟩
   | true =>
    rw [if_pos rfl] at h
    obtain ⟨⟨q, p2⟩, hq, h⟩ := Option.bind_eq_some_iff.1 h
    have HH := am h
    clear h
    go_wp2_with fail
    refine (spec_l6Rd_pick.calls k g s0_0 p 8 q p2 w0 _ HX.out.hI HX.out.hB hq).mono ?_
    rintro e W3 ⟨rfl, hI_, hB_, hK_⟩
    replace HX := am (HX.out.pick hgl HL1.out hI_ hB_ hK_)
    clear hI_ hB_ hK_ hq
    have h := HH.out
    clear HH
    by_cases hq0 : q > 0
    rotate_left
    · replace h := (if_neg hq0).symm.trans h
      obtain ⟨rfl, rfl, rfl⟩ : fl = r1 ∧ dk = r2 ∧ p2 = r3 := by
       have e := Prod.mk.inj (Option.some.inj h)
       exact ⟨e.1, Prod.mk.inj e.2⟩
      have hqb := decide_eq_false hq0
      clear h
      have hz0 := (blk_cell HX.out.b3 0).trans rfl
      have hz1 := (blk_cell HX.out.b3 1).trans rfl
      have hy0 := (blk_cell HX.out.b2 0).trans rfl
      have hy1 := (blk_cell HX.out.b2 1).trans rfl
      have hx0 := blk_frozen HX.out.b3 0
      have hx1 := blk_frozen HX.out.b3 1
      have hw0 := blk_frozen HX.out.b2 0
      have hw1 := blk_frozen HX.out.b2 1
      have hne := Nat.ne_of_gt HL1.out
      have hne' := Nat.ne_of_lt HL1.out
      go_wp2
      refine bodyPost_ret (results_cell_row rfl _ _ w.heap.size 26 #[.slice A0 fl.length c0, .slice A1 dk.length c1] (0, 0) _ rfl (blk_put (cs := #[.slice A0 fl.length c0, .slice none 0 0]) (blk_put (cs := #[.slice none 0 0, .slice none 0 0]) HX.out.b2 0 _ rfl) 1 _ rfl) Try.underlying26 rfl (by kernel_rfl)) rfl ?_
      exact ⟨_, _, rfl, HX.out.out HL0.out hgl⟩
    replace h := (if_pos hq0).symm.trans h
    have hqb := decide_eq_true hq0
    by_cases hg2 : flFine fl = true ∧ dk.length = 6
    rotate_left
    · cases (if_neg hg2).symm.trans h
    replace h := (if_pos hg2).symm.trans h
    have HG := am hg2
    clear hg2
    obtain ⟨⟨o1, o2⟩, ho, h⟩ := Option.bind_eq_some_iff.1 h
    have HH := am h
    clear h
    have hz0 := (blk_cell HX.out.b3 0).trans rfl
    have hz1 := (blk_cell HX.out.b3 1).trans rfl
    have hy0 := (blk_cell HX.out.b2 0).trans rfl
    have hy1 := (blk_cell HX.out.b2 1).trans rfl
    have hx0 := blk_frozen HX.out.b3 0
    have hx1 := blk_frozen HX.out.b3 1
    have hw0 := blk_frozen HX.out.b2 0
    have hw1 := blk_frozen HX.out.b2 1
    have hne := Nat.ne_of_gt HL1.out
    have hne' := Nat.ne_of_lt HL1.out
    go_wp2_with fail
    refine (spec_l3Open.calls k A0 c0 fl o1 o2 _ (Kd.V_reads' HX.out.hV).2.2 (Kd.V_reads' HX.out.hV).2.1 ho).mono ?_
    rintro e W4 ⟨rfl, hb⟩
    replace HX := am (HX.out.below hb)
    clear hb ho hz0 hz1 hy0 hy1 hx0 hx1 hw0 hw1 hne hne'
    have h := HH.out
    clear HH
    cases o2 with
    | false =>
     replace h := (if_neg (show ¬ (false = true) by decide)).symm.trans h
     obtain ⟨rfl, rfl, rfl⟩ : fl = r1 ∧ dk = r2 ∧ p2 = r3 := by
      have e := Prod.mk.inj (Option.some.inj h)
      exact ⟨e.1, Prod.mk.inj e.2⟩
     clear h
     have hz0 := (blk_cell HX.out.b3 0).trans rfl
     have hz1 := (blk_cell HX.out.b3 1).trans rfl
     have hy0 := (blk_cell HX.out.b2 0).trans rfl
     have hy1 := (blk_cell HX.out.b2 1).trans rfl
     have hx0 := blk_frozen HX.out.b3 0
     have hx1 := blk_frozen HX.out.b3 1
     have hw0 := blk_frozen HX.out.b2 0
     have hw1 := blk_frozen HX.out.b2 1
     have hne := Nat.ne_of_gt HL1.out
     have hne' := Nat.ne_of_lt HL1.out
     go_wp2
     refine bodyPost_ret (results_cell_row rfl _ _ w.heap.size 26 #[.slice A0 fl.length c0, .slice A1 dk.length c1] (0, 0) _ rfl (blk_put (cs := #[.slice A0 fl.length c0, .slice none 0 0]) (blk_put (cs := #[.slice none 0 0, .slice none 0 0]) HX.out.b2 0 _ rfl) 1 _ rfl) Try.underlying26 rfl (by kernel_rfl)) rfl ?_
     exact ⟨_, _, rfl, HX.out.out HL0.out hgl⟩
    | true =>
     replace h := (if_pos rfl).symm.trans h
     obtain ⟨⟨a, p3⟩, ha, h⟩ := Option.bind_eq_some_iff.1 h
     obtain ⟨⟨b, p4⟩, hb, h⟩ := Option.bind_eq_some_iff.1 h
     obtain ⟨⟨fl2, dk2⟩, hd, h⟩ := Option.bind_eq_some_iff.1 h
     have HH := am h
     clear h
     go_wp2_with fail
     have hHeld0 : W4.drew.cell? ⟨b3, 0, none⟩ = some (.slice A0 fl.length c0) ∧ W4.drew.cell? ⟨b3, 1, none⟩ = some (.slice A1 dk.length c1) := ⟨(blk_cell HX.out.b3 0).trans rfl, (blk_cell HX.out.b3 1).trans rfl⟩
     replace HX := am HX.out.drew
     refine start_ (n := 9) (S := fun W => W.cell? ⟨b3, 0, none⟩ = some (.slice A0 fl.length c0) ∧ W.cell? ⟨b3, 1, none⟩ = some (.slice A1 dk.length c1)) (ds := [8]) (bt 9 0) (by kernel_rfl) rfl rfl hHeld0 (fun hHeld => ?_)
     refine with_tabW spec_l71Full.tab8 spec_l71Full.bits8 (fun HT_ HW_ => ?_)
     generalize W4.drew = W5 at HX hHeld ⊢
     clear hHeld0
     refine qm 0 31 (bt 9 1) rfl rfl HT_.out HW_.out hHeld ?_
     refine qj 1 32 (bt 9 3) rfl rfl HT_.out ?_
     refine qj 4 35 (bt 9 19) rfl rfl HT_.out ?_
     refine qo 2 (some 33) (bt 9 23) rfl rfl HT_.out fun K hK => ?_
     refine qg Try.func13 #[.pointer (some ⟨g, 0, none⟩), .int .i64 6] rfl rfl ?_
     refine (spec_l6Rd_pick.calls k g s0_0 p2 6 a p3 w0 _ HX.out.hI HX.out.hB ha).mono ?_
     rintro e W6 ⟨rfl, hI_, hB_, hK_⟩
     refine ⟨_, rfl, ?_⟩
     replace HX := am (HX.out.pick hgl HL1.out hI_ hB_ hK_)
     clear hI_ hB_ hK_
     refine hK.out _ _ ⟨(blk_cell HX.out.b3 0).trans rfl, (blk_cell HX.out.b3 1).trans rfl⟩ (fun hHeld => ?_)
     clear hK K
     refine qn (some 33) ?_
     refine qj 3 34 (bt 9 31) rfl rfl HT_.out ?_
     refine qo 5 (some 36) (bt 9 63) rfl rfl HT_.out fun K hK => ?_
     refine qg Try.func13 #[.pointer (some ⟨g, 0, none⟩), .int .i64 10] rfl rfl ?_
     refine (spec_l6Rd_pick.calls k g s0_0 p3 10 b p4 w0 _ HX.out.hI HX.out.hB hb).mono ?_
     rintro e W7 ⟨rfl, hI_, hB_, hK_⟩
     refine ⟨_, rfl, ?_⟩
     replace HX := am (HX.out.pick hgl HL1.out hI_ hB_ hK_)
     clear hI_ hB_ hK_
     refine hK.out _ _ ⟨(blk_cell HX.out.b3 0).trans rfl, (blk_cell HX.out.b3 1).trans rfl⟩ (fun hHeld => ?_)
     clear hK K
     refine qn (some 36) ?_
     refine qj 6 37 (bt 9 127) rfl rfl HT_.out ?_
     refine qo 7 (some 38) (bt 9 255) rfl rfl HT_.out fun K hK => ?_
     refine qg Try.func27 #[.agg #[.slice A0 fl.length c0, .slice A1 dk.length c1], .agg #[.int .i64 1, .int .i64 (wrap64 (1 + a)), .int .i64 b, .int .i64 9, .bool false]] rfl rfl ?_
     refine (spec_l21Do.calls k (fun k => w.heap.size < k ∧ k ≠ b3) _ fl (fun k => w.heap.size < k ∧ k ≠ b3) _ dk 1 (wrap64 (1 + a)) b 9 false fl2 dk2 w0 _ HX.out.hB (HX.out.hS HG.out.1) (HX.out.hR HG.out.2) hd).mono ?_
     rintro e W8 ⟨u0, u1, rfl, hS8, hR8, hb8, hk8⟩
     refine ⟨_, rfl, ?_⟩
     have hX8 := HX.out.put HL0.out hgl HL1.out hS8 hR8 hb8 hk8
     have hb3 := blk_kept HX.out.b3 hk8 (fun hs => by rcases hs with hs | hs <;> exact hs.2 rfl)
     obtain ⟨A2, c2, rfl⟩ := Kd.S_slice hS8
     obtain ⟨A3, c3, rfl⟩ := Kd.R_slice hR8
     have HX8 := am hX8
     refine hK.out _ _ ⟨(blk_cell hb3 0).trans rfl, (blk_cell hb3 1).trans rfl⟩ (fun hHeld => ?_)
     clear hK K HX hX8 hS8 hR8 hb8 hk8
     refine qn (some 38) ?_
     refine last_ (i := 8) (N := none) (bt 9 511) rfl rfl (one_of HT_.out (by kernel_rfl)) (by decide) (fun K hK => ?_)
     have hf0 := blk_frozen hb3 0
     have hf1 := blk_frozen hb3 1
     obtain ⟨hc0, hc1⟩ := hHeld
     refine qs rfl ?_
     refine hK.out _ _ ?_
     clear hK K hb3 hf0 hf1 hc0 hc1
     refine done_ (done_of HT_.out (by kernel_rfl)) ?_
     clear HT_ HW_
     generalize ((W8.setCell ⟨b3, 0, none⟩ (.slice A2 fl2.length c2)).setCell ⟨b3, 1, none⟩ (.slice A3 dk2.length c3)) = W9 at HX8 ⊢
     have hw14 : wrap64 ((i : Int) + 1) = ((i + 1 : Nat) : Int) := by rw [IntWalk.wrap64_in _ (by have := HN.out; omega)]; omega
     obtain ⟨k1, rfl⟩ : ∃ k, gk = k + 1 := by
      have := HK.out
      have := HN.out
      exact ⟨gk - 1, by omega⟩
     go_wp2
     go_roundg k1
     case measure => have := HK.out; omega
     case rel => exact ⟨i + 1, n, fl2, dk2, p4, _, _, by first | rfl | (simp; done) | (simp [hw14]; done), ⟨by have := HK.out; omega⟩, ⟨by have := HN.out; omega⟩, HH, HX8⟩
def spec_DrawStepsPut.f (k : Nat) (l0 : List Int) : Option ((List (S42)) × List Int × Int × Int) := (spec_l6Open.f l0).bind fun bt360 => ((spec_l71Full.f k bt360.1 bt360.2).bind fun bt363 => ((spec_l6Rd_pick.f k bt360.1 bt363.2.2 6).bind fun bt370 => ((spec_l6Rd_pick.f k bt360.1 bt370.2 24).bind fun bt372 => ((spec_l6Rd_pick.f k bt360.1 bt372.2 10).bind fun bt374 => ((spec_l6Rd_pick.f k bt360.1 bt374.2 24).bind fun bt376 => (some (bt363.1, bt363.2.1, wrap64 ((wrap64 (1 + bt370.1)) + (wrap64 ((wrap64 (Int.tdiv bt372.1 23)) * 6))), wrap64 (bt374.1 - (wrap64 ((wrap64 (Int.tdiv bt376.1 23)) * 10))))))))))
theorem spec_DrawStepsPut.calls (k : Nat) (A0 : Option Addr) (c0 : Nat) (l0 : List Int) (r1 : List (S42)) (r2 : List Int) (r3 : Int) (r4 : Int) (w : World) (hr0 : Kd.C (Kd.int .u8) w A0 l0.length l0) (hc0 : l0.length ≤ c0) (h : spec_DrawStepsPut.f k l0 = some (r1, r2, r3, r4)) :
 Calls Try.prog 4 #[.slice A0 l0.length c0] w fun e w' => ∃ v0_ v1_ : Value, e = .returned (.tuple #[.agg #[v0_, v1_], .int .i64 r3, .int .i64 r4]) ∧ Kd.V k42 42 w' w.heap.size (fun k_ => (w.heap.size ≤ k_) ∧ some k_ ≠ (v1_ : Value).ownBlock) v0_ r1 ∧ Kd.Q (Kd.int .i64) 3 w' w.heap.size (fun k_ => (w.heap.size ≤ k_)) v1_ r2 ∧ Below w.heap.size w w' := by
 have hu26 := Try.underlying26
 have HR0 := am hr0
 have HC0 := am hc0
 clear hr0 hc0
 have HB := am (Below.refl w.heap.size w)
 have H : ((spec_l6Open.f l0).bind fun bt360 => ((spec_l71Full.f k bt360.1 bt360.2).bind fun bt363 => ((spec_l6Rd_pick.f k bt360.1 bt363.2.2 6).bind fun bt370 => ((spec_l6Rd_pick.f k bt360.1 bt370.2 24).bind fun bt372 => ((spec_l6Rd_pick.f k bt360.1 bt372.2 10).bind fun bt374 => ((spec_l6Rd_pick.f k bt360.1 bt374.2 24).bind fun bt376 => (some (bt363.1, bt363.2.1, wrap64 ((wrap64 (1 + bt370.1)) + (wrap64 ((wrap64 (Int.tdiv bt372.1 23)) * 6))), wrap64 (bt374.1 - (wrap64 ((wrap64 (Int.tdiv bt376.1 23)) * 10))))))))))) = some (r1, r2, r3, r4) := h
 clear h
 replace H := Option.bind_eq_some_iff.mp H
 obtain ⟨⟨t360, t361⟩, A20, H⟩ := H
 have A2 := am A20
 clear A20
 replace H := Option.bind_eq_some_iff.mp H
 obtain ⟨⟨t363, t366, t369⟩, A30, H⟩ := H
 have A3 := am A30
 clear A30
 replace H := Option.bind_eq_some_iff.mp H
 obtain ⟨⟨t370, t371⟩, A40, H⟩ := H
 have A4 := am A40
 clear A40
 replace H := Option.bind_eq_some_iff.mp H
 obtain ⟨⟨t372, t373⟩, A50, H⟩ := H
 have A5 := am A50
 clear A50
 replace H := Option.bind_eq_some_iff.mp H
 obtain ⟨⟨t374, t375⟩, A60, H⟩ := H
 have A6 := am A60
 clear A60
 replace H := Option.bind_eq_some_iff.mp H
 obtain ⟨⟨t376, t377⟩, A70, H⟩ := H
 have A7 := am A70
 clear A70
 simp only [Option.some.injEq, Prod.mk.injEq] at H
 obtain ⟨rfl, rfl, rfl, rfl⟩ := H
 go_enter Try.func4, Try.ntmps4
 go_wp2_with (first | (refine bx 2 #[.slice none 0 0, .slice none 0 0] 26 rfl ?_; intro gb359 hg w8 hbox hb; have BK359 := am (hbox); have GW359 := am (ge hg (ph HB.out)); have GE359 := GW359; replace HB := am (below_step (ph HB.out) hb); clear hb hbox hg) | (refine gl 7 Try.func11 #[.slice A0 l0.length c0] rfl ?_; (with_reducible refine (spec_l6Open.calls _ _ l0 t360 t361 w _ ?side1 ?side2 ?side3 A2.out).mono ?_); (case side1 => exact bg1 HB.out GE359.out); (case side2 => exact HR0.out); (case side3 => exact HC0.out); rintro e w9 ⟨g362, rfl, hi, hb, hb2⟩; refine ⟨_, rfl, ?_⟩; replace HB := am (hb); have HI362 := am (hi); have NB362_359 := am (IsS68.ne_blk hi (blk_below (pb BK359.out) hb2) (by decide)); have NB359_362 := am (Ne.symm (IsS68.ne_blk hi (blk_below (pb BK359.out) hb2) (by decide))); replace BK359 := am (blk_below (pb BK359.out) hb2); clear hb hb2 hi) | (refine gl 9 Try.func12 #[.pointer (some ⟨g362, 0, none⟩)] rfl ?_; (with_reducible refine (spec_l71Full.calls k g362 t360 t361 t363 t366 t369 w _ ?side1 ?side2 A3.out).mono ?_); (case side1 => exact IsS68.g1 HI362.out NB362_359.out); (case side2 => exact bg2 HB.out (IsS68.ge HI362.out) GE359.out); rintro e w10 ⟨v364, v367, rfl, ho0, ho1, hi, hb, hk⟩; refine ⟨_, rfl, ?_⟩; have HO365 := am (Kd.V_lower (Kd.V_mono (ok' := fun k_ => (w.heap.size ≤ k_) ∧ some k_ ≠ (v367 : Value).ownBlock ∧ k_ ≠ gb359 ∧ k_ ≠ g362) ho0 (fun k_ hk_ => ⟨(Nat.le_trans (below_size (bg2 HB.out (IsS68.ge HI362.out) GE359.out)) hk_.1), hk_.2, (Kd.freshB (g := gb359) (o := .cells #[.slice none 0 0, .slice none 0 0] 26 (0, 0)) (pb BK359.out) k_ hk_.1), (IsS68.fresh (IsS68.g1 HI362.out NB362_359.out) k_ hk_.1)⟩)) (below_size (bg2 HB.out (IsS68.ge HI362.out) GE359.out))); replace BK359 := am (KeepBut.blk hk (pb BK359.out) NB359_362.out (by simp)); have HO368 := am (Kd.Q_lower (Kd.Q_newM (M := fun k_ => (w.heap.size ≤ k_)) (Kd.Q_mono (ok' := fun k_ => True) ho1 (fun _ hk_ => trivial)) (below_size (bg2 HB.out (IsS68.ge HI362.out) GE359.out)) (fun k_ h_ => h_)) (below_size (bg2 HB.out (IsS68.ge HI362.out) GE359.out))); replace HB := am (hb); replace HI362 := am (hi); clear hb hk hi ho0 ho1) | (refine gl 11 Try.func13 #[.pointer (some ⟨g362, 0, none⟩), .int .i64 6] rfl ?_; (with_reducible refine (spec_l6Rd_pick.calls k g362 t360 t369 6 t370 t371 w _ ?side1 ?side2 A4.out).mono ?_); (case side1 => exact IsS68.g1 HI362.out NB362_359.out); (case side2 => exact bg2 HB.out (IsS68.ge HI362.out) GE359.out); rintro e w11 ⟨rfl, hi, hb, hk⟩; refine ⟨_, rfl, ?_⟩; replace BK359 := am (KeepBut.blk hk (pb BK359.out) NB359_362.out (by simp)); replace HO365 := am (Kd.V_mono (Kd.V_keep (Kd.V_mono (ok := fun k_ => (((w.heap.size ≤ k_)) ∧ (some k_ ≠ (v367 : Value).ownBlock ∧ (k_ ≠ gb359 ∧ k_ ≠ g362)))) (pv HO365.out) (fun k_ hk_ => (⟨hk_, hk_.2.2.2⟩ : _ ∧ k_ ≠ g362))) hk (fun _ h => h.2)) (fun _ h => h.1)); replace HO368 := am (Kd.Q_mono (Kd.Q_keep (IsS68.apartQ (show IsS68 w _ g362 t360 t369 from IsS68.g1 HI362.out NB362_359.out) (pq HO368.out) (by decide)) hk (fun _ h => h.2)) (fun _ h => h.1)); replace HB := am (hb); replace HI362 := am (hi); clear hb hk hi) | (refine gl 14 Try.func13 #[.pointer (some ⟨g362, 0, none⟩), .int .i64 24] rfl ?_; (with_reducible refine (spec_l6Rd_pick.calls k g362 t360 t371 24 t372 t373 w _ ?side1 ?side2 A5.out).mono ?_); (case side1 => exact IsS68.g1 HI362.out NB362_359.out); (case side2 => exact bg2 HB.out (IsS68.ge HI362.out) GE359.out); rintro e w12 ⟨rfl, hi, hb, hk⟩; refine ⟨_, rfl, ?_⟩; replace BK359 := am (KeepBut.blk hk (pb BK359.out) NB359_362.out (by simp)); replace HO365 := am (Kd.V_mono (Kd.V_keep (Kd.V_mono (ok := fun k_ => (((w.heap.size ≤ k_)) ∧ (some k_ ≠ (v367 : Value).ownBlock ∧ (k_ ≠ gb359 ∧ k_ ≠ g362)))) (pv HO365.out) (fun k_ hk_ => (⟨hk_, hk_.2.2.2⟩ : _ ∧ k_ ≠ g362))) hk (fun _ h => h.2)) (fun _ h => h.1)); replace HO368 := am (Kd.Q_mono (Kd.Q_keep (IsS68.apartQ (show IsS68 w _ g362 t360 t371 from IsS68.g1 HI362.out NB362_359.out) (pq HO368.out) (by decide)) hk (fun _ h => h.2)) (fun _ h => h.1)); replace HB := am (hb); replace HI362 := am (hi); clear hb hk hi) | (refine gl 19 Try.func13 #[.pointer (some ⟨g362, 0, none⟩), .int .i64 10] rfl ?_; (with_reducible refine (spec_l6Rd_pick.calls k g362 t360 t373 10 t374 t375 w _ ?side1 ?side2 A6.out).mono ?_); (case side1 => exact IsS68.g1 HI362.out NB362_359.out); (case side2 => exact bg2 HB.out (IsS68.ge HI362.out) GE359.out); rintro e w13 ⟨rfl, hi, hb, hk⟩; refine ⟨_, rfl, ?_⟩; replace BK359 := am (KeepBut.blk hk (pb BK359.out) NB359_362.out (by simp)); replace HO365 := am (Kd.V_mono (Kd.V_keep (Kd.V_mono (ok := fun k_ => (((w.heap.size ≤ k_)) ∧ (some k_ ≠ (v367 : Value).ownBlock ∧ (k_ ≠ gb359 ∧ k_ ≠ g362)))) (pv HO365.out) (fun k_ hk_ => (⟨hk_, hk_.2.2.2⟩ : _ ∧ k_ ≠ g362))) hk (fun _ h => h.2)) (fun _ h => h.1)); replace HO368 := am (Kd.Q_mono (Kd.Q_keep (IsS68.apartQ (show IsS68 w _ g362 t360 t373 from IsS68.g1 HI362.out NB362_359.out) (pq HO368.out) (by decide)) hk (fun _ h => h.2)) (fun _ h => h.1)); replace HB := am (hb); replace HI362 := am (hi); clear hb hk hi) | (refine gl 21 Try.func13 #[.pointer (some ⟨g362, 0, none⟩), .int .i64 24] rfl ?_; (with_reducible refine (spec_l6Rd_pick.calls k g362 t360 t375 24 t376 t377 w _ ?side1 ?side2 A7.out).mono ?_); (case side1 => exact IsS68.g1 HI362.out NB362_359.out); (case side2 => exact bg2 HB.out (IsS68.ge HI362.out) GE359.out); rintro e w14 ⟨rfl, hi, hb, hk⟩; refine ⟨_, rfl, ?_⟩; replace BK359 := am (KeepBut.blk hk (pb BK359.out) NB359_362.out (by simp)); replace HO365 := am (Kd.V_mono (Kd.V_keep (Kd.V_mono (ok := fun k_ => (((w.heap.size ≤ k_)) ∧ (some k_ ≠ (v367 : Value).ownBlock ∧ (k_ ≠ gb359 ∧ k_ ≠ g362)))) (pv HO365.out) (fun k_ hk_ => (⟨hk_, hk_.2.2.2⟩ : _ ∧ k_ ≠ g362))) hk (fun _ h => h.2)) (fun _ h => h.1)); replace HO368 := am (Kd.Q_mono (Kd.Q_keep (IsS68.apartQ (show IsS68 w _ g362 t360 t375 from IsS68.g1 HI362.out NB362_359.out) (pq HO368.out) (by decide)) hk (fun _ h => h.2)) (fun _ h => h.1)); replace HB := am (hb); replace HI362 := am (hi); clear hb hk hi; obtain ⟨Ao15, co15, eo15⟩ := Kd.V_slice HO365.out; subst eo15; have hnb16 := NB359_362.out; have hnc16 := NB362_359.out; obtain ⟨hcz17_0, hcz17_1⟩ := b2 BK359.out; obtain ⟨hfz17_0, hfz17_1⟩ := f2 BK359.out; obtain ⟨Ao18, co18, eo18, _⟩ := Kd.Q_slice HO368.out; subst eo18))
 refine bodyPost_ret (results_ctt rfl _ _ gb359 26 #[.slice Ao15 t363.length co15, .slice Ao18 t366.length co18] (0, 0) _ rfl (bp2 (pb BK359.out)) Try.underlying26 rfl (by kernel_rfl)) rfl ?_
 exact ⟨_, _, rq ⟨pv (Kd.V_mono (Kd.V_far (p := ⟨gb359, 1, none⟩) (Kd.V_far (p := ⟨gb359, 0, none⟩) (Kd.V_mono HO365.out (fun k_ hk => (⟨hk, hk.2.2.1⟩ : _ ∧ k_ ≠ gb359))) (fun _ hk => hk.2) (.slice Ao15 t363.length co15)) (fun _ hk => hk.2) (.slice Ao18 t366.length co18)) (fun _ hk => ⟨hk.1.1, hk.1.2.1⟩)), pq (Kd.Q_mono (Kd.Q_far (p := ⟨gb359, 1, none⟩) (Kd.Q_far (p := ⟨gb359, 0, none⟩) (Kd.Q_types HO368.out BK359.out (by decide)) (fun _ hk => hk.2) (.slice Ao15 t363.length co15)) (fun _ hk => hk.2) (.slice Ao18 t366.length co18)) (fun _ hk => hk.1.1)), bg2 HB.out (IsS68.ge HI362.out) GE359.out⟩⟩
mutual
def impl_blockShape.j0 : Nat → Bool → List (S39) → Int → Option (Bool)
 | 0, _, _, _ => none
 | k + 1, x19, x379000, x379001 => if x19 = true then (some false) else (impl_blockShape.l0 k false x379000 (x379000.length : Int) 0)
def impl_blockShape.l0 : Nat → Bool → List (S39) → Int → Int → Option (Bool)
 | 0, _, _, _, _ => none
 | k + 1, x3, x21, x22, x23 => if x23 < x22 then (if 0 ≤ x23 then (if x23 < (x21.length : Int) then (if x3 = true then (if ((rd_T39 x21 x23).f0) = 0 then (impl_blockShape.l0 k (((rd_T39 x21 x23).f0) == 0) x21 x22 (wrap64 (x23 + 1))) else (some false)) else (impl_blockShape.l0 k (((rd_T39 x21 x23).f0) == 0) x21 x22 (wrap64 (x23 + 1)))) else (none)) else (none)) else (some true)
end
def impl_blockShape.f (k : Nat) (l0_0 : List (S39)) (a0_1 : Int) : Option (Bool) := if (l0_0.length : Int) = 4 then (if a0_1 < 0 then (impl_blockShape.j0 k true l0_0 a0_1) else (impl_blockShape.j0 k (decide (a0_1 > 200)) l0_0 a0_1)) else (impl_blockShape.j0 k true l0_0 a0_1)
theorem impl_blockShape.calls (k : Nat) (A0_0 : Option Addr) (c0_0 : Nat) (l0_0 : List (S39)) (a0_1 : Int) (r : Bool) (w : World) (hr0_0 : Kd.C k39 w A0_0 l0_0.length l0_0) (hc0_0 : l0_0.length ≤ c0_0) (h : impl_blockShape.f k l0_0 a0_1 = some r) :
 Calls Try.prog 40 #[.agg #[.slice A0_0 l0_0.length c0_0, .int .i64 a0_1]] w fun e w' => e = .returned (.bool r) ∧ Below w.heap.size w w' := by
 have hu42 := Try.underlying42
 have hu39 := Try.underlying39
 have HR0_0 := am hr0_0
 have HC0_0 := am hc0_0
 clear hr0_0 hc0_0
 have HB := am (Below.refl w.heap.size w)
 have H : (if (l0_0.length : Int) = 4 then (if a0_1 < 0 then (impl_blockShape.j0 k true l0_0 a0_1) else (impl_blockShape.j0 k (decide (a0_1 > 200)) l0_0 a0_1)) else (impl_blockShape.j0 k true l0_0 a0_1)) = some r := h
 clear h
 have HC2 := am H
 clear H
 go_enter Try.func40, Try.ntmps40
 go_upto_region 1 with (first | (refine bx 1 #[.slice A0_0 l0_0.length c0_0, .int .i64 a0_1] 42 rfl ?_; intro gb378 hg w3 hbox hb; have BK378 := am (hbox); have GW378 := am (ge hg (ph HB.out)); have GE378 := GW378; replace HB := am (below_step (ph HB.out) hb); clear hb hbox hg))
 (try simp only [Act.put, List.setIfInBounds_toArray, List.set_cons_zero, List.set_cons_succ])
 go_cut [19] (fun v19 wc => ∃ (kq : Nat) (x19_1 : Bool), v19 = .bool x19_1 ∧ Aside0 (impl_blockShape.j0 kq x19_1 l0_0 a0_1 = some r) ∧ Aside0 (kq ≤ k) ∧ Aside0 (wc.heap[gb378]? = some (.cells #[(.slice A0_0 l0_0.length c0_0), .int .i64 a0_1] 42 (0, 0))) ∧ Aside0 (Below w.heap.size w wc))
 case first =>
  have H := HC2.out
  clear HC2
  by_cases c4 : (l0_0.length : Int) = 4
  rotate_left
  · rw [if_neg c4] at H
    have c4b0 : ((l0_0.length : Int) == 4) = false := beq_eq_false_iff_ne.mpr c4
    have c4b1 : ((l0_0.length : Int) != 4) = true := bne_iff_ne.mpr c4
    (first | rw [c4b0] | (simp only [i64_w, i32_w]; rw [c4b0]) | skip)
    have H' := am H
    clear H
    obtain ⟨hcz8_0, hcz8_1⟩ := b2 BK378.out
    obtain ⟨hfz8_0, hfz8_1⟩ := f2 BK378.out
    go_wp2
    go_meet
    case rel => exact ⟨_, (true), rf, H', ⟨by first | omega | exact Nat.le_refl _⟩, ⟨pb BK378.out⟩, ⟨bg1 HB.out GE378.out⟩⟩
  rw [if_pos c4] at H
  have c4b0 : ((l0_0.length : Int) == 4) = true := beq_iff_eq.mpr c4
  have c4b1 : ((l0_0.length : Int) != 4) = false := bne_eq_false_iff_eq.mpr c4
  clear c4
  (first | rw [c4b0] | (simp only [i64_w, i32_w]; rw [c4b0]) | skip)
  by_cases c5 : a0_1 < 0
  · rw [if_pos c5] at H
    have c5b0 := decide_eq_true c5
    clear c5
    have H' := am H
    clear H
    obtain ⟨hcz6_0, hcz6_1⟩ := b2 BK378.out
    obtain ⟨hfz6_0, hfz6_1⟩ := f2 BK378.out
    go_wp2
    go_meet
    case rel => exact ⟨_, (true), rf, H', ⟨by first | omega | exact Nat.le_refl _⟩, ⟨pb BK378.out⟩, ⟨bg1 HB.out GE378.out⟩⟩
  rw [if_neg c5] at H
  have c5b0 := decide_eq_false c5
  clear c5
  have H' := am H
  clear H
  obtain ⟨hcz7_0, hcz7_1⟩ := b2 BK378.out
  obtain ⟨hfz7_0, hfz7_1⟩ := f2 BK378.out
  go_wp2
  go_meet
  case rel => exact ⟨_, (decide (a0_1 > 200)), rf, H', ⟨by first | omega | exact Nat.le_refl _⟩, ⟨pb BK378.out⟩, ⟨bg1 HB.out GE378.out⟩⟩
 case rest =>
  clear HC2
  obtain ⟨kq, x19_1, rfl, HA, HJ1, BK378, HB⟩ := hcut
  cases kq with
  | zero => exact absurd HA.out (by simp [impl_blockShape.j0])
  | succ kj1 =>
   have H := HA.out
   clear HA
   simp only [impl_blockShape.j0] at H
   by_cases c9 : x19_1 = true
   · subst c9
     rw [if_pos rfl] at H
     obtain rfl := Option.some.inj H
     go_wp2
     go_ret
     exact (rq (bg1 HB.out GE378.out))
   replace c9 := Bool.eq_false_iff.mpr c9
   subst c9
   rw [if_neg (show ¬ (false = true) by decide)] at H
   have H' := am H
   clear H
   obtain ⟨hcz10_0, hcz10_1⟩ := b2 BK378.out
   obtain ⟨hfz10_0, hfz10_1⟩ := f2 BK378.out
   go_wp2
   go_loopg [3, 23] kj1 (fun kq v3 v23 w' => ∃ (x3_2 : Bool) (x23_2 : Int), v3 = .bool x3_2 ∧ v23 = .int .i64 x23_2 ∧ Aside0 (impl_blockShape.l0 kq x3_2 l0_0 (l0_0.length : Int) x23_2 = some r) ∧ Aside0 (kq ≤ kj1) ∧ Aside0 (w'.heap[gb378]? = some (.cells #[(.slice A0_0 l0_0.length c0_0), .int .i64 a0_1] 42 (0, 0))) ∧ Aside0 (Below w.heap.size w w'))
   case atStart => exact ⟨(false), (0), rf, rf, H', ⟨Nat.le_refl _⟩, ⟨pb BK378.out⟩, ⟨bg1 HB.out GE378.out⟩⟩
   case round =>
    clear H'
    obtain ⟨x3_2, x23_2, rfl, rfl, HA, HK2, BK378, HB⟩ := hrel
    cases gk with
    | zero => exact absurd HA.out (by simp [impl_blockShape.l0])
    | succ k2 =>
     have H := HA.out
     clear HA
     simp only [impl_blockShape.l0] at H
     by_cases c11 : x23_2 < (l0_0.length : Int)
     rotate_left
     · rw [if_neg c11] at H
       have c11b0 := decide_eq_false c11
       clear c11
       obtain rfl := Option.some.inj H
       go_wp2
       go_ret
       exact (rq (bg1 HB.out GE378.out))
     rw [if_pos c11] at H
     have c11b0 := decide_eq_true c11
     clear c11
     obtain ⟨c12b0, H⟩ := ifd H
     obtain ⟨c13b0, H⟩ := ifd H
     by_cases c14 : x3_2 = true
     rotate_left
     · replace c14 := Bool.eq_false_iff.mpr c14
       subst c14
       rw [if_neg (show ¬ (false = true) by decide)] at H
       have H' := am H
       clear H
       have p379 : 0 ≤ (x23_2 : Int) := ofb
       have q379 : x23_2 < (l0_0.length : Int) := ofb
       obtain ⟨ad379, e379, hx379_0, hx379_1, hx379_2, hx379_3, hx379_4⟩ := at_T39 HR0_0.out x23_2 p379 q379
       cases e379
       replace hx379_0 := up HB.out hx379_0
       replace hx379_1 := up HB.out hx379_1
       replace hx379_2 := up HB.out hx379_2
       replace hx379_3 := up HB.out hx379_3
       replace hx379_4 := up HB.out hx379_4
       replace p379 := eq_true p379
       replace q379 := eq_true q379
       go_wp2_with (first | (refine bx 5 #[.int .i64 0, .int .i64 0, .int .i64 0, .int .i64 0, .int .i64 0] 39 rfl ?_; intro gb380 hg w22 hbox hb; have BK380 := am (hbox); have GW380 := am (ge hg (bg1 HB.out GE378.out)); have GE380 := GW380; replace HB := am (below_step (bg1 HB.out GE378.out) hb); have NB378_380 := am (nb hg (pb BK378.out)); have NB380_378 := am (Ne.symm NB378_380.out); replace BK378 := am (blk_below (pb BK378.out) hb); clear hb hbox hg; have hnb23 := NB380_378.out; have hnc23 := NB378_380.out; obtain ⟨hcz24_0, hcz24_1, hcz24_2, hcz24_3, hcz24_4⟩ := b5 BK380.out; obtain ⟨hfz24_0, hfz24_1, hfz24_2, hfz24_3, hfz24_4⟩ := f5 BK380.out))
       go_roundg k2
       case measure => have := HJ1.out; have := HK2.out; omega
       case rel => exact ⟨((((rd_T39 l0_0 x23_2).f0) == 0)), (wrap64 (x23_2 + 1)), rf, rf, H', ⟨by have := HJ1.out; have := HK2.out; omega⟩, ⟨bf5 (pb BK378.out) NB378_380.out⟩, ⟨bg2 HB.out GE378.out GE380.out⟩⟩
     subst c14
     rw [if_pos rfl] at H
     by_cases c15 : ((rd_T39 l0_0 x23_2).f0) = 0
     rotate_left
     · rw [if_neg c15] at H
       have c15b0 : (((rd_T39 l0_0 x23_2).f0) == 0) = false := beq_eq_false_iff_ne.mpr c15
       have c15b1 : (((rd_T39 l0_0 x23_2).f0) != 0) = true := bne_iff_ne.mpr c15
       obtain rfl := Option.some.inj H
       have p379 : 0 ≤ (x23_2 : Int) := ofb
       have q379 : x23_2 < (l0_0.length : Int) := ofb
       obtain ⟨ad379, e379, hx379_0, hx379_1, hx379_2, hx379_3, hx379_4⟩ := at_T39 HR0_0.out x23_2 p379 q379
       cases e379
       replace hx379_0 := up HB.out hx379_0
       replace hx379_1 := up HB.out hx379_1
       replace hx379_2 := up HB.out hx379_2
       replace hx379_3 := up HB.out hx379_3
       replace hx379_4 := up HB.out hx379_4
       replace p379 := eq_true p379
       replace q379 := eq_true q379
       go_wp2_with (first | (refine bx 5 #[.int .i64 0, .int .i64 0, .int .i64 0, .int .i64 0, .int .i64 0] 39 rfl ?_; intro gb380 hg w19 hbox hb; have BK380 := am (hbox); have GW380 := am (ge hg (bg1 HB.out GE378.out)); have GE380 := GW380; replace HB := am (below_step (bg1 HB.out GE378.out) hb); have NB378_380 := am (nb hg (pb BK378.out)); have NB380_378 := am (Ne.symm NB378_380.out); replace BK378 := am (blk_below (pb BK378.out) hb); clear hb hbox hg; have hnb20 := NB380_378.out; have hnc20 := NB378_380.out; obtain ⟨hcz21_0, hcz21_1, hcz21_2, hcz21_3, hcz21_4⟩ := b5 BK380.out; obtain ⟨hfz21_0, hfz21_1, hfz21_2, hfz21_3, hfz21_4⟩ := f5 BK380.out))
       go_ret
       exact (rq (bg2 HB.out GE378.out GE380.out))
     rw [if_pos c15] at H
     have c15b0 : (((rd_T39 l0_0 x23_2).f0) == 0) = true := beq_iff_eq.mpr c15
     have c15b1 : (((rd_T39 l0_0 x23_2).f0) != 0) = false := bne_eq_false_iff_eq.mpr c15
     clear c15
     have H' := am H
     clear H
     have p379 : 0 ≤ (x23_2 : Int) := ofb
     have q379 : x23_2 < (l0_0.length : Int) := ofb
     obtain ⟨ad379, e379, hx379_0, hx379_1, hx379_2, hx379_3, hx379_4⟩ := at_T39 HR0_0.out x23_2 p379 q379
     cases e379
     replace hx379_0 := up HB.out hx379_0
     replace hx379_1 := up HB.out hx379_1
     replace hx379_2 := up HB.out hx379_2
     replace hx379_3 := up HB.out hx379_3
     replace hx379_4 := up HB.out hx379_4
     replace p379 := eq_true p379
     replace q379 := eq_true q379
     go_wp2_with (first | (refine bx 5 #[.int .i64 0, .int .i64 0, .int .i64 0, .int .i64 0, .int .i64 0] 39 rfl ?_; intro gb380 hg w16 hbox hb; have BK380 := am (hbox); have GW380 := am (ge hg (bg1 HB.out GE378.out)); have GE380 := GW380; replace HB := am (below_step (bg1 HB.out GE378.out) hb); have NB378_380 := am (nb hg (pb BK378.out)); have NB380_378 := am (Ne.symm NB378_380.out); replace BK378 := am (blk_below (pb BK378.out) hb); clear hb hbox hg; have hnb17 := NB380_378.out; have hnc17 := NB378_380.out; obtain ⟨hcz18_0, hcz18_1, hcz18_2, hcz18_3, hcz18_4⟩ := b5 BK380.out; obtain ⟨hfz18_0, hfz18_1, hfz18_2, hfz18_3, hfz18_4⟩ := f5 BK380.out))
     go_roundg k2
     case measure => have := HJ1.out; have := HK2.out; omega
     case rel => exact ⟨((((rd_T39 l0_0 x23_2).f0) == 0)), (wrap64 (x23_2 + 1)), rf, rf, H', ⟨by have := HJ1.out; have := HK2.out; omega⟩, ⟨bf5 (pb BK378.out) NB378_380.out⟩, ⟨bg2 HB.out GE378.out GE380.out⟩⟩
def impl_RecOk.f (a0_0 : Int) (a0_1 : Int) (a0_2 : Int) (a0_3 : Int) : Option (Bool) := some (recOkB a0_0 a0_1 a0_2 a0_3)
theorem ret_bool {a b : Bool} (h : a = b) : Ending.returned (.bool a) = .returned (.bool b) := by rw [h]
def entryV (a b c d : Int) : Value := if a = 1 then .iface 101 (.agg #[.int .i64 a, .int .i64 b, .int .i64 c, .int .i64 d]) else if a = 2 then .iface 102 (.agg #[.int .i64 a, .int .i64 b, .int .i64 c, .int .i64 d]) else .nilIface
theorem entryOf_any (a b c d : Int) (w : World) :
 Calls Try.prog 50 #[.agg #[.int .i64 a, .int .i64 b, .int .i64 c, .int .i64 d]] w fun e w' => e = .returned (entryV a b c d) ∧ w' = w.alloc (.cells #[.int .i64 a, .int .i64 b, .int .i64 c, .int .i64 d] 32) := by
 have hu := Try.underlying32
 have hu2 := Try.underlying92
 by_cases c1 : a = 1
 · subst c1
   go_enter Try.func50, Try.ntmps50
   go_wp2
   go_ret
   exact ⟨rfl, rfl⟩
 by_cases c2 : a = 2
 · subst c2
   go_enter Try.func50, Try.ntmps50
   go_wp2
   go_ret
   exact ⟨rfl, rfl⟩
 have b1 : (a == 1) = false := by simpa using c1
 have b2 : (a == 2) = false := by simpa using c2
 have HV := am (show entryV a b c d = .nilIface by unfold entryV; rw [if_neg c1, if_neg c2])
 clear c1 c2
 go_enter Try.func50, Try.ntmps50
 go_wp2
 go_ret
 rw [HV.out]
 exact ⟨rfl, rfl⟩
def addrB (a : Int) : Bool := decide (1 ≤ a ∧ a ≤ 6)
def valB (a : Int) : Bool := decide (0 ≤ a ∧ a ≤ 9)
theorem addrOk_any (a : Int) (w : World) : Calls Try.prog 43 #[.int .i64 a] w fun e w' => e = .returned (.bool (addrB a)) ∧ w = w' := by
 go_enter Try.func43, Try.ntmps43
 go_wp2
 all_goals (go_ret; exact ⟨ret_bool (by unfold addrB; simp; try omega), rfl⟩)
theorem valOk_any (a : Int) (w : World) : Calls Try.prog 31 #[.int .i64 a] w fun e w' => e = .returned (.bool (valB a)) ∧ w = w' := by
 go_enter Try.func31, Try.ntmps31
 go_wp2
 all_goals (go_ret; exact ⟨ret_bool (by unfold valB; simp; try omega), rfl⟩)
theorem recOk_parts (a b c d : Int) : recOkB a b c d = ((decide (a = 1) || decide (a = 2)) && (decide (1 ≤ b) && (decide (b ≤ 600) && (addrB c && valB d)))) := by
 unfold recOkB addrB valB
 rw [Bool.eq_iff_iff]
 simp only [decide_eq_true_eq, Bool.and_eq_true, Bool.or_eq_true]
 constructor <;> rintro ⟨h0, h1, h2, h3, h4⟩ <;> omega
theorem impl_RecOk.calls (a0_0 : Int) (a0_1 : Int) (a0_2 : Int) (a0_3 : Int) (r : Bool) (w : World) (h : impl_RecOk.f a0_0 a0_1 a0_2 a0_3 = some r) :
 Calls Try.prog 32 #[.agg #[.int .i64 a0_0, .int .i64 a0_1, .int .i64 a0_2, .int .i64 a0_3]] w fun e w' => e = .returned (.bool r) ∧ Below w.heap.size w w' := by
 obtain rfl := Option.some.inj h
 clear h
 have hu := Try.underlying32
 have hu2 := Try.underlying92
 have hb2 : ∀ A B : Obj, Below w.heap.size w ((w.alloc A).alloc B) := fun A B => ((Below.refl _ w).alloc (Nat.le_refl _) A).alloc (by simp) B
 have HE := am hb2
 clear hb2
 have HP := am (recOk_parts a0_0 a0_1 a0_2 a0_3)
 rcases (show (a0_0 = 1 ∨ a0_0 = 2) ∨ (¬ a0_0 = 1 ∧ ¬ a0_0 = 2) by omega) with (c0 | c0) | ⟨c1, c2⟩
 · subst c0
   go_enter Try.func32, Try.ntmps32
   go_wp2_with (first | (go_at_call 50; refine (entryOf_any _ _ _ _ _).mono ?_; rintro e w' ⟨rfl, rfl⟩; simp only [entryV]) | (go_at_call 43; refine (addrOk_any _ _).mono ?_; rintro e w' ⟨rfl, rfl⟩) | (go_at_call 31; refine (valOk_any _ _).mono ?_; rintro e w' ⟨rfl, rfl⟩))
   all_goals go_ret
   all_goals exact ⟨ret_bool (by rw [HP.out]; simp [*]; try (intros; omega)), HE.out _ _⟩
 · subst c0
   go_enter Try.func32, Try.ntmps32
   go_wp2_with (first | (go_at_call 50; refine (entryOf_any _ _ _ _ _).mono ?_; rintro e w' ⟨rfl, rfl⟩; simp only [entryV]) | (go_at_call 43; refine (addrOk_any _ _).mono ?_; rintro e w' ⟨rfl, rfl⟩) | (go_at_call 31; refine (valOk_any _ _).mono ?_; rintro e w' ⟨rfl, rfl⟩))
   all_goals go_ret
   all_goals exact ⟨ret_bool (by rw [HP.out]; simp [*]; try (intros; omega)), HE.out _ _⟩
 · have HV := am (show entryV a0_0 a0_1 a0_2 a0_3 = .nilIface by unfold entryV; rw [if_neg c1, if_neg c2])
   have HF := am (show recOkB a0_0 a0_1 a0_2 a0_3 = false by rw [HP.out]; simp [c1, c2])
   clear c1 c2 HP
   go_enter Try.func32, Try.ntmps32
   go_wp2_with (go_at_call 50; refine (entryOf_any _ _ _ _ _).mono ?_; rintro e w' ⟨rfl, rfl⟩; rw [HV.out])
   all_goals go_ret
   all_goals exact ⟨ret_bool (by rw [HF.out]), HE.out _ _⟩
end Go.Proofs.Ytenmnclkbleglaa.P2
namespace Go.Proofs.Ytenmnclkbleglaa.P2
open Go.RowKit Go.Proofs.YtenmnclkbleglaaW.PrintWords Go.Proofs.YtenmnclkbleglaaW.PrintLast Go.Proofs.YtenmnclkbleglaaW.PrintMore
attribute [local go_sem] max2_int min2_int max_two min_two max_three min_three max_four min_four
set_option linter.unusedVariables false
set_option linter.unusedSimpArgs false
attribute [local go_sem high] eqA32
def impl_pageShape.f (a0_0 : Int) (a0_1 : Int) (a0_2 : Int) (a0_3 : Int) (a0_4 : Int) : Option (Bool) := if a0_0 = 1 then ((impl_RecOk.f a0_1 a0_2 a0_3 a0_4).bind fun t382 => (some t382)) else (if a0_0 = 0 then (some (a0_1 == 0 && (a0_2 == 0 && (a0_3 == 0 && (a0_4 == 0))))) else (if a0_0 = 2 then (some (a0_1 == 0 && (a0_2 == 0 && (a0_3 == 0 && (a0_4 == 0))))) else (some false)))
theorem impl_pageShape.calls (a0_0 : Int) (a0_1 : Int) (a0_2 : Int) (a0_3 : Int) (a0_4 : Int) (r : Bool) (w : World) (h : impl_pageShape.f a0_0 a0_1 a0_2 a0_3 a0_4 = some r) :
 Calls Try.prog 41 #[.agg #[.int .i64 a0_0, .int .i64 a0_1, .int .i64 a0_2, .int .i64 a0_3, .int .i64 a0_4]] w fun e w' => e = .returned (.bool r) ∧ Below w.heap.size w w' := by
 have hu39 := Try.underlying39
 have hu32 := Try.underlying32
 have HB := am (Below.refl w.heap.size w)
 have H : (if a0_0 = 1 then ((impl_RecOk.f a0_1 a0_2 a0_3 a0_4).bind fun t382 => (some t382)) else (if a0_0 = 0 then (some (a0_1 == 0 && (a0_2 == 0 && (a0_3 == 0 && (a0_4 == 0))))) else (if a0_0 = 2 then (some (a0_1 == 0 && (a0_2 == 0 && (a0_3 == 0 && (a0_4 == 0))))) else (some false)))) = some r := h
 clear h
 by_cases c2 : a0_0 = 1
 · rw [if_pos c2] at H
   have c2b0 : (a0_0 == 1) = true := beq_iff_eq.mpr c2
   have c2b1 : (a0_0 != 1) = false := bne_eq_false_iff_eq.mpr c2
   clear c2
   replace H := Option.bind_eq_some_iff.mp H
   obtain ⟨t382, A30, H⟩ := H
   have A3 := am A30
   clear A30
   obtain rfl := Option.some.inj H
   go_enter Try.func41, Try.ntmps41
   go_wp2_with (first | (refine bx 1 #[.int .i64 a0_0, .int .i64 a0_1, .int .i64 a0_2, .int .i64 a0_3, .int .i64 a0_4] 39 rfl ?_; intro gb381 hg w4 hbox hb; have BK381 := am (hbox); have GW381 := am (ge hg (ph HB.out)); have GE381 := GW381; replace HB := am (below_step (ph HB.out) hb); clear hb hbox hg; obtain ⟨hcz5_0, hcz5_1, hcz5_2, hcz5_3, hcz5_4⟩ := b5 BK381.out; obtain ⟨hfz5_0, hfz5_1, hfz5_2, hfz5_3, hfz5_4⟩ := f5 BK381.out) | (refine gl 9 Try.func32 #[.agg #[.int .i64 a0_1, .int .i64 a0_2, .int .i64 a0_3, .int .i64 a0_4]] rfl ?_; (with_reducible refine (impl_RecOk.calls a0_1 a0_2 a0_3 a0_4 t382 _ A3.out).mono ?_); rintro e w6 ⟨rfl, hb⟩; refine ⟨_, rfl, ?_⟩; replace BK381 := am (blk_below (pb BK381.out) hb); replace HB := am (below_step (bg1 HB.out GE381.out) hb); clear hb))
   go_ret
   exact (rq (bg1 HB.out GE381.out))
 rw [if_neg c2] at H
 have c2b0 : (a0_0 == 1) = false := beq_eq_false_iff_ne.mpr c2
 have c2b1 : (a0_0 != 1) = true := bne_iff_ne.mpr c2
 by_cases c7 : a0_0 = 0
 · rw [if_pos c7] at H
   have c7b0 : (a0_0 == 0) = true := beq_iff_eq.mpr c7
   have c7b1 : (a0_0 != 0) = false := bne_eq_false_iff_eq.mpr c7
   clear c7
   obtain rfl := Option.some.inj H
   go_enter Try.func41, Try.ntmps41
   go_wp2_with (first | (refine bx 1 #[.int .i64 a0_0, .int .i64 a0_1, .int .i64 a0_2, .int .i64 a0_3, .int .i64 a0_4] 39 rfl ?_; intro gb381 hg w8 hbox hb; have BK381 := am (hbox); have GW381 := am (ge hg (ph HB.out)); have GE381 := GW381; replace HB := am (below_step (ph HB.out) hb); clear hb hbox hg; obtain ⟨hcz9_0, hcz9_1, hcz9_2, hcz9_3, hcz9_4⟩ := b5 BK381.out; obtain ⟨hfz9_0, hfz9_1, hfz9_2, hfz9_3, hfz9_4⟩ := f5 BK381.out))
   go_ret
   exact (rq (bg1 HB.out GE381.out))
 rw [if_neg c7] at H
 have c7b0 : (a0_0 == 0) = false := beq_eq_false_iff_ne.mpr c7
 have c7b1 : (a0_0 != 0) = true := bne_iff_ne.mpr c7
 by_cases c10 : a0_0 = 2
 rotate_left
 · rw [if_neg c10] at H
   have c10b0 : (a0_0 == 2) = false := beq_eq_false_iff_ne.mpr c10
   have c10b1 : (a0_0 != 2) = true := bne_iff_ne.mpr c10
   obtain rfl := Option.some.inj H
   go_enter Try.func41, Try.ntmps41
   go_wp2_with (first | (refine bx 1 #[.int .i64 a0_0, .int .i64 a0_1, .int .i64 a0_2, .int .i64 a0_3, .int .i64 a0_4] 39 rfl ?_; intro gb381 hg w13 hbox hb; have BK381 := am (hbox); have GW381 := am (ge hg (ph HB.out)); have GE381 := GW381; replace HB := am (below_step (ph HB.out) hb); clear hb hbox hg; obtain ⟨hcz14_0, hcz14_1, hcz14_2, hcz14_3, hcz14_4⟩ := b5 BK381.out; obtain ⟨hfz14_0, hfz14_1, hfz14_2, hfz14_3, hfz14_4⟩ := f5 BK381.out))
   go_ret
   exact (rq (bg1 HB.out GE381.out))
 rw [if_pos c10] at H
 have c10b0 : (a0_0 == 2) = true := beq_iff_eq.mpr c10
 have c10b1 : (a0_0 != 2) = false := bne_eq_false_iff_eq.mpr c10
 clear c10
 obtain rfl := Option.some.inj H
 go_enter Try.func41, Try.ntmps41
 go_wp2_with (first | (refine bx 1 #[.int .i64 a0_0, .int .i64 a0_1, .int .i64 a0_2, .int .i64 a0_3, .int .i64 a0_4] 39 rfl ?_; intro gb381 hg w11 hbox hb; have BK381 := am (hbox); have GW381 := am (ge hg (ph HB.out)); have GE381 := GW381; replace HB := am (below_step (ph HB.out) hb); clear hb hbox hg; obtain ⟨hcz12_0, hcz12_1, hcz12_2, hcz12_3, hcz12_4⟩ := b5 BK381.out; obtain ⟨hfz12_0, hfz12_1, hfz12_2, hfz12_3, hfz12_4⟩ := f5 BK381.out))
 go_ret
 exact (rq (bg1 HB.out GE381.out))
end Go.Proofs.Ytenmnclkbleglaa.P2
