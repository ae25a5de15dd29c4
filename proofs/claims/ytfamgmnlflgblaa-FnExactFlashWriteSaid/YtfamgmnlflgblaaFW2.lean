import Derived.Test.YtfamgmnlflgblaaFW1
import Derived.Deep.RegionHeld3
namespace Go.Proofs.Ytfamgmnlflgblaa.Rf
open Go.RowKit Go.Proofs.YtfamgmnlflgblaaW.PrintWords Go.Proofs.YtfamgmnlflgblaaW.PrintLast Go.Proofs.YtfamgmnlflgblaaW.PrintMore
/-- A block stored whole, its pages' row newer than the row of blocks. -/
theorem S_store {w1 : World} {base N g n cap : Nat} {v0 : Value} {t : List S51} {xs : List S45} (HS : Kd.S kb_ 45 w1 base (fun k => base ≤ k ∧ k < N) (.slice (some ⟨g, 0, none⟩) n cap) xs) (hb : base ≤ N) (hg : g < N)
    (hR : k51.R 73 w1 N (fun k => N ≤ k) v0 t) (i : Int) (h0 : 0 ≤ i) (h1 : i < n) (b : Int) :
    Kd.S kb_ 45 ((w1.setCell ⟨g, i.toNat * 2, none⟩ v0).setCell ⟨g, i.toNat * 2 + 1, none⟩ (.int .i64 b)) base (fun k => base ≤ k) (.slice (some ⟨g, 0, none⟩) n cap) (xs.set i.toNat ⟨t, b⟩) := by
  obtain ⟨oki, c, hcl, hM, hcc, hfr, hoki, hH⟩ := Kd.S_elem HS z45 i h0 h1
  have hl : c.length = 2 := hcl
  have h := Kd.S_seg (okp := fun k => N ≤ k) (okg := fun k => N ≤ k) (ok := fun k => base ≤ k) (Kd.H_mono hH (fun k hk => ⟨hk.1, by omega⟩)) h0 h1 (seg := [v0, .int .i64 b]) (j := 0) (show 0 + 2 ≤ 2 from Nat.le_refl 2) (x' := (⟨t, b⟩ : S45))
    (by
      rw [List.take_zero, List.nil_append, List.drop_of_length_le (by rw [hl]; exact Nat.le_refl 2), List.append_nil]
      exact kb__mkM w1 base _ ⟨t, b⟩ (Kd.R_lower hR hb)) (fun k hk => .inr hk) (fun k hk => ⟨Nat.le_trans hb hk, by omega⟩)
  exact h.1
theorem copy_step {l0 : List S45} {j : Nat} {y : S45} (hy : l0[j]? = some y) (z : S45) : (l0.take j ++ List.replicate (l0.length - j) z).set j y = l0.take (j + 1) ++ List.replicate (l0.length - (j + 1)) z := by
  have h : j < l0.length := (List.getElem?_eq_some_iff.1 hy).1
  have e : l0.length - j = (l0.length - (j + 1)) + 1 := by omega
  rw [e, List.replicate_succ, List.set_append_right _ _ (by rw [List.length_take]; omega), List.length_take, Nat.min_eq_left (by omega), Nat.sub_self, List.set_cons_zero, List.take_add_one, hy, Option.toList_some, List.append_assoc, List.cons_append, List.nil_append]
theorem keep3w {a b : Addr} {va vb : Value} {B : Nat} {w W W' : World} (h : W.cell? a = some va ∧ W.cell? b = some vb ∧ Below B w W) (hB : B ≤ W.heap.size) (hb : Below W.heap.size W W') : W'.cell? a = some va ∧ W'.cell? b = some vb ∧ Below B w W' :=
  ⟨up hb h.1, up hb h.2.1, below_then h.2.2 hB hb⟩
theorem keepSet {a b : Addr} {va vb u u' : Value} {B g i i' : Nat} {w W : World} (h : W.cell? a = some va ∧ W.cell? b = some vb ∧ Below B w W) (ha : a.block ≠ g) (hb : b.block ≠ g) (hg : B ≤ g) :
    ((W.setCell ⟨g, i, none⟩ u).setCell ⟨g, i', none⟩ u').cell? a = some va ∧ ((W.setCell ⟨g, i, none⟩ u).setCell ⟨g, i', none⟩ u').cell? b = some vb ∧ Below B w ((W.setCell ⟨g, i, none⟩ u).setCell ⟨g, i', none⟩ u') := by
  have e : ∀ (c : Addr) (k : Nat), c.block ≠ g → (⟨g, k, none⟩ : Addr) ≠ c := fun c k hc he => hc (by rw [← he])
  refine ⟨?_, ?_, (h.2.2.setCell (p := ⟨g, i, none⟩) hg _).setCell (p := ⟨g, i', none⟩) hg _⟩
  · rw [World.cell?_setCell_other _ _ _ _ (e a i' ha), World.cell?_setCell_other _ _ _ _ (e a i ha)]
    exact h.1
  · rw [World.cell?_setCell_other _ _ _ _ (e b i' hb), World.cell?_setCell_other _ _ _ _ (e b i hb)]
    exact h.2.1
set_option maxHeartbeats 2000000 in
set_option maxRecDepth 100000 in
theorem impl_flashCopy.calls (A0 : Option Addr) (c0 : Nat) (l0 : List S45) (w : World) (hr0 : Kd.C k45 w A0 l0.length l0) (hn : 1 ≤ l0.length) (hn2 : l0.length ≤ 1000) (hl : ∀ x ∈ l0, x.f0.length = 4) :
    Calls Try.prog 22 #[.slice A0 l0.length c0] w fun e w' => ∃ v, e = .returned v ∧ Kd.S kb_ 45 w' w.heap.size (fun k => w.heap.size ≤ k) v l0 ∧ Below w.heap.size w w' := by
  have hu := Try.underlying45
  have HR0 := Aside0.mk hr0
  have HL := Aside0.mk hl
  clear hr0 hl
  go_enter Try.func22, Try.ntmps22
  go_wp2_with (first | ((with_reducible refine gate_dst (N := 8) rfl ?_); refine Kd.S_make kb_ (w0 := w) w.heap.size 45 rfl (N := 8) rfl 26 _ _ rfl (l0.length : Int) rfl rfl Try.underlying26 (.agg #[(.slice none 0 0), (.int .i64 0)]) 32 info45 rfl (by decide) (by omega) z45 (ok := fun k => w.heap.size ≤ k) (okp := fun k => w.heap.size ≤ k) (kb__mkM _ _ _ z45 (Kd.R_nil _ _ _ _ _)) (fun _ hk => hk) (Nat.le_refl _) (by omega) (by omega) (Below.refl _ _) (Nat.le_refl _) ?_; intro v1 w4 ho5 hb4 hg4 hnew4))
  rw [Int.toNat_natCast] at ho5
  obtain ⟨g, cap, rfl, hgb, hgl, -⟩ := Kd.S_form ho5 (by rw [List.length_replicate]; omega)
  rw [List.length_replicate] at *
  clear hg4 hnew4
  have HO := Aside0.mk ho5
  have HB := Aside0.mk hb4
  clear ho5 hb4
  go_loopw [11] (fun v W => ∃ (j : Nat), j ≤ l0.length ∧ v = .int .i64 j ∧ Aside0 (Kd.S kb_ 45 W w.heap.size (fun k => w.heap.size ≤ k) (.slice (some ⟨g, 0, none⟩) l0.length cap) (l0.take j ++ List.replicate (l0.length - j) z45)) ∧ Aside0 (Below w.heap.size w W)) (fun v _ => l0.length - (intOf v).toNat)
  case atStart => exact ⟨0, Nat.zero_le _, rfl, ⟨by simpa using HO.out⟩, HB⟩
  case round =>
    obtain ⟨j, hj, rfl, HOr, HBr⟩ := hrel
    by_cases hlt : j < l0.length
    · obtain ⟨ad, Aj, cj, hA, hx0, hx1, hlj, hCj⟩ := at_T45 HR0.out (j : Int) (by omega) (by omega)
      cases hA
      obtain ⟨y, hy⟩ : ∃ y, l0[j]? = some y := ⟨l0[j], List.getElem?_eq_getElem hlt⟩
      have ej : rd_T45 l0 (j : Int) = y := by
        unfold rd_T45
        rw [Int.toNat_natCast, List.getD_eq_getElem?_getD, hy]
        rfl
      have h4 := HL.out y (List.mem_of_getElem? hy)
      rw [ej] at hx0 hx1 hlj hCj
      have HY := Aside0.mk hy
      rw [h4, Int.toNat_natCast] at hx0
      rw [Int.toNat_natCast] at hx1
      replace hx0 := up HBr.out hx0
      replace hx1 := up HBr.out hx1
      have HC := Aside0.mk hCj
      have H4 := Aside0.mk h4
      clear hlj hCj ej hy h4
      obtain ⟨oki, c, hcl, hM, hcc, hfr, hoki, hH⟩ := Kd.S_elem HOr.out z45 (j : Int) (by omega) (by omega)
      obtain ⟨vo, rfl, -⟩ := kb__openM hM
      have ho0 := hcc 0 _ rfl
      have ho1 := hcc 1 _ rfl
      have esz : (kb_).sz = 2 := rfl
      rw [Int.toNat_natCast, esz, Nat.add_zero] at ho0
      rw [Int.toNat_natCast, esz] at ho1
      generalize (List.getD _ _ _ : S45).f1 = wo at ho1
      obtain ⟨g', cap', hv', hgb', hgl', cellsr, hcellsr⟩ := Kd.S_form HOr.out (by rw [List.length_append, List.length_take, List.length_replicate]; omega)
      injection hv' with hv1 hv2 hv3
      injection hv1 with hv1
      injection hv1 with hv1 hv4
      clear hv2 hv3 hv4
      subst hv1
      have HG := Aside0.mk hcellsr
      have hjl := decide_eq_true (show (j : Int) < (l0.length : Int) by omega)
      have hjq : ((j : Int) < (l0.length : Int)) = True := eq_true (by omega)
      have HLT := Aside0.mk hlt
      clear hlt
      clear hcl hM hcc hfr hoki hH hcellsr esz
      go_wp2_with fail
      have hbx := blk_new wr (.cells #[.slice Aj 4 cj, .int .i64 y.f1] 45)
      have hB5 := below_alloc HBr.out (.cells #[.slice Aj 4 cj, .int .i64 y.f1] 45)
      have HO5 := Kd.S_alloc HOr.out (.cells #[.slice Aj 4 cj, .int .i64 y.f1] 45)
      have HG5 := blk_alloc HG.out (.cells #[.slice Aj 4 cj, .int .i64 y.f1] 45)
      have o0 := up (below_alloc (Below.refl _ wr) (.cells #[.slice Aj 4 cj, .int .i64 y.f1] 45)) ho0
      have o1 := up (below_alloc (Below.refl _ wr) (.cells #[.slice Aj 4 cj, .int .i64 y.f1] 45)) ho1
      have HCw := Aside0.mk (fun W (hW : Below w.heap.size w W) => Kd.C_below HC.out hW)
      clear hx0 hx1 ho0 ho1
      generalize wr.alloc (.cells #[.slice Aj 4 cj, .int .i64 y.f1] 45) = w5 at hbx hB5 HO5 HG5 o0 o1 ⊢
      have b0 : w5.cell? ⟨wr.heap.size, 0, none⟩ = some (.slice Aj 4 cj) := (blk_cell hbx 0).trans rfl
      have b1 : w5.cell? ⟨wr.heap.size, 1, none⟩ = some (.int .i64 y.f1) := (blk_cell hbx 1).trans rfl
      have hgne : wr.heap.size ≠ g := by omega
      generalize wr.heap.size = gx at b0 b1 hbx hgne ⊢
      have hgx : gx ≠ g := hgne
      have hSS := (⟨b0, b1, hB5⟩ : _ ∧ _ ∧ Below w.heap.size w w5)
      have HS5 := Aside0.mk HO5
      have HG := Aside0.mk HG5
      have HO01 := Aside0.mk (And.intro o0 o1)
      have HZ := hB5.size
      have hd1 : ∀ (W : World) (n : Nat) (a : Addr), (W.drewN n).cell? a = W.cell? a := fun _ _ _ => rfl
      have hd3 : ∀ (W : World) (n : Nat) (a : Addr), (W.drewN n).frozen? a = W.frozen? a := fun _ _ _ => rfl
      clear hbx HO5 hB5 HG5 b0 b1 o0 o1
      go_region_held3 (fun W => W.cell? ⟨gx, 0, none⟩ = some (.slice Aj 4 cj) ∧ W.cell? ⟨gx, 1, none⟩ = some (.int .i64 y.f1) ∧ Below w.heap.size w W)
        (first | (with_reducible assumption) | (with_reducible exact keep3w hSS HZ (below_drew (Below.refl _ w5))) | (with_reducible exact keep3w hSS HZ (pw_below_drewN (Below.refl _ w5) _)) | exact keep3w hSS HZ hbb | (with_reducible exact keepSet (by assumption) hgx hgx hgb'))
        (first
          | (go_at_call 38; refine (impl_pagesCopy.calls4 Aj cj y.f0 _ (HCw.out _ (by assumption : _ ∧ _ ∧ Below w.heap.size w _).2.2) H4.out).mono ?_; rintro e w11 ⟨A1, c1, rfl, hR, hb⟩; have hbb := below_then (pw_below_drewN (Below.refl _ w5) _) (Nat.le_refl _) hb; have ho0 := up hbb HO01.out.1; have ho1 := up hbb HO01.out.2; have hfz0 : w11.frozen? ⟨g, j * 2, none⟩ = false := blk_frozen (blk_below HG.out hbb) _; have hfz1 : w11.frozen? ⟨g, j * 2 + 1, none⟩ = false := blk_frozen (blk_below HG.out hbb) _)
          | fail)
      have hst := S_store (N := w5.heap.size) (base := w.heap.size) (Kd.S_old HS5.out hbb) HZ (blk_lt HG.out) (show k51.R 73 w11 w5.heap.size (fun k => w5.heap.size ≤ k) (.slice A1 4 c1) y.f0 from hR) (j : Int) (by omega) (by have := HLT.out; omega) y.f1
      rw [Int.toNat_natCast, show (⟨y.f0, y.f1⟩ : S45) = y from rfl, copy_step HY.out] at hst
      have hbl := (by assumption : _ ∧ _ ∧ Below w.heap.size w ((w11.setCell ⟨g, j * 2, none⟩ (.slice A1 4 c1)).setCell ⟨g, j * 2 + 1, none⟩ (.int .i64 y.f1))).2.2
      clear hSS hd1 hd3 ho0 ho1 hfz0 hfz1 hjl hjq
      go_wp2
      exact ⟨⟨j + 1, by have := HLT.out; omega, by go_num, ⟨hst⟩, ⟨hbl⟩⟩, by have := HLT.out; simp [intOf]; omega⟩
    · go_wp2
      go_ret
      refine ⟨_, rfl, ?_, HBr.out⟩
      have e : j = l0.length := by omega
      have h := HOr.out
      rw [e, List.take_length, Nat.sub_self, List.replicate_zero, List.append_nil] at h
      exact h
end Go.Proofs.Ytfamgmnlflgblaa.Rf
