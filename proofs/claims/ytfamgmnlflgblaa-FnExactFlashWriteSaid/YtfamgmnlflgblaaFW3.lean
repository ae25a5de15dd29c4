import Derived.Test.YtfamgmnlflgblaaFW2
import Derived.RegionTactic
namespace Go.Proofs.Ytfamgmnlflgblaa.Rf
open Go.RowKit Go.Proofs.YtfamgmnlflgblaaW.PrintWords Go.Proofs.YtfamgmnlflgblaaW.PrintLast Go.Proofs.YtfamgmnlflgblaaW.PrintMore
theorem blockOk_eq (b : Int) : impl_blockOk.f b = some (decide (0 ≤ b ∧ b < 4)) := by
  unfold impl_blockOk.f
  by_cases h : b ≥ 0
  · rw [if_pos h]
    exact congrArg some (decide_eq_decide.2 ⟨fun h2 => ⟨h, h2⟩, fun h2 => h2.2⟩)
  · rw [if_neg h]
    exact congrArg some (decide_eq_false (fun h2 => h h2.1)).symm
/-- What the program's FlashWrite hands back, of n clean pages and a number that is used or not. -/
def pageFW (r0 r1 r2 r3 : Int) (tn : Bool) : S51 := if tn then ⟨2, ⟨0, 0, 0, 0⟩⟩ else ⟨1, ⟨r0, r1, r2, r3⟩⟩
def listFW (l0 : List S45) (b : Int) (n : Int) (p : S51) : List S45 := l0.set b.toNat ⟨(rd_T45 l0 b).f0.set (4 - n).toNat p, (rd_T45 l0 b).f1⟩
def outFW (l0 : List S45) (b : Int) (n : Int) (u : Bool) (p : S51) : List S45 := if n ≠ 0 ∧ u = false then listFW l0 b n p else l0
def okFW (n : Int) (u : Bool) : Bool := decide (n ≠ 0) && !u
theorem outFW_no {l0 : List S45} {b n : Int} {u : Bool} {p : S51} (h : n = 0 ∨ u = true) : outFW l0 b n u p = l0 ∧ okFW n u = false := by
  unfold outFW okFW
  rcases h with rfl | rfl
  · exact ⟨if_neg (fun h => h.1 rfl), rfl⟩
  · exact ⟨if_neg (fun h => Bool.noConfusion h.2), by rw [Bool.not_true, Bool.and_false]⟩
theorem outFW_yes {l0 : List S45} {b n : Int} {p : S51} (h : n ≠ 0) : outFW l0 b n false p = listFW l0 b n p ∧ okFW n false = true := by
  unfold outFW okFW
  exact ⟨if_pos ⟨h, rfl⟩, by rw [decide_eq_true h]; rfl⟩
set_option maxHeartbeats 4000000 in
set_option maxRecDepth 100000 in
theorem impl_FlashWrite.bad (A0 : Option Addr) (c0 : Nat) (l0 : List S45) (b r0 r1 r2 r3 : Int) (tn : Bool) (w : World) (hr0 : Kd.C k45 w A0 l0.length l0) (hc0 : l0.length ≤ c0) (hg : ¬ (flashOkB l0 = true ∧ (0 ≤ b ∧ b < 4) ∧ recOkB r0 r1 r2 r3 = true)) :
    Calls Try.prog 8 #[.slice A0 l0.length c0, .int .i64 b, .agg #[.int .i64 r0, .int .i64 r1, .int .i64 r2, .int .i64 r3], .bool tn] w fun e w' => e = .returned (.tuple #[.slice none 0 0, .bool false]) ∧ Below w.heap.size w w' := by
  have hu := Try.underlying30
  have HC := Aside0.mk (And.intro hr0 hc0)
  clear hr0 hc0
  have hbx := blk_new w (.cells #[.int .i64 r0, .int .i64 r1, .int .i64 r2, .int .i64 r3] 30)
  have hB1 := below_alloc (Below.refl _ w) (.cells #[.int .i64 r0, .int .i64 r1, .int .i64 r2, .int .i64 r3] 30)
  go_enter Try.func8, Try.ntmps8
  go_wp2_with fail
  refine (impl_FlashOk.calls A0 c0 l0 (flashOkB l0) _ (Kd.C_below HC.out.1 hB1) HC.out.2 rfl).mono ?_
  rintro e w2 ⟨rfl, hb⟩
  have hB2 := below_then hB1 hB1.size hb
  have hbx2 := blk_below hbx hb
  clear hB1 hbx hb
  cases hf : flashOkB l0 with
  | false =>
    clear hf hg
    go_wp2
    refine bodyPost_ret (results_tmp2 rfl _ _ _) rfl ?_
    exact ⟨rfl, hB2⟩
  | true =>
    go_wp2_with fail
    refine (impl_blockOk.calls b _ _ (blockOk_eq b)).mono ?_
    rintro e w3 ⟨rfl, hd⟩
    have hB3 := below_then hB2 hB2.size hd.below
    have hbx3 := blk_below hbx2 hd.below
    clear hB2 hbx2 hd
    by_cases hb : 0 ≤ b ∧ b < 4
    · rw [decide_eq_true hb]
      have q0 : w3.cell? ⟨w.heap.size, 0, none⟩ = some (.int .i64 r0) := (blk_cell hbx3 0).trans rfl
      have q1 : w3.cell? ⟨w.heap.size, 1, none⟩ = some (.int .i64 r1) := (blk_cell hbx3 1).trans rfl
      have q2 : w3.cell? ⟨w.heap.size, 2, none⟩ = some (.int .i64 r2) := (blk_cell hbx3 2).trans rfl
      have q3 : w3.cell? ⟨w.heap.size, 3, none⟩ = some (.int .i64 r3) := (blk_cell hbx3 3).trans rfl
      have hrec : recOkB r0 r1 r2 r3 = false := by
        cases h : recOkB r0 r1 r2 r3 with
        | false => rfl
        | true => exact absurd ⟨hf, hb, h⟩ hg
      clear hf hg hb
      go_wp2_with fail
      refine (impl_RecOk.calls r0 r1 r2 r3 (recOkB r0 r1 r2 r3) _ rfl).mono ?_
      rintro e w4 ⟨rfl, hb⟩
      rw [hrec]
      have hB4 := below_then hB3 hB3.size hb
      clear hB3 hb hbx3 q0 q1 q2 q3 hrec
      go_wp2
      refine bodyPost_ret (results_tmp2 rfl _ _ _) rfl ?_
      exact ⟨rfl, hB4⟩
    · rw [decide_eq_false hb]
      clear hf hg hb
      go_wp2
      refine bodyPost_ret (results_tmp2 rfl _ _ _) rfl ?_
      exact ⟨rfl, hB3⟩
/-- A page stored into a block's row, the block's row in the row of blocks. -/
theorem S_page {w1 : World} {base g n cap gi ni ci : Nat} {xs : List S45} (HS : Kd.S kb_ 45 w1 base (fun k => base ≤ k) (.slice (some ⟨g, 0, none⟩) n cap) xs) (b : Int) (h0 : 0 ≤ b) (h1 : b < n)
    (hc : w1.cell? ⟨g, b.toNat * 2, none⟩ = some (.slice (some ⟨gi, 0, none⟩) ni ci)) (j : Int) (hj0 : 0 ≤ j) (hj1 : j < ni) (p : S51) :
    Kd.S kb_ 45 (w1.setCells gi (j.toNat * 5) [.int .i64 p.f0, .int .i64 p.f1.f0, .int .i64 p.f1.f1, .int .i64 p.f1.f2, .int .i64 p.f1.f3]) base (fun k => base ≤ k) (.slice (some ⟨g, 0, none⟩) n cap) (xs.set b.toNat ⟨(rd_T45 xs b).f0.set j.toNat p, (rd_T45 xs b).f1⟩) := by
  obtain ⟨oki, c, hcl, hM, hcc, hfr, hoki, hH⟩ := Kd.S_elem HS z45 b h0 h1
  obtain ⟨v0, rfl, hR⟩ := kb__openM hM
  have hc0 := hcc 0 _ rfl
  have esz : (kb_).sz = 2 := rfl
  rw [esz, Nat.add_zero, hc] at hc0
  obtain rfl := Option.some.inj hc0
  obtain ⟨ce, hce, hMe, hcce, hfre⟩ := Kd.R_elem hR z51 j hj0 hj1
  obtain ⟨hR2, hg2⟩ := Kd.R_seg hR j hj0 hj1 (seg := [.int .i64 p.f0, .int .i64 p.f1.f0, .int .i64 p.f1.f1, .int .i64 p.f1.f2, .int .i64 p.f1.f3]) (j := 0) (okp := fun _ => False) hce hcce (show 0 + 5 ≤ 5 from Nat.le_refl 5) (x' := p)
    (by
      rw [List.take_zero, List.nil_append, List.drop_of_length_le (by rw [hce]; exact Nat.le_refl 5), List.append_nil]
      exact k51_mkM _ _ _ p) (fun _ h => h.elim)
  have hgi : oki gi := hR.1 gi rfl
  have hk : Kept w1 (w1.setCells gi (j.toNat * 5) [.int .i64 p.f0, .int .i64 p.f1.f0, .int .i64 p.f1.f1, .int .i64 p.f1.f2, .int .i64 p.f1.f3]) (fun k => k = gi) := Kept.of_grown hg2 (Kept.refl w1 _) (fun k hk => Or.inl (Option.some.inj hk).symm)
  exact Kd.H_back (Kd.H_kept hH hk (fun k _ hn hk2 => hn (by rw [hk2]; exact hgi))) (kb__mkM _ base oki ⟨(rd_T45 xs b).f0.set j.toNat p, (rd_T45 xs b).f1⟩ hR2) (fun k hk => hk)
end Go.Proofs.Ytfamgmnlflgblaa.Rf
