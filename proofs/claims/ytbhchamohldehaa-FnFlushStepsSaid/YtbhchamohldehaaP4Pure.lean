/- The slow disk is told first, in plain Lean: in a store that is drawn. -/
import Derived.Test.YtbhchamohldehaaP417
import Derived.IntWalk
import Derived.Laws.BitsAllLaws
namespace Go.Proofs.Ytbhchamohldehaa.Pure
open Go.RowKit Go.IntWalk Go.Proofs.Ytbhchamohldehaa.P4 Go.Proofs.YtbhchamohldehaaW Go.Proofs.YtbhchamohldehaaW.PrintWords Go.Proofs.YtbhchamohldehaaW.PrintLast Go.Proofs.YtbhchamohldehaaW.PrintMore
abbrev DB := S73
abbrev DP := S69
abbrev DS := S38
def okPg (p : DP) : Prop := p.f0 = 1 → 1 ≤ p.f1.f2 ∧ p.f1.f2 ≤ 6
def okBl (b : DB) : Prop := b.f0.length = 4 ∧ ∀ p ∈ b.f0, okPg p
def okFl (fl : List DB) : Prop := fl.length = 4 ∧ ∀ b ∈ fl, okBl b
def okSt (x : DS) : Prop := (x.f0 = 1 → 1 ≤ x.f1 ∧ x.f1 ≤ 6) ∧ (x.f0 = 2 ∨ x.f0 = 3 → 0 ≤ x.f3 ∧ x.f3 < 4) ∧ (x.f0 = 3 → 1 ≤ x.f4.f2 ∧ x.f4.f2 ≤ 6)
theorem rdB_in {fl : List DB} {i : Int} (h0 : 0 ≤ i) (h : i < (fl.length : Int)) : rd_T73 fl i ∈ fl := by
  unfold rd_T73
  rw [List.getD_eq_getElem?_getD, List.getElem?_eq_getElem (by omega : i.toNat < fl.length)]
  exact List.getElem_mem _
theorem rdP_in {ps : List DP} {i : Int} (h0 : 0 ≤ i) (h : i < (ps.length : Int)) : rd_T69 ps i ∈ ps := by
  unfold rd_T69
  rw [List.getD_eq_getElem?_getD, List.getElem?_eq_getElem (by omega : i.toNat < ps.length)]
  exact List.getElem_mem _
theorem rdS_in {xs : List DS} {i : Int} (h0 : 0 ≤ i) (h : i < (xs.length : Int)) : rd_T38 xs i ∈ xs := by
  unfold rd_T38
  rw [List.getD_eq_getElem?_getD, List.getElem?_eq_getElem (by omega : i.toNat < xs.length)]
  exact List.getElem_mem _
theorem flAt {fl : List DB} (h : okFl fl) {i : Int} (h0 : 0 ≤ i) (h1 : i < 4) : okBl (rd_T73 fl i) := h.2 _ (rdB_in h0 (by rw [h.1]; exact h1))
theorem okSet {fl : List DB} (h : okFl fl) (n : Nat) {b : DB} (hb : okBl b) : okFl (fl.set n b) := ⟨by rw [List.length_set]; exact h.1, fun x hx => by
  rcases List.mem_or_eq_of_mem_set hx with hx | rfl
  · exact h.2 _ hx
  · exact hb⟩
theorem okSetP {b : DB} (h : okBl b) (n : Nat) {p : DP} (hp : okPg p) (w : Int) : okBl ⟨b.f0.set n p, w⟩ := ⟨by show (b.f0.set n p).length = 4; rw [List.length_set]; exact h.1, fun x hx => by
  rcases List.mem_or_eq_of_mem_set hx with hx | rfl
  · exact h.2 _ hx
  · exact hp⟩
theorem upN (i : Nat) (h : i < 100000) : wrap64 ((i : Int) + 1) = ((i + 1 : Nat) : Int) := by
  rw [wrap64_in _ (by omega)]
  omega
theorem l6In_t (n a b : Int) : spec_l6In.f n a b = some (decide (a ≤ n ∧ n ≤ b)) := by
  unfold spec_l6In.f
  by_cases h : n ≥ a
  · rw [if_pos h]
    exact congrArg some (decide_eq_decide.2 ⟨fun h2 => ⟨h, h2⟩, fun h2 => h2.2⟩)
  · rw [if_neg h]
    exact congrArg some (decide_eq_false (fun h2 => h h2.1)).symm
theorem recOk_t (a b c d : Int) : ∃ r, spec_RecOk.f a b c d = some r ∧ (r = true → 1 ≤ c ∧ c ≤ 6) := by
  unfold spec_RecOk.f
  rw [l6In_t, l6In_t, l6In_t, l6In_t]
  simp only [Option.bind_some]
  by_cases h1 : (1 : Int) ≤ a ∧ a ≤ 2
  · rw [if_pos (decide_eq_true h1)]
    by_cases h2 : (1 : Int) ≤ b ∧ b ≤ 600
    · rw [if_pos (decide_eq_true h2)]
      by_cases h3 : (1 : Int) ≤ c ∧ c ≤ 6
      · rw [if_pos (decide_eq_true h3)]
        exact ⟨_, rfl, fun _ => h3⟩
      · rw [if_neg (by simpa using h3)]
        exact ⟨_, rfl, fun h => by cases h⟩
    · rw [if_neg (by simpa using h2)]
      exact ⟨_, rfl, fun h => by cases h⟩
  · rw [if_neg (by simpa using h1)]
    exact ⟨_, rfl, fun h => by cases h⟩
theorem cleanL (ps : List DP) (hl : ps.length = 4) (w : Int) (K : Nat) : ∀ (n i m : Nat), i + n = 4 → m ≤ i → ∃ r : Nat, r ≤ 4 ∧ spec_l2Clean.l0 (K + n + 1) (m : Int) (i : Int) ps w = some (r : Int)
  | 0, i, m, h, hm => ⟨m, by omega, by rw [spec_l2Clean.l0, if_neg (by omega)]⟩
  | n + 1, i, m, h, hm => by
    obtain ⟨r1, a1, e1⟩ := cleanL ps hl w K n (i + 1) (m + 1) (by omega) (by omega)
    obtain ⟨r2, a2, e2⟩ := cleanL ps hl w K n (i + 1) m (by omega) (by omega)
    rw [show K + (n + 1) + 1 = (K + n + 1) + 1 from rfl, spec_l2Clean.l0, if_pos (by omega), if_pos (by omega), upN i (by omega), upN m (by omega), e1, e2]
    split
    · exact ⟨r1, a1, rfl⟩
    · exact ⟨r2, a2, rfl⟩
theorem cleanF (ps : List DP) (hl : ps.length = 4) (w : Int) (k : Nat) (hk : 5 ≤ k) : ∃ r : Nat, r ≤ 4 ∧ spec_l2Clean.f k ps w = some (r : Int) := by
  have h := cleanL ps hl w (k - 5) 4 0 0 (by omega) (by omega)
  rw [show k - 5 + 4 + 1 = k by omega] at h
  exact h
theorem seqIn (fl : List DB) (s : Int) (i : Nat) (hi : i < fl.length) (hp : (rd_T73 fl (i : Int)).f0.length = 4) (K : Nat) (h0 : ∃ b, spec_l2Seq.l0 K fl s ((i + 1 : Nat) : Int) = some b) (hi2 : i < 1000) : ∀ (n j : Nat), j + n = 4 → ∃ b, spec_l2Seq.l1 (K + n + 1) fl s (i : Int) (j : Int) = some b
  | 0, j, h => by
    obtain ⟨b, e⟩ := h0
    rw [spec_l2Seq.l1, if_pos (by omega), if_pos (by omega), if_neg (by omega), upN i (by omega)]
    exact ⟨b, e⟩
  | n + 1, j, h => by
    obtain ⟨b, e⟩ := seqIn fl s i hi hp K h0 hi2 n (j + 1) (by omega)
    rw [show K + (n + 1) + 1 = (K + n + 1) + 1 from rfl, spec_l2Seq.l1, if_pos (by omega), if_pos (by omega), if_pos (by omega), if_pos (by omega), upN j (by omega), e]
    split
    · split
      · exact ⟨_, rfl⟩
      · exact ⟨_, rfl⟩
    · exact ⟨_, rfl⟩
theorem seqOut (fl : List DB) (s : Int) (h : okFl fl) : ∀ (n i K : Nat), i + n = 4 → ∃ b, spec_l2Seq.l0 (K + n * 6 + 1) fl s (i : Int) = some b
  | 0, i, K, hi => ⟨false, by rw [spec_l2Seq.l0, if_neg (by rw [h.1]; omega)]⟩
  | n + 1, i, K, hi => by
    have ih := seqOut fl s h n (i + 1) K (by omega)
    rw [spec_l2Seq.l0, if_pos (by rw [h.1]; omega), show K + (n + 1) * 6 = (K + n * 6 + 1) + 4 + 1 by omega]
    exact seqIn fl s i (by rw [h.1]; omega) (flAt h (by omega) (by omega)).1 (K + n * 6 + 1) ih (by omega) 4 0 (by omega)
theorem seqF {fl : List DB} (s : Int) (h : okFl fl) (k : Nat) (hk : 25 ≤ k) : ∃ b, spec_l2Seq.f k fl s = some b := by
  have h1 := seqOut fl s h 4 0 (k - 25) (by omega)
  rw [show k - 25 + 4 * 6 + 1 = k by omega] at h1
  exact h1
theorem writeF {fl : List DB} (h : okFl fl) {b : Int} (hb0 : 0 ≤ b) (hb1 : b < 4) (r0 r1 r2 r3 : Int) (hr : 1 ≤ r2 ∧ r2 ≤ 6) (t : Bool) (k : Nat) (hk : 30 ≤ k) : ∃ fl' o, spec_l2Write.f k fl b r0 r1 r2 r3 t = some (fl', o) ∧ okFl fl' := by
  obtain ⟨k, rfl⟩ : ∃ j, k = j + 1 := ⟨k - 1, by omega⟩
  have hB := flAt h hb0 hb1
  have hlen : b < (fl.length : Int) := by rw [h.1]; exact hb1
  obtain ⟨n, hn, e1⟩ := cleanF (rd_T73 fl b).f0 hB.1 (rd_T73 fl b).f1 (k + 1) (by omega)
  obtain ⟨u, e2⟩ := seqF r1 h (k + 1) (by omega)
  unfold spec_l2Write.f
  rw [if_pos hb0, if_pos hlen, e1, e2]
  simp only [Option.bind_some]
  by_cases hz : (n : Int) = 0
  · rw [if_pos hz, spec_l2Write.j0, if_pos rfl]
    exact ⟨_, _, rfl, h⟩
  · have e3 : wrap64 (4 - (n : Int)) = 4 - (n : Int) := wrap64_in _ (by omega)
    rw [if_neg hz, spec_l2Write.j0, e3]
    cases u with
    | true =>
      rw [if_pos rfl]
      exact ⟨_, _, rfl, h⟩
    | false =>
      rw [if_neg (by simp)]
      cases t with
      | true =>
        rw [if_pos rfl, if_pos hb0, if_pos hlen, if_pos (by omega), if_pos (by rw [hB.1]; omega)]
        exact ⟨_, _, rfl, okSet h _ (okSetP hB _ (fun hq => absurd hq (by show ¬ (2 : Int) = 1; decide)) _)⟩
      | false =>
        rw [if_neg (by simp), if_pos hb0, if_pos hlen, if_pos (by omega), if_pos (by rw [hB.1]; omega)]
        exact ⟨_, _, rfl, okSet h _ (okSetP hB _ (fun _ => hr) _)⟩
theorem wipeL {b s : Int} (hb0 : 0 ≤ b) (hb1 : b < 4) (hs : s ≠ 1) (K : Nat) : ∀ (n i : Nat) (fl : List DB), okFl fl → i + n = 4 → ∃ fl' o, spec_l2Wipe.l0 (K + n + 1) fl b s (i : Int) = some (fl', o) ∧ okFl fl'
  | 0, i, fl, h, hi => ⟨fl, true, by rw [spec_l2Wipe.l0, if_neg (by omega)], h⟩
  | n + 1, i, fl, h, hi => by
    have hB := flAt h hb0 hb1
    rw [show K + (n + 1) + 1 = (K + n + 1) + 1 from rfl, spec_l2Wipe.l0, if_pos (by omega), if_pos hb0, if_pos (by rw [h.1]; exact hb1), if_pos (by omega), if_pos (by rw [hB.1]; omega), upN i (by omega)]
    exact wipeL hb0 hb1 hs K n (i + 1) _ (okSet h _ (okSetP hB _ (fun hq => absurd hq hs) _)) (by omega)
theorem wipeF {fl : List DB} (h : okFl fl) {b : Int} (hb0 : 0 ≤ b) (hb1 : b < 4) (t : Bool) (k : Nat) (hk : 10 ≤ k) : ∃ fl' o, spec_l2Wipe.f k fl b t = some (fl', o) ∧ okFl fl' := by
  obtain ⟨k, rfl⟩ : ∃ j, k = j + 1 := ⟨k - 1, by omega⟩
  have hB := flAt h hb0 hb1
  unfold spec_l2Wipe.f
  rw [if_pos hb0, if_pos (by rw [h.1]; exact hb1)]
  by_cases hw : (rd_T73 fl b).f1 ≥ 200
  · rw [if_pos hw]
    exact ⟨_, _, rfl, h⟩
  · rw [if_neg hw]
    simp only [Option.bind_some]
    have h2 : okFl (fl.set b.toNat (⟨(rd_T73 fl b).f0, wrap64 ((rd_T73 fl b).f1 + 1)⟩ : DB)) := okSet h _ ⟨hB.1, hB.2⟩
    have q := fun s (hs : s ≠ 1) => wipeL (s := s) hb0 hb1 hs (k - 5) 4 0 _ h2 (by omega)
    rw [show k - 5 + 4 + 1 = k by omega] at q
    cases t with
    | true =>
      rw [if_pos rfl, spec_l2Wipe.j0]
      exact q 2 (by decide)
    | false =>
      rw [if_neg (by simp), spec_l2Wipe.j0]
      exact q 0 (by decide)
theorem mostL (ps : List DP) (hl : ps.length = 4) (w : Int) (K : Nat) : ∀ (n i : Nat) (m : Int), i + n = 4 → ∃ r, spec_l3Most.l0 (K + n + 1) m (i : Int) ps w = some r
  | 0, i, m, h => ⟨m, by rw [spec_l3Most.l0, if_neg (by omega)]⟩
  | n + 1, i, m, h => by
    rw [show K + (n + 1) + 1 = (K + n + 1) + 1 from rfl, spec_l3Most.l0, if_pos (by omega), if_pos (by omega), upN i (by omega)]
    exact mostL ps hl w K n (i + 1) _ (by omega)
theorem mostF (ps : List DP) (hl : ps.length = 4) (w : Int) (k : Nat) (hk : 5 ≤ k) : ∃ r, spec_l3Most.f k ps w = some r := by
  have h := mostL ps hl w (k - 5) 4 0 0 (by omega)
  rw [show k - 5 + 4 + 1 = k by omega] at h
  exact h
theorem nextL {fl : List DB} (h : okFl fl) (K : Nat) (hK : 5 ≤ K) : ∀ (n i : Nat) (m : Int), i + n = 4 → ∃ r, spec_l3Next.l0 (K + n + 1) fl m (i : Int) = some r
  | 0, i, m, hi => ⟨_, by rw [spec_l3Next.l0, if_neg (by rw [h.1]; omega)]⟩
  | n + 1, i, m, hi => by
    obtain ⟨r, e⟩ := mostF _ (flAt h (show (0 : Int) ≤ i by omega) (show (i : Int) < 4 by omega)).1 (rd_T73 fl (i : Int)).f1 (K + n + 1) (by omega)
    rw [show K + (n + 1) + 1 = (K + n + 1) + 1 from rfl, spec_l3Next.l0, if_pos (by rw [h.1]; omega), if_pos (by omega), e, Option.bind_some, upN i (by omega)]
    exact nextL h K hK n (i + 1) _ (by omega)
theorem nextF {fl : List DB} (h : okFl fl) (k : Nat) (hk : 10 ≤ k) : ∃ r, spec_l3Next.f k fl = some r := by
  have h1 := nextL h (k - 5) (by omega) 4 0 0 (by omega)
  rw [show k - 5 + 4 + 1 = k by omega] at h1
  exact h1
theorem mx0 {o : Int} (h1 : o < 4) : 0 ≤ mx o 0 ∧ mx o 0 < 4 := by
  unfold mx
  split <;> omega
theorem openL {fl : List DB} (h : okFl fl) (K : Nat) (hK : 5 ≤ K) : ∀ (n i : Nat) (o : Int), i + n = 4 → -1 ≤ o → o < 4 → ∃ a c, spec_l3Open.l0 (K + 2 * n + 1) fl o (i : Int) = some (a, c) ∧ 0 ≤ a ∧ a < 4
  | 0, i, o, hi, h1, h2 => by
    rw [spec_l3Open.l0, if_neg (by rw [h.1]; omega)]
    exact ⟨_, _, rfl, mx0 h2⟩
  | n + 1, i, o, hi, h1, h2 => by
    obtain ⟨r, hr, e⟩ := cleanF _ (flAt h (show (0 : Int) ≤ i by omega) (show (i : Int) < 4 by omega)).1 (rd_T73 fl (i : Int)).f1 (K + 2 * n + 1 + 1) (by omega)
    have ih := fun o a b => openL h K hK n (i + 1) o (by omega) a b
    have hl : (i : Int) < (fl.length : Int) := by rw [h.1]; omega
    rw [show K + 2 * (n + 1) + 1 = (K + 2 * n + 1 + 1) + 1 by omega, spec_l3Open.l0, if_pos hl, if_pos (by omega), e]
    simp only [Option.bind_some]
    have J : ∀ c : Bool, ∃ a c', spec_l3Open.j1 (K + 2 * n + 1 + 1) fl o (i : Int) (r : Int) c = some (a, c') ∧ 0 ≤ a ∧ a < 4 := by
      intro c
      rw [spec_l3Open.j1, upN i (by omega)]
      cases c with
      | true =>
        rw [if_pos rfl]
        exact ⟨_, _, rfl, by omega, by omega⟩
      | false =>
        rw [if_neg (by simp)]
        by_cases c1 : (r : Int) > 0
        · rw [if_pos c1]
          by_cases c2 : o < 0
          · rw [if_pos c2]
            exact ih _ (by omega) (by omega)
          · rw [if_neg c2, if_pos (by omega), if_pos hl, if_pos (by omega), if_pos (by rw [h.1]; omega)]
            split
            · exact ih _ (by omega) (by omega)
            · exact ih _ (by omega) (by omega)
        · rw [if_neg c1]
          exact ih _ (by omega) (by omega)
    split
    · exact J _
    · exact J _
theorem openF {fl : List DB} (h : okFl fl) (k : Nat) (hk : 20 ≤ k) : ∃ a c, spec_l3Open.f k fl = some (a, c) ∧ 0 ≤ a ∧ a < 4 := by
  have h1 := openL h (k - 9) (by omega) 4 0 (-1) (by omega) (by omega) (by omega)
  rw [show k - 9 + 2 * 4 + 1 = k by omega] at h1
  exact h1
theorem oldL {fl : List DB} (h : okFl fl) (K : Nat) (hK : 5 ≤ K) : ∀ (n i : Nat) (o : Int), i + n = 4 → 0 ≤ o → o < 4 → ∃ a, spec_l3Old.l0 (K + n + 1) fl o (i : Int) = some a ∧ 0 ≤ a ∧ a < 4
  | 0, i, o, hi, h1, h2 => ⟨o, by rw [spec_l3Old.l0, if_neg (by rw [h.1]; omega)], h1, h2⟩
  | n + 1, i, o, hi, h1, h2 => by
    obtain ⟨r, e⟩ := mostF _ (flAt h (show (0 : Int) ≤ i by omega) (show (i : Int) < 4 by omega)).1 (rd_T73 fl (i : Int)).f1 (K + n + 1) (by omega)
    obtain ⟨r2, e2⟩ := mostF _ (flAt h h1 h2).1 (rd_T73 fl o).f1 (K + n + 1) (by omega)
    have ih := fun o a b => oldL h K hK n (i + 1) o (by omega) a b
    rw [show K + (n + 1) + 1 = (K + n + 1) + 1 from rfl, spec_l3Old.l0, if_pos (by rw [h.1]; omega), if_pos (by omega), e, Option.bind_some, if_pos h1, if_pos (by rw [h.1]; exact h2), e2, Option.bind_some, upN i (by omega)]
    split
    · exact ih _ (by omega) (by omega)
    · exact ih _ h1 h2
theorem oldF {fl : List DB} (h : okFl fl) (k : Nat) (hk : 10 ≤ k) : ∃ a, spec_l3Old.f k fl = some a ∧ 0 ≤ a ∧ a < 4 := by
  have h1 := oldL h (k - 4) (by omega) 3 1 0 (by omega) (by omega) (by omega)
  rw [show k - 4 + 3 + 1 = k by omega] at h1
  exact h1
theorem lastIn (fl : List DB) (s : Int) (i : Nat) (hi : i < fl.length) (hp : (rd_T73 fl (i : Int)).f0.length = 4) (K : Nat) (h0 : ∀ r0 r1 r2 r3, ∃ a b c d e, spec_l3Last.l0 K fl s ((i + 1 : Nat) : Int) r0 r1 r2 r3 = some (a, b, c, d, e)) (hi2 : i < 1000) : ∀ (n j : Nat) (r0 r1 r2 r3 : Int), j + n = 4 → ∃ a b c d e, spec_l3Last.l1 (K + n + 1) fl s (i : Int) (j : Int) r0 r1 r2 r3 = some (a, b, c, d, e)
  | 0, j, r0, r1, r2, r3, h => by
    rw [spec_l3Last.l1, if_pos (by omega), if_pos (by omega), if_neg (by omega), upN i (by omega)]
    exact h0 _ _ _ _
  | n + 1, j, r0, r1, r2, r3, h => by
    have ih := fun r0 r1 r2 r3 => lastIn fl s i hi hp K h0 hi2 n (j + 1) r0 r1 r2 r3 (by omega)
    rw [show K + (n + 1) + 1 = (K + n + 1) + 1 from rfl, spec_l3Last.l1, if_pos (by omega), if_pos (by omega), if_pos (by omega), if_pos (by omega), upN j (by omega)]
    split
    · split
      · split
        · exact ih _ _ _ _
        · exact ih _ _ _ _
      · exact ih _ _ _ _
    · exact ih _ _ _ _
theorem lastOut (fl : List DB) (s : Int) (h : okFl fl) : ∀ (n i K : Nat) (r0 r1 r2 r3 : Int), i + n = 4 → ∃ a b c d e, spec_l3Last.l0 (K + n * 6 + 1) fl s (i : Int) r0 r1 r2 r3 = some (a, b, c, d, e)
  | 0, i, K, r0, r1, r2, r3, hi => ⟨_, _, _, _, _, by rw [spec_l3Last.l0, if_neg (by rw [h.1]; omega)]⟩
  | n + 1, i, K, r0, r1, r2, r3, hi => by
    have ih := fun r0 r1 r2 r3 => lastOut fl s h n (i + 1) K r0 r1 r2 r3 (by omega)
    rw [spec_l3Last.l0, if_pos (by rw [h.1]; omega), show K + (n + 1) * 6 = (K + n * 6 + 1) + 4 + 1 by omega]
    exact lastIn fl s i (by rw [h.1]; omega) (flAt h (by omega) (by omega)).1 (K + n * 6 + 1) ih (by omega) 4 0 _ _ _ _ (by omega)
theorem lastF {fl : List DB} (s : Int) (h : okFl fl) (k : Nat) (hk : 25 ≤ k) : ∃ a b c d e, spec_l3Last.f k fl s = some (a, b, c, d, e) := by
  have h1 := lastOut fl s h 4 0 (k - 25) 0 0 0 0 (by omega)
  rw [show k - 25 + 4 * 6 + 1 = k by omega] at h1
  exact h1
theorem liveF {fl : List DB} (h : okFl fl) (s r0 r1 r2 r3 : Int) (k : Nat) (hk : 25 ≤ k) : ∃ b, spec_l3Live.f k fl s r0 r1 r2 r3 = some b ∧ (b = true → s = 1) := by
  unfold spec_l3Live.f
  by_cases hs : s = 1
  · rw [if_pos hs]
    obtain ⟨a, b, c, d, e, q⟩ := lastF r2 h k hk
    rw [q, Option.bind_some]
    exact ⟨_, rfl, fun _ => hs⟩
  · rw [if_neg hs]
    exact ⟨_, rfl, fun h => by cases h⟩
def okSts (xs : List DS) (n : Nat) : Prop := (∀ x ∈ xs, okSt x) ∧ xs.length ≤ n
theorem nilSts (n : Nat) : okSts [] n := ⟨fun x hx => (by cases hx), Nat.zero_le _⟩
theorem okSts_add {xs : List DS} {n : Nat} (h : okSts xs n) {x : DS} (hx : okSt x) : okSts (xs ++ [x]) (n + 1) := ⟨fun y hy => by
  rcases List.mem_append.1 hy with hy | hy
  · exact h.1 _ hy
  · rw [List.mem_singleton] at hy
    rw [hy]
    exact hx, by rw [List.length_append, List.length_singleton]; have := h.2; omega⟩
theorem okSts_mono {xs : List DS} {n m : Nat} (h : okSts xs n) (hm : n ≤ m) : okSts xs m := ⟨h.1, by have := h.2; omega⟩
theorem roomL {fl : List DB} (h : okFl fl) (d : List Int) {o : Int} (ho0 : 0 ≤ o) (ho1 : o < 4) (K : Nat) (hK : 25 ≤ K) : ∀ (n i : Nat) (out : List DS), i + n = 4 → okSts out i → ∃ xs c, spec_l12Room.l0 (K + n + 1) out o (i : Int) fl d = some (xs, o, c) ∧ okSts xs 5
  | 0, i, out, hi, hs => by
    have h2 := hs.2
    rw [spec_l12Room.l0, if_neg (by omega), if_pos (by omega), if_pos ho0, if_pos (by rw [h.1]; exact ho1)]
    exact ⟨_, _, rfl, okSts_mono (okSts_add hs ⟨fun hq => absurd hq (by show ¬ (2 : Int) = 1; decide), fun _ => ⟨ho0, ho1⟩, fun hq => absurd hq (by show ¬ (2 : Int) = 3; decide)⟩) (by omega)⟩
  | n + 1, i, out, hi, hs => by
    have h2 := hs.2
    have hB := flAt h ho0 ho1
    have ih := fun out (hs : okSts out (i + 1)) => roomL h d ho0 ho1 K hK n (i + 1) out (by omega) hs
    generalize hq : rd_T69 (rd_T73 fl o).f0 (i : Int) = p
    have hpg : okPg p := by
      rw [← hq]
      exact hB.2 _ (rdP_in (by omega) (by rw [hB.1]; omega))
    obtain ⟨b, e, hb⟩ := liveF h p.f0 p.f1.f0 p.f1.f1 p.f1.f2 p.f1.f3 (K + n + 1) (by omega)
    rw [show K + (n + 1) + 1 = (K + n + 1) + 1 from rfl, spec_l12Room.l0, hq, if_pos (by omega), if_pos ho0, if_pos (by rw [h.1]; exact ho1), if_pos (by omega), if_pos (by rw [hB.1]; omega), e, Option.bind_some, upN i (by omega)]
    cases b with
    | false =>
      rw [if_neg (by simp)]
      exact ih _ (okSts_mono hs (by omega))
    | true =>
      rw [if_pos rfl]
      split
      · rw [if_pos (by omega)]
        exact ih _ (okSts_add hs ⟨fun _ => hpg (hb rfl), fun hq => by rcases hq with hq | hq <;> exact absurd hq (by simp), fun hq => absurd hq (by show ¬ (1 : Int) = 3; decide)⟩)
      · exact ih _ (okSts_mono hs (by omega))
theorem roomF {fl : List DB} (h : okFl fl) (d : List Int) (k : Nat) (hk : 40 ≤ k) : ∃ xs b c, spec_l12Room.f k fl d = some (xs, b, c) ∧ okSts xs 5 ∧ 0 ≤ b ∧ b < 4 := by
  obtain ⟨a, c, e, ha0, ha1⟩ := openF h k (by omega)
  obtain ⟨o, e2, ho0, ho1⟩ := oldF h k (by omega)
  unfold spec_l12Room.f
  rw [e, e2]
  simp only [Option.bind_some]
  cases c with
  | true =>
    rw [if_pos rfl]
    exact ⟨_, _, _, rfl, nilSts _, ha0, ha1⟩
  | false =>
    rw [if_neg (by simp)]
    obtain ⟨xs, c, e3, h3⟩ := roomL h d ho0 ho1 (k - 5) (by omega) 4 0 [] (by omega) (nilSts _)
    rw [show k - 5 + 4 + 1 = k by omega] at e3
    exact ⟨xs, o, c, e3, h3, ho0, ho1⟩
theorem stWriteF {fl : List DB} (h : okFl fl) (d : List Int) (kd a v : Int) (k : Nat) (hk : 40 ≤ k) : ∃ xs, spec_l12Write.f k fl d kd a v = some xs ∧ okSts xs 6 := by
  obtain ⟨n, e⟩ := nextF h k (by omega)
  obtain ⟨xs, b, c, e2, hx, hb0, hb1⟩ := roomF h d k hk
  obtain ⟨r, e3, hr⟩ := recOk_t kd n a v
  unfold spec_l12Write.f
  rw [e, e2]
  simp only [Option.bind_some]
  rw [e3]
  simp only [Option.bind_some]
  cases c with
  | false =>
    rw [if_neg (by simp)]
    exact ⟨_, rfl, nilSts _⟩
  | true =>
    rw [if_pos rfl]
    cases r with
    | false =>
      rw [if_neg (by simp)]
      exact ⟨_, rfl, nilSts _⟩
    | true =>
      rw [if_pos rfl, if_pos (by have := hx.2; omega)]
      exact ⟨_, rfl, okSts_add hx ⟨fun hq => absurd hq (by show ¬ (3 : Int) = 1; decide), fun _ => ⟨hb0, hb1⟩, fun _ => hr rfl⟩⟩
theorem diskAt {a : Int} (h : 1 ≤ a ∧ a ≤ 6) : wrap64 (a - 1) = a - 1 := wrap64_in _ (by omega)
theorem readF {fl : List DB} (h : okFl fl) {d : List Int} (hd : d.length = 6) {a : Int} (ha : 1 ≤ a ∧ a ≤ 6) (k : Nat) (hk : 25 ≤ k) : ∃ v, spec_l11Read.f k fl d a = some v := by
  obtain ⟨r0, r1, r2, r3, c, e⟩ := lastF a h k hk
  unfold spec_l11Read.f
  rw [e, Option.bind_some, diskAt ha]
  cases c with
  | true => exact ⟨_, if_pos rfl⟩
  | false =>
    rw [if_neg (by simp), if_pos (by omega), if_pos (by omega)]
    exact ⟨_, rfl⟩
theorem dirtyF {fl : List DB} (h : okFl fl) (d : List Int) (a : Int) (k : Nat) (hk : 25 ≤ k) : ∃ v, spec_l11Dirty.f k fl d a = some v := by
  obtain ⟨r0, r1, r2, r3, c, e⟩ := lastF a h k hk
  unfold spec_l11Dirty.f
  rw [e, Option.bind_some]
  split
  · exact ⟨_, rfl⟩
  · exact ⟨_, rfl⟩
theorem flushF {fl : List DB} (h : okFl fl) {d : List Int} (hd : d.length = 6) (a : Int) (k : Nat) (hk : 50 ≤ k) : ∃ xs, spec_l12Flush.f k fl d a = some xs ∧ okSts xs 7 := by
  obtain ⟨k, rfl⟩ : ∃ j, k = j + 1 := ⟨k - 1, by omega⟩
  have hnil : okSts ([] : List DS) 7 := nilSts 7
  unfold spec_l12Flush.f
  rw [l6In_t, Option.bind_some]
  by_cases ha : 1 ≤ a ∧ a ≤ 6
  · rw [if_pos (decide_eq_true ha)]
    obtain ⟨b, e⟩ := dirtyF h d a (k + 1) (by omega)
    rw [e, Option.bind_some, spec_l12Flush.j0]
    cases b with
    | false => exact ⟨_, if_pos rfl, hnil⟩
    | true =>
      obtain ⟨v, e2⟩ := readF h hd ha k (by omega)
      obtain ⟨xs, e3, hx⟩ := stWriteF h d 2 a v k (by omega)
      have h6 := hx.2
      rw [if_neg (by simp), e2]
      simp only [Option.bind_some]
      rw [e3]
      simp only [Option.bind_some]
      split
      · exact ⟨_, rfl, okSts_mono hx (by omega)⟩
      · rw [if_pos (by rw [List.length_singleton]; omega)]
        refine ⟨_, rfl, fun x hq => ?_, by rw [List.length_append, List.length_singleton]; omega⟩
        rcases List.mem_append.1 hq with hq | hq
        · rw [List.mem_singleton] at hq
          rw [hq]
          exact ⟨fun _ => ha, fun hq => by rcases hq with hq | hq <;> exact absurd hq (by simp), fun hq => absurd hq (by show ¬ (1 : Int) = 3; decide)⟩
        · exact hx.1 _ hq
  · rw [if_neg (by simpa using ha), spec_l12Flush.j0]
    exact ⟨_, if_pos rfl, hnil⟩
theorem fillF {fl : List DB} (h : okFl fl) {d : List Int} (hd : d.length = 6) (a : Int) (k : Nat) (hk : 50 ≤ k) : ∃ xs, spec_l12Fill.f k fl d a = some xs ∧ okSts xs 7 := by
  have hnil : okSts ([] : List DS) 7 := nilSts 7
  unfold spec_l12Fill.f
  rw [l6In_t, Option.bind_some]
  by_cases ha : 1 ≤ a ∧ a ≤ 6
  · rw [if_pos (decide_eq_true ha)]
    obtain ⟨r0, r1, r2, r3, c, e⟩ := lastF a h k (by omega)
    rw [e, Option.bind_some, diskAt ha]
    cases c with
    | true => exact ⟨_, if_pos rfl, hnil⟩
    | false =>
      obtain ⟨xs, e3, hx⟩ := stWriteF h d 2 a (rd d (a - 1)) k (by omega)
      rw [if_neg (by simp), if_pos (by omega), if_pos (by omega), e3, Option.bind_some]
      exact ⟨_, rfl, okSts_mono hx (by omega)⟩
  · rw [if_neg (by simpa using ha)]
    exact ⟨_, rfl, hnil⟩
theorem stepsF {fl : List DB} (h : okFl fl) {d : List Int} (hd : d.length = 6) (kd a b c : Int) (t : Bool) (k : Nat) (hk : 50 ≤ k) : ∃ xs, spec_l21Steps.f k fl d kd a b c t = some xs ∧ okSts xs 7 := by
  unfold spec_l21Steps.f
  obtain ⟨x1, e1, h1⟩ := stWriteF h d 1 a b k (by omega)
  obtain ⟨x2, e2, h2⟩ := flushF h hd a k hk
  obtain ⟨x3, e3, h3⟩ := fillF h hd a k hk
  rw [e1, e2, e3]
  simp only [Option.bind_some]
  split
  · exact ⟨_, rfl, okSts_mono h1 (by omega)⟩
  split
  · exact ⟨_, rfl, h2⟩
  split
  · exact ⟨_, rfl, h3⟩
  · exact ⟨_, rfl, nilSts _⟩
theorem stDoF {fl : List DB} (h : okFl fl) {d : List Int} (hd : d.length = 6) {x : DS} (hx : okSt x) (t : Bool) (k : Nat) (hk : 40 ≤ k) : ∃ fl' d', spec_l12Do.f k fl d x.f0 x.f1 x.f2 x.f3 x.f4.f0 x.f4.f1 x.f4.f2 x.f4.f3 t = some (fl', d') ∧ okFl fl' ∧ d'.length = 6 := by
  unfold spec_l12Do.f
  by_cases c1 : x.f0 = 1
  · rw [if_pos c1]
    cases t with
    | true => exact ⟨_, _, if_pos rfl, h, hd⟩
    | false =>
      have ha := hx.1 c1
      rw [if_neg (by simp), diskAt ha, if_pos (by omega), if_pos (by omega)]
      exact ⟨_, _, rfl, h, by rw [List.length_set]; exact hd⟩
  rw [if_neg c1]
  by_cases c2 : x.f0 = 2
  · rw [if_pos c2]
    have hb := hx.2.1 (.inl c2)
    obtain ⟨fl', o, e, h'⟩ := wipeF h hb.1 hb.2 t k (by omega)
    rw [e, Option.bind_some]
    exact ⟨_, _, rfl, h', hd⟩
  rw [if_neg c2]
  by_cases c3 : x.f0 = 3
  · rw [if_pos c3]
    have hb := hx.2.1 (.inr c3)
    obtain ⟨fl', o, e, h'⟩ := writeF h hb.1 hb.2 x.f4.f0 x.f4.f1 x.f4.f2 x.f4.f3 (hx.2.2 c3) t k (by omega)
    rw [e, Option.bind_some]
    exact ⟨_, _, rfl, h', hd⟩
  rw [if_neg c3]
  exact ⟨_, _, rfl, h, hd⟩
theorem toEnd {xs : List DS} (hx : okSts xs 7) {fl : List DB} (h : okFl fl) {d : List Int} (hd : d.length = 6) (cut : Int) (t : Bool) (k : Nat) (hk : 50 ≤ k) : ∃ fl' d', spec_l12To.j1 k xs cut t fl d = some (fl', d') ∧ okFl fl' ∧ d'.length = 6 := by
  obtain ⟨k, rfl⟩ : ∃ j, k = j + 1 := ⟨k - 1, by omega⟩
  have h7 := hx.2
  rw [spec_l12To.j1]
  cases t with
  | false =>
    rw [if_neg (by simp)]
    exact ⟨_, _, rfl, h, hd⟩
  | true =>
    rw [if_pos rfl, l6In_t, Option.bind_some]
    by_cases hc : 0 ≤ cut ∧ cut ≤ wrap64 ((xs.length : Int) - 1)
    · have hc2 := hc
      rw [wrap64_in _ (by omega)] at hc2
      obtain ⟨fl', d', e, h', hd'⟩ := stDoF h hd (hx.1 _ (rdS_in hc2.1 (by omega))) true k (by omega)
      rw [if_pos (decide_eq_true hc), if_pos hc2.1, if_pos (by omega), e, Option.bind_some]
      exact ⟨_, _, rfl, h', hd'⟩
    · rw [if_neg (by simpa using hc)]
      exact ⟨_, _, rfl, h, hd⟩
theorem toL {xs : List DS} (hx : okSts xs 7) (cut : Int) (t : Bool) (K : Nat) (hK : 50 ≤ K) : ∀ (n i : Nat) (fl : List DB) (d : List Int), i + n = xs.length → okFl fl → d.length = 6 → ∃ fl' d', spec_l12To.l0 (K + n + 1) xs cut t (i : Int) fl d = some (fl', d') ∧ okFl fl' ∧ d'.length = 6
  | 0, i, fl, d, hi, h, hd => by
    rw [spec_l12To.l0, if_neg (by omega)]
    exact toEnd hx h hd cut t _ (by omega)
  | n + 1, i, fl, d, hi, h, hd => by
    have h7 := hx.2
    rw [show K + (n + 1) + 1 = (K + n + 1) + 1 from rfl, spec_l12To.l0, if_pos (by omega)]
    by_cases hc : (i : Int) < cut
    · obtain ⟨fl', d', e, h', hd'⟩ := stDoF h hd (hx.1 _ (rdS_in (show (0 : Int) ≤ i by omega) (by omega))) false (K + n + 1) (by omega)
      rw [if_pos hc, if_pos (by omega), e, Option.bind_some, upN i (by omega)]
      exact toL hx cut t K hK n (i + 1) fl' d' (by omega) h' hd'
    · rw [if_neg hc]
      exact toEnd hx h hd cut t _ (by omega)
theorem toF {xs : List DS} (hx : okSts xs 7) {fl : List DB} (h : okFl fl) {d : List Int} (hd : d.length = 6) (cut : Int) (t : Bool) (k : Nat) (hk : 60 ≤ k) : ∃ fl' d', spec_l12To.f k fl d xs cut t = some (fl', d') ∧ okFl fl' ∧ d'.length = 6 := by
  have h7 := hx.2
  have h1 := toL hx cut t (k - xs.length - 1) (by omega) xs.length 0 fl d (by omega) h hd
  rw [show k - xs.length - 1 + xs.length + 1 = k by omega] at h1
  exact h1
theorem allL (K : Nat) (hK : 60 ≤ K) : ∀ (n a : Nat) (fl : List DB) (d : List Int), a + n = 7 → okFl fl → d.length = 6 → ∃ fl' d', spec_l21All.l0 (K + n + 1) (a : Int) fl d = some (fl', d') ∧ okFl fl' ∧ d'.length = 6
  | 0, a, fl, d, ha, h, hd => by
    rw [spec_l21All.l0, if_neg (by omega)]
    exact ⟨_, _, rfl, h, hd⟩
  | n + 1, a, fl, d, ha, h, hd => by
    obtain ⟨xs, e, hx⟩ := flushF h hd (a : Int) (K + n + 1) (by omega)
    obtain ⟨fl', d', e2, h', hd'⟩ := toF hx h hd (xs.length : Int) false (K + n + 1) (by omega)
    rw [show K + (n + 1) + 1 = (K + n + 1) + 1 from rfl, spec_l21All.l0, if_pos (by omega), e, Option.bind_some, e2, Option.bind_some, upN a (by omega)]
    exact allL K hK n (a + 1) fl' d' (by omega) h' hd'
theorem plDoF {fl : List DB} (h : okFl fl) {d : List Int} (hd : d.length = 6) (kd a b c : Int) (t : Bool) (k : Nat) (hk : 80 ≤ k) : ∃ fl' d', spec_l21Do.f k fl d kd a b c t = some (fl', d') ∧ okFl fl' ∧ d'.length = 6 := by
  unfold spec_l21Do.f
  by_cases c1 : kd = 4
  · have h1 := allL (k - 7) (by omega) 6 1 fl d (by omega) h hd
    rw [show k - 7 + 6 + 1 = k by omega] at h1
    obtain ⟨fl', d', e, h', hd'⟩ := h1
    rw [if_pos c1, show spec_l21All.f k fl d = some (fl', d') from e, Option.bind_some]
    exact ⟨_, _, rfl, h', hd'⟩
  rw [if_neg c1]
  by_cases c2 : c < 0
  · rw [if_pos c2]
    exact ⟨_, _, rfl, h, hd⟩
  obtain ⟨xs, e, hx⟩ := stepsF h hd kd a b c t k (by omega)
  obtain ⟨fl', d', e2, h', hd'⟩ := toF hx h hd c t k (by omega)
  rw [if_neg c2, e, Option.bind_some, e2, Option.bind_some]
  exact ⟨_, _, rfl, h', hd'⟩
theorem newL (K : Nat) : ∀ (n i : Nat) (fl : List DB), i + n = 4 → fl.length = i → (∀ b ∈ fl, okBl b) → ∃ fl', spec_FlashNew.l0 (K + n + 1) fl (i : Int) = some fl' ∧ okFl fl'
  | 0, i, fl, hi, hl, h => by
    rw [spec_FlashNew.l0, if_neg (by omega)]
    exact ⟨_, rfl, by omega, h⟩
  | n + 1, i, fl, hi, hl, h => by
    rw [show K + (n + 1) + 1 = (K + n + 1) + 1 from rfl, spec_FlashNew.l0, if_pos (by omega), if_pos (by decide), if_pos (by omega), upN i (by omega)]
    refine newL K n (i + 1) _ (by omega) (by rw [List.length_append, List.length_singleton, hl]) (fun b hb => ?_)
    rcases List.mem_append.1 hb with hb | hb
    · exact h _ hb
    · rw [List.mem_singleton] at hb
      rw [hb]
      refine ⟨rfl, fun p hp hq => ?_⟩
      rw [List.eq_of_mem_replicate hp] at hq
      exact absurd hq (by show ¬ (0 : Int) = 1; decide)
theorem newF (k : Nat) (hk : 10 ≤ k) : ∃ fl d, spec_StoreNew.f k = some (fl, d) ∧ okFl fl ∧ d.length = 6 := by
  obtain ⟨fl, e, h⟩ := newL (k - 5) 4 0 [] (by omega) rfl (fun b hb => by cases hb)
  rw [show k - 5 + 4 + 1 = k by omega] at e
  unfold spec_StoreNew.f
  rw [show spec_FlashNew.f k = some fl from e, Option.bind_some, if_pos (by decide)]
  exact ⟨_, _, rfl, h, rfl⟩
theorem i64_xor_nat (a b : Nat) (ha : a < 4611686018427387904) (hb : b < 4611686018427387904) : bits .xor .i64 (a : Int) (b : Int) = ((a ^^^ b : Nat) : Int) := by
  have hx : a ^^^ b < 2 ^ 62 := Nat.xor_lt_two_pow (by omega) (by omega)
  show IntKind.i64.wrap ((BitVec.ofInt 64 (a : Int) ^^^ BitVec.ofInt 64 (b : Int)).toNat : Int) = _
  rw [BitVec.toNat_xor, ofInt_u64 a (by omega), ofInt_u64 b (by omega)]
  rw [IntKind.wrap_i64]
  omega
theorem i64_xor_pos {a b : Int} (h1 : 0 ≤ a) (h2 : a < 4611686018427387904) (h3 : 0 ≤ b) (h4 : b < 4611686018427387904) : 0 ≤ bits .xor .i64 a b := by
  obtain ⟨A, rfl⟩ := Int.eq_ofNat_of_zero_le h1
  obtain ⟨B, rfl⟩ := Int.eq_ofNat_of_zero_le h3
  rw [i64_xor_nat A B (by omega) (by omega)]
  omega
def Bytes (s : List Int) : Prop := ∀ x ∈ s, 0 ≤ x ∧ x ≤ 255
theorem rd_byte {s : List Int} (hb : Bytes s) (i : Int) : 0 ≤ rd s i ∧ rd s i ≤ 255 := by
  unfold rd
  rw [List.getD_eq_getElem?_getD]
  cases h : s[i.toNat]? with
  | none => simp
  | some v => simpa using hb v (List.mem_of_getElem? h)
theorem pick_ok (k : Nat) {s : List Int} {p n : Int} (hb : Bytes s) (hp : 0 ≤ p) (hp2 : p < 1000000) (hn : 1 ≤ n) (hn2 : n ≤ 1000000) :
    ∃ v, spec_l6Rd_pick.f (k + 1) s p n = some (v, p + 1) ∧ 0 ≤ v ∧ v < n := by
  have e1 : wrap64 (p + 1) = p + 1 := wrap64_in _ (by omega)
  have e2 : wrap64 (p + 1 - 1) = p := by rw [wrap64_in _ (by omega)]; omega
  unfold spec_l6Rd_pick.f
  rw [if_neg (by omega), e1, spec_l6Rd_pick.j0, e2]
  cases hs : ((s.length : Int) == 0) with
  | true => exact ⟨0, by simp, by omega, by omega⟩
  | false =>
    have hl : (s.length : Int) ≠ 0 := by simpa using hs
    have hl0 : 0 < (s.length : Int) := by omega
    rw [if_neg (by simp)]
    by_cases hc : p < (s.length : Int)
    · rw [if_pos hc, if_pos hp, if_neg (by omega)]
      have hr := rd_byte hb p
      rw [wrap64_in _ (by omega)]
      exact ⟨_, rfl, Int.tmod_nonneg _ hr.1, Int.tmod_lt_of_pos _ (by omega)⟩
    · have e3 : wrap64 (p * 7) = p * 7 := wrap64_in _ (by omega)
      have e4 : wrap64 (p * 7 + 3) = p * 7 + 3 := wrap64_in _ (by omega)
      rw [if_neg hc, if_neg hl, e3, e4, if_pos (Int.tmod_nonneg _ hp), if_pos (Int.tmod_lt_of_pos _ hl0), if_pos (Int.tmod_nonneg _ (by omega)), if_pos (Int.tmod_lt_of_pos _ hl0), if_neg (by omega)]
      refine ⟨_, rfl, ?_, Int.tmod_lt_of_pos _ (by omega)⟩
      apply Int.tmod_nonneg
      have r1 := rd_byte hb (Int.tmod p (s.length : Int))
      have r2 := rd_byte hb (Int.tmod (p * 7 + 3) (s.length : Int))
      have q1 : 0 ≤ Int.tdiv p (s.length : Int) := Int.tdiv_nonneg hp (by omega)
      have q2 : Int.tdiv p (s.length : Int) ≤ p := by
        rw [Int.tdiv_eq_ediv_of_nonneg hp]
        exact Int.ediv_le_self _ hp
      generalize rd s (Int.tmod p (s.length : Int)) = x at *
      generalize rd s (Int.tmod (p * 7 + 3) (s.length : Int)) = y at *
      generalize Int.tdiv p (s.length : Int) = q at *
      rw [wrap64_in x (by omega), wrap64_in y (by omega), wrap64_in q (by omega), wrap64_in (x * 131) (by omega), wrap64_in (y * 1117) (by omega), wrap64_in (p * 29) (by omega), wrap64_in (q * 53) (by omega), wrap64_in (x * 131 + y * 1117) (by omega), wrap64_in (x * 131 + y * 1117 + p * 29) (by omega), wrap64_in (x * 131 + y * 1117 + p * 29 + q * 53) (by omega)]
      have t0 : 0 ≤ x * 131 + y * 1117 + p * 29 + q * 53 := by omega
      rw [Int.tdiv_eq_ediv_of_nonneg t0, wrap64_in _ (by omega)]
      exact i64_xor_pos t0 (by omega) (by omega) (by omega)
theorem pickT {s : List Int} {p n : Int} (hb : Bytes s) (hp : 0 ≤ p) (hp2 : p < 1000000) (hn : 1 ≤ n) (hn2 : n ≤ 1000000) (k : Nat) (hk : 1 ≤ k) : ∃ v, spec_l6Rd_pick.f k s p n = some (v, p + 1) ∧ 0 ≤ v ∧ v < n := by
  obtain ⟨j, rfl⟩ : ∃ j, k = j + 1 := ⟨k - 1, by omega⟩
  exact pick_ok j hb hp hp2 hn hn2
theorem open_ok {l : List Int} (hb : Bytes l) : ∃ s, spec_l6Open.f l = some (s, 0) ∧ Bytes s := by
  unfold spec_l6Open.f
  by_cases h : (l.length : Int) > 2000
  · rw [if_pos h, if_pos (by omega)]
    exact ⟨_, rfl, fun x hx => hb x (List.mem_of_mem_take hx)⟩
  · rw [if_neg h]
    exact ⟨_, rfl, hb⟩
theorem rec_ok (k : Nat) {s : List Int} {p : Int} (hb : Bytes s) (hp : 0 ≤ p) (hp2 : p < 900000) :
    ∃ a b c d q, spec_l71Rec.f (k + 1) s p = some (a, b, c, d, q) ∧ 0 ≤ q ∧ q ≤ p + 10 := by
  obtain ⟨v1, h1, _, _⟩ := pick_ok k (n := 2) hb hp (by omega) (by omega) (by omega)
  obtain ⟨v2, h2, _, _⟩ := pick_ok k (p := p + 1) (n := 40) hb (by omega) (by omega) (by omega) (by omega)
  obtain ⟨v3, h3, _, _⟩ := pick_ok k (p := p + 1 + 1) (n := 6) hb (by omega) (by omega) (by omega) (by omega)
  obtain ⟨v4, h4, _, _⟩ := pick_ok k (p := p + 1 + 1 + 1) (n := 10) hb (by omega) (by omega) (by omega) (by omega)
  obtain ⟨v5, h5, _, _⟩ := pick_ok k (p := p + 1 + 1 + 1 + 1) (n := 20) hb (by omega) (by omega) (by omega) (by omega)
  obtain ⟨w1, g1, _, _⟩ := pick_ok k (p := p + 1 + 1 + 1 + 1 + 1) (n := 4) hb (by omega) (by omega) (by omega) (by omega)
  obtain ⟨w2, g2, _, _⟩ := pick_ok k (p := p + 1 + 1 + 1 + 1 + 1) (n := 3) hb (by omega) (by omega) (by omega) (by omega)
  obtain ⟨w3, g3, _, _⟩ := pick_ok k (p := p + 1 + 1 + 1 + 1 + 1) (n := 2) hb (by omega) (by omega) (by omega) (by omega)
  unfold spec_l71Rec.f
  simp only [h1, h2, h3, h4, h5, Option.bind_some]
  by_cases c0 : v5 = 0
  · rw [if_pos c0]
    simp only [g1, Option.bind_some]
    exact ⟨_, _, _, _, _, rfl, by omega, by omega⟩
  rw [if_neg c0]
  by_cases c1 : v5 = 1
  · rw [if_pos c1]
    simp only [g2, Option.bind_some]
    rw [if_pos (by omega), if_pos (by simp; omega)]
    exact ⟨_, _, _, _, _, rfl, by omega, by omega⟩
  rw [if_neg c1]
  by_cases c2 : v5 = 2
  · rw [if_pos c2]
    simp only [g3, Option.bind_some]
    rw [if_pos (by omega), if_pos (by simp; omega)]
    exact ⟨_, _, _, _, _, rfl, by omega, by omega⟩
  rw [if_neg c2]
  by_cases c3 : v5 = 3
  · rw [if_pos c3]
    simp only [g3, Option.bind_some]
    rw [if_pos (by omega), if_pos (by simp; omega)]
    exact ⟨_, _, _, _, _, rfl, by omega, by omega⟩
  rw [if_neg c3]
  exact ⟨_, _, _, _, _, rfl, by omega, by omega⟩
theorem bytes_of {l : List Int} (h : ∀ x ∈ l, (Lit.int .u8 x).wf = true) : Bytes l := fun x hx => by
  have := h x hx
  have h2 : (decide (0 ≤ x) && decide (x ≤ 255)) = true := this
  simpa using h2
theorem kd_ok (k : Nat) {s : List Int} {c p : Int} (hb : Bytes s) (hp : 0 ≤ p) (hp2 : p < 900000) : ∃ e q, spec_l71Event.kd (k + 1) s c p = some (e, q) ∧ 0 ≤ q ∧ q ≤ p + 1 := by
  obtain ⟨v, h, _, _⟩ := pick_ok k (n := 3) hb hp (by omega) (by omega) (by omega)
  unfold spec_l71Event.kd
  split
  · exact ⟨_, _, rfl, by omega, by omega⟩
  split
  · exact ⟨_, _, rfl, by omega, by omega⟩
  split
  · rw [h, Option.bind_some]
    exact ⟨_, _, rfl, by omega, by omega⟩
  · exact ⟨_, _, rfl, by omega, by omega⟩
theorem event_ok (k : Nat) {s : List Int} {p : Int} (hb : Bytes s) (hp : 0 ≤ p) (hp2 : p < 700000) :
    ∃ a b c d e q, spec_l71Event.f (k + 3) s p = some (a, b, c, d, e, q) ∧ 0 ≤ q ∧ q ≤ p + 8 := by
  obtain ⟨v1, h1, _, _⟩ := pick_ok (k + 2) (n := 6) hb hp (by omega) (by omega) (by omega)
  obtain ⟨v2, h2, _, _⟩ := pick_ok (k + 2) (p := p + 1) (n := 10) hb (by omega) (by omega) (by omega) (by omega)
  obtain ⟨v3, h3, _, _⟩ := pick_ok (k + 2) (p := p + 1 + 1) (n := 12) hb (by omega) (by omega) (by omega) (by omega)
  obtain ⟨e, q, h4, q0, q1⟩ := kd_ok (k + 2) (c := v3) (p := p + 1 + 1 + 1) hb (by omega) (by omega)
  obtain ⟨v5, h5, _, _⟩ := pick_ok (k + 2) (p := q) (n := 4) hb (by omega) (by omega) (by omega) (by omega)
  obtain ⟨v6, h6, _, _⟩ := pick_ok (k + 2) (p := q + 1) (n := 5) hb (by omega) (by omega) (by omega) (by omega)
  obtain ⟨v7, h7, _, _⟩ := pick_ok (k + 2) (p := q + 1 + 1) (n := 3) hb (by omega) (by omega) (by omega) (by omega)
  unfold spec_l71Event.f
  simp only [h1, h2, h3, h4, h5, h6, h7, Option.bind_some]
  split
  · exact ⟨_, _, _, _, _, _, rfl, by omega, by omega⟩
  · exact ⟨_, _, _, _, _, _, rfl, by omega, by omega⟩
theorem playL {s : List Int} (hb : Bytes s) (B : Int) (hB : B ≤ 100000) (K : Nat) (hK : 100 ≤ K) : ∀ (n : Nat) (ev : List S61) (p : Int) (fl : List DB) (d : List Int), ev.length + n ≤ 100 → 0 ≤ p → p + 8 * (n : Int) ≤ B → okFl fl → d.length = 6 →
    ∃ ev' fl' d' q, spec_l71Play.l0 (K + n + 1) ev (n : Int) s p fl d = some (ev', fl', d', q) ∧ okFl fl' ∧ d'.length = 6 ∧ 0 ≤ q ∧ q ≤ B
  | 0, ev, p, fl, d, he, hp, hp2, h, hd => by
    rw [spec_l71Play.l0, if_neg (by omega)]
    exact ⟨_, _, _, _, rfl, h, hd, hp, by omega⟩
  | n + 1, ev, p, fl, d, he, hp, hp2, h, hd => by
    obtain ⟨a, b, c, e, t, q, hq, q1, q2⟩ := event_ok (K + n - 2) hb hp (by omega)
    rw [show K + n - 2 + 3 = K + n + 1 by omega] at hq
    obtain ⟨fl', d', e2, h', hd'⟩ := plDoF h hd a b c e t (K + n + 1) (by omega)
    have e3 : wrap64 (((n + 1 : Nat) : Int) - 1) = (n : Int) := by rw [wrap64_in _ (by omega)]; omega
    rw [show K + (n + 1) + 1 = (K + n + 1) + 1 from rfl, spec_l71Play.l0, if_pos (by omega), hq]
    simp only [Option.bind_some]
    rw [if_pos (by omega), e2]
    simp only [Option.bind_some]
    rw [e3]
    exact playL hb B hB K hK n _ q fl' d' (by rw [List.length_append, List.length_singleton]; omega) q1 (by omega) h' hd'
theorem play_from {s : List Int} (hb : Bytes s) (p0 : Int) (hp0 : 0 ≤ p0) (hp1 : p0 ≤ 20000) (k : Nat) (hk : 200 ≤ k) : ∃ ev fl d q, spec_l71Play.f k s p0 = some (ev, fl, d, q) ∧ okFl fl ∧ d.length = 6 ∧ 0 ≤ q ∧ q ≤ p0 + 9000 := by
  obtain ⟨fl, d, e, h, hd⟩ := newF k (by omega)
  obtain ⟨v, h1, hv0, hv1⟩ := pick_ok (k - 1) (n := 58) hb hp0 (by omega) (by omega) (by omega)
  obtain ⟨n, rfl⟩ := Int.eq_ofNat_of_zero_le hv0
  rw [show k - 1 + 1 = k by omega] at h1
  have h2 := playL hb (p0 + 9000) (by omega) (k - n - 1) (by omega) n [] (p0 + 1) fl d (by simp; omega) (by omega) (by omega) h hd
  rw [show k - n - 1 + n + 1 = k by omega] at h2
  unfold spec_l71Play.f
  rw [e]
  simp only [Option.bind_some]
  rw [h1]
  simp only [Option.bind_some]
  exact h2
theorem flash_from {s : List Int} (hb : Bytes s) (p0 : Int) (h00 : 0 ≤ p0) (h01 : p0 ≤ 20000) (k : Nat) (hk : 200 ≤ k) : ∃ fl q, spec_l71Flash.f k s p0 = some (fl, q) ∧ 0 ≤ q ∧ q ≤ p0 + 9100 := by
  obtain ⟨ev, fl, d, p, e, h, hd, hp0, hp1⟩ := play_from hb p0 h00 h01 k hk
  obtain ⟨k, rfl⟩ : ∃ j, k = j + 1 := ⟨k - 1, by omega⟩
  have P := fun (p : Int) (n : Int) (h1 : 0 ≤ p) (h2 : p < 100000) (h3 : 1 ≤ n) (h4 : n ≤ 100) => pick_ok k (p := p) (n := n) hb h1 (by omega) h3 (by omega)
  obtain ⟨v, h1, hv0, hv1⟩ := P p 20 hp0 (by omega) (by omega) (by omega)
  have hl : (fl.length : Int) = 4 := by rw [h.1]; rfl
  have hfn : flFine fl = true := by
    unfold flFine
    rw [Bool.and_eq_true, beq_iff_eq, List.all_eq_true]
    exact ⟨h.1, fun b hb => beq_iff_eq.2 (h.2 b hb).1⟩
  unfold spec_l71Flash.f
  rw [e]
  simp only [Option.bind_some]
  rw [h1]
  simp only [Option.bind_some]
  rw [if_pos hfn]
  obtain ⟨i, g3, hi0, hi1⟩ := P (p + 1) 4 (by omega) (by omega) (by omega) (by omega)
  obtain ⟨j, g4, hj0, hj1⟩ := P (p + 1 + 1) 4 (by omega) (by omega) (by omega) (by omega)
  obtain ⟨w, g5, hw0, hw1⟩ := P (p + 1 + 1) 3 (by omega) (by omega) (by omega) (by omega)
  obtain ⟨st, g6, hs0, hs1⟩ := P (p + 1 + 1 + 1) 4 (by omega) (by omega) (by omega) (by omega)
  obtain ⟨a, b, c, e2, q, g7, hq0, hq1⟩ := rec_ok k hb (show 0 ≤ p + 1 + 1 + 1 + 1 by omega) (by omega)
  have hB := flAt h hi0 hi1
  unfold spec_l71Flash.g
  rw [hl, g3]
  simp only [Option.bind_some]
  rw [g4, g5]
  simp only [Option.bind_some]
  rw [g6]
  simp only [Option.bind_some]
  rw [g7]
  simp only [Option.bind_some]
  split
  · rw [if_pos ⟨hi0, hi1, hj0, by rw [hB.1]; exact hj1⟩]
    exact ⟨_, _, rfl, by omega, by omega⟩
  split
  · rw [if_pos ⟨hi0, hi1, hw0, hw1⟩]
    exact ⟨_, _, rfl, by omega, by omega⟩
  split
  · rw [if_pos (by omega)]
    exact ⟨_, _, rfl, by omega, by omega⟩
  split
  · rw [if_pos ⟨hi0, hi1, by rw [hB.1]; decide⟩]
    exact ⟨_, _, rfl, by omega, by omega⟩
  · exact ⟨_, _, rfl, by omega, by omega⟩
theorem fine_of_shape {fl : List S73} (h : okFl fl) : flFine fl = true := by
  unfold flFine
  rw [Bool.and_eq_true, beq_iff_eq, List.all_eq_true]
  exact ⟨h.1, fun b hb => beq_iff_eq.2 (h.2 b hb).1⟩
theorem drawst_ok {s : List Int} (hb : Bytes s) (k : Nat) (hk : 300 ≤ k) : ∃ fl d q, spec_l71Store.f k s 0 = some (fl, d, q) ∧ 0 ≤ q ∧ q ≤ 30000 := by
  obtain ⟨ev, fl, d, p, e, h, hd, hp0, hp1⟩ := play_from hb 0 (Int.le_refl _) (by omega) k (by omega)
  have P := fun (p n : Int) (h1 : 0 ≤ p) (h2 : p ≤ 30000) (h3 : 1 ≤ n) (h4 : n ≤ 100) => pickT (p := p) (n := n) hb h1 (by omega) h3 (by omega) k (by omega)
  obtain ⟨v, e1, _, _⟩ := P p 30 hp0 (by omega) (by omega) (by omega)
  obtain ⟨a, e2, ha0, ha1⟩ := P (p + 1) 6 (by omega) (by omega) (by omega) (by omega)
  obtain ⟨c, e3, hc0, hc1⟩ := P (p + 1 + 1) 4 (by omega) (by omega) (by omega) (by omega)
  obtain ⟨fl2, q2, e4, hq0, hq1⟩ := flash_from hb (p + 1) (by omega) (by omega) k (by omega)
  unfold spec_l71Store.f
  rw [e]
  simp only [Option.bind_some]
  rw [e1]
  simp only [Option.bind_some]
  rw [if_pos ⟨fine_of_shape h, by omega⟩]
  unfold spec_l71Store.g
  rw [e2]
  simp only [Option.bind_some]
  rw [e3]
  simp only [Option.bind_some]
  rw [e4]
  simp only [Option.bind_some]
  split
  · rw [if_pos ⟨ha0, ha1, hc0, hc1⟩]
    exact ⟨_, _, _, rfl, by omega, by omega⟩
  split
  · exact ⟨_, _, _, rfl, by omega, by omega⟩
  split
  · exact ⟨_, _, _, rfl, by omega, by omega⟩
  split
  · exact ⟨_, _, _, rfl, by omega, by omega⟩
  · exact ⟨_, _, _, rfl, by omega, by omega⟩
theorem rdB_cons {b : S73} {bs : List S73} (j : Nat) : rd_T73 (b :: bs) ((j + 1 : Nat) : Int) = rd_T73 bs (j : Int) := by
  unfold rd_T73
  rw [Int.toNat_natCast, Int.toNat_natCast]
  rfl
theorem blocksB_all : ∀ (l : List S73) (S : List Int), blocksB l S = true → ∀ j : Nat, j < l.length → blockB (rd_T73 l (j : Int)) = true
  | [], _, _, j, hj => by cases hj
  | b :: bs, S, h, j, hj => by
    rw [blocksB, Bool.and_eq_true] at h
    obtain ⟨h1, h2⟩ := h
    cases j with
    | zero => exact h1
    | succ j =>
      rw [rdB_cons]
      cases hp : pagesB b.f0 S with
      | none => rw [hp] at h2; cases h2
      | some S' =>
        rw [hp] at h2
        exact blocksB_all bs S' h2 j (by simpa using hj)
theorem flash_len {l : List S73} (h : flashOkB l = true) : l.length = 4 := by
  unfold flashOkB at h
  rw [Bool.and_eq_true, decide_eq_true_eq] at h
  omega
theorem flash_block {l : List S73} (h : flashOkB l = true) (j : Nat) (hj : j < 4) : (rd_T73 l (j : Int)).f0.length = 4 ∧ 0 ≤ (rd_T73 l (j : Int)).f1 ∧ (rd_T73 l (j : Int)).f1 ≤ 200 ∧ shapeB (rd_T73 l (j : Int)).f0 false = true := by
  have hl := flash_len h
  unfold flashOkB at h
  rw [Bool.and_eq_true] at h
  have := blocksB_all l [] h.2 j (by omega)
  unfold blockB at this
  rw [Bool.and_eq_true, decide_eq_true_eq] at this
  exact ⟨by omega, this.1.2.1, this.1.2.2, this.2⟩
theorem dropP_cons {l : List S69} {i : Nat} (h : i < l.length) : l.drop i = rd_T69 l (i : Int) :: l.drop (i + 1) := by
  rw [List.drop_eq_getElem_cons h]
  simp [rd_T69, List.getD_eq_getElem?_getD, h]
theorem pages_spotsB (i : Nat) : ∀ (j : Nat) (ps : List S69), (spotsB i j ps).map (·.2.2) = ps
  | _, [] => rfl
  | j, p :: ps => by rw [spotsB, List.map_cons, pages_spotsB i (j + 1) ps]
theorem pagesL_flat : ∀ (i : Nat) (l : List S73), (spotsF i l).map (·.2.2) = l.flatMap (·.f0)
  | _, [] => rfl
  | i, b :: bs => by rw [spotsF, List.map_append, pages_spotsB, pagesL_flat (i + 1) bs, List.flatMap_cons]
theorem pagesB_all : ∀ (ps : List S69) (S S' : List Int), pagesB ps S = some S' → ∀ p ∈ ps, pageB p = true
  | [], _, _, _, _, h => by cases h
  | p :: ps, S, S', h, q, hq => by
    rw [pagesB] at h
    by_cases hp : pageB p = true
    · rw [if_pos hp] at h
      rcases List.mem_cons.1 hq with rfl | hq
      · exact hp
      · by_cases h1 : p.f0 = 1
        · rw [if_pos h1] at h
          by_cases hm : p.f1.f1 ∈ S
          · rw [if_pos hm] at h; cases h
          · rw [if_neg hm] at h; exact pagesB_all ps _ _ h q hq
        · rw [if_neg h1] at h; exact pagesB_all ps _ _ h q hq
    · rw [if_neg hp] at h; cases h
theorem blocksB_pages : ∀ (l : List S73) (S : List Int), blocksB l S = true → ∀ b ∈ l, ∀ p ∈ b.f0, pageB p = true
  | [], _, _, _, h, _, _ => by cases h
  | b :: bs, S, h, c, hc, p, hp => by
    rw [blocksB, Bool.and_eq_true] at h
    cases he : pagesB b.f0 S with
    | none => rw [he] at h; exact absurd h.2 (by simp)
    | some S' =>
      rw [he] at h
      rcases List.mem_cons.1 hc with rfl | hc
      · exact pagesB_all _ _ _ he p hp
      · exact blocksB_pages bs S' h.2 c hc p hp
theorem flash_pages {l : List S73} (h : flashOkB l = true) : ∀ b ∈ l, ∀ p ∈ b.f0, pageB p = true := by
  unfold flashOkB at h
  rw [Bool.and_eq_true] at h
  exact blocksB_pages l [] h.2
theorem page_written {p : S69} (h : pageB p = true) (h1 : p.f0 = 1) : (p.f1.f0 = 1 ∨ p.f1.f0 = 2) ∧ 1 ≤ p.f1.f1 ∧ p.f1.f1 ≤ 600 ∧ 1 ≤ p.f1.f2 ∧ p.f1.f2 ≤ 6 ∧ 0 ≤ p.f1.f3 ∧ p.f1.f3 ≤ 9 := by
  unfold pageB at h
  rw [if_pos h1] at h
  unfold recOkB at h
  simp only [decide_eq_true_eq] at h
  omega
theorem page_other {p : S69} (h : pageB p = true) (h1 : p.f0 ≠ 1) : p.f1.f0 = 0 ∧ p.f1.f1 = 0 ∧ p.f1.f2 = 0 ∧ p.f1.f3 = 0 := by
  unfold pageB at h
  rw [if_neg h1] at h
  split at h
  · simp only [Bool.and_eq_true, beq_iff_eq] at h
    exact h
  · cases h
theorem page_seq {p : S69} (h : pageB p = true) : 0 ≤ p.f1.f1 ∧ p.f1.f1 ≤ 600 := by
  by_cases h1 : p.f0 = 1
  · have := page_written h h1
    omega
  · have := page_other h h1
    omega
theorem dropB_cons {l : List S73} {i : Nat} (h : i < l.length) : l.drop i = rd_T73 l (i : Int) :: l.drop (i + 1) := by
  rw [List.drop_eq_getElem_cons h]
  simp [rd_T73, List.getD_eq_getElem?_getD, h]
theorem rdB_mem {l : List S73} {i : Nat} (h : i < l.length) : rd_T73 l (i : Int) ∈ l := by
  simp [rd_T73, List.getD_eq_getElem?_getD, h]
theorem rdP_mem {l : List S69} {i : Nat} (h : i < l.length) : rd_T69 l (i : Int) ∈ l := by
  simp [rd_T69, List.getD_eq_getElem?_getD, h]
def mostP (m : Int) (ps : List S69) : Int := ps.foldl (fun m p => mx m p.f1.f1) m
theorem mostP_cons (m : Int) (p : S69) (ps : List S69) : mostP m (p :: ps) = mostP (mx m p.f1.f1) ps := rfl
theorem mostP_shift : ∀ (ps : List S69) (m : Int), 0 ≤ m → (∀ p ∈ ps, 0 ≤ p.f1.f1) → mostP m ps = mx m (mostP 0 ps) ∧ 0 ≤ mostP 0 ps
  | [], m, hm, _ => by
    show m = mx m 0 ∧ (0 : Int) ≤ 0
    exact ⟨by unfold mx; rw [if_neg (by omega)], by omega⟩
  | p :: ps, m, hm, h => by
    have hp := h p (by simp)
    have hr : ∀ q ∈ ps, 0 ≤ q.f1.f1 := fun q hq => h q (by simp [hq])
    have h1 := (mostP_shift ps (mx m p.f1.f1) (by unfold mx; split <;> omega) hr).1
    have h2 := mostP_shift ps (mx 0 p.f1.f1) (by unfold mx; split <;> omega) hr
    rw [mostP_cons, mostP_cons, h1, h2.1]
    have h3 := h2.2
    generalize mostP 0 ps = y at *
    unfold mx
    constructor
    · repeat' split
      all_goals omega
    · repeat' split
      all_goals omega
theorem most_loop (l : List S69) (b : Int) (hl : l.length ≤ 1048576) (K : Nat) : ∀ (n i : Nat) (m : Int), i + n = l.length → spec_l3Most.l0 (K + n + 1) m (i : Int) l b = some (mostP m (l.drop i))
  | 0, i, m, h => by
    rw [spec_l3Most.l0, if_neg (by omega), List.drop_eq_nil_of_le (by omega)]
    rfl
  | n + 1, i, m, h => by
    have ih := fun m => most_loop l b hl K n (i + 1) m (by omega)
    have e1 : wrap64 ((i : Int) + 1) = ((i + 1 : Nat) : Int) := by rw [wrap64_in _ (by omega)]; omega
    rw [dropP_cons (by omega : i < l.length), mostP_cons, spec_l3Most.l0, if_pos (by omega), if_pos (by omega), e1]
    exact ih _
theorem l3Most_ok (l : List S69) (b : Int) (hl : l.length ≤ 1048576) (k : Nat) (hk : l.length < k) : spec_l3Most.f k l b = some (mostP 0 l) := by
  have := most_loop l b hl (k - l.length - 1) l.length 0 0 (by omega)
  rw [show k - l.length - 1 + l.length + 1 = k by omega, List.drop_zero] at this
  exact this
theorem spans_foldB (i : Nat) : ∀ (ps : List S69) (j : Nat) (s : Spans), (spotsB i j ps).foldl spansStep s = fun k => if k = i then ps.foldl stepSpan (s i) else s k
  | [], _, s => by
    funext k
    by_cases h : k = i
    · subst h
      rw [if_pos rfl]
      rfl
    · rw [if_neg h]
      rfl
  | p :: ps, j, s => by
    rw [spotsB, List.foldl_cons, spans_foldB i ps (j + 1)]
    funext k
    by_cases h : k = i
    · rw [if_pos h, if_pos h, List.foldl_cons]
      unfold spansStep
      rw [if_pos rfl]
    · rw [if_neg h, if_neg h]
      unfold spansStep
      rw [if_neg h]
theorem spans_foldF : ∀ (l : List S73) (i : Nat) (s : Spans) (k : Nat), (∀ j : Nat, j < l.length → k = i + j → (spotsF i l).foldl spansStep s k = (rd_T73 l (j : Int)).f0.foldl stepSpan (s k)) ∧ (k < i → (spotsF i l).foldl spansStep s k = s k)
  | [], i, s, k => ⟨fun j h => absurd h (by simp), fun _ => rfl⟩
  | b :: bs, i, s, k => by
    have ih := spans_foldF bs (i + 1) (fun k => if k = i then b.f0.foldl stepSpan (s i) else s k) k
    rw [spotsF, List.foldl_append, spans_foldB]
    refine ⟨fun j hj hk => ?_, fun hk => ?_⟩
    · cases j with
      | zero =>
        rw [ih.2 (by omega), if_pos (by omega), show k = i by omega]
        rfl
      | succ j =>
        have hr := ih.1 j (by simpa using hj) (by omega)
        rw [hr, if_neg (by omega), rdB_cons]
    · rw [ih.2 (by omega), if_neg (by omega)]
theorem spansF_at {l : List S73} (k : Nat) (hk : k < l.length) : spansF l k = (rd_T73 l (k : Int)).f0.foldl stepSpan (0, 0) := (spans_foldF l 0 (fun _ => (0, 0)) k).1 k hk (by omega)
theorem span_hi : ∀ (ps : List S69) (s : Int × Int), 0 ≤ s.2 → (∀ p ∈ ps, pageB p = true) → (ps.foldl stepSpan s).2 = mostP s.2 ps
  | [], _, _, _ => rfl
  | p :: ps, s, hs, h => by
    have hr : ∀ q ∈ ps, pageB q = true := fun q hq => h q (by simp [hq])
    have hq := page_seq (h p (by simp))
    have e : (stepSpan s p).2 = mx s.2 p.f1.f1 := by
      unfold stepSpan
      by_cases h1 : p.f0 = 1
      · rw [if_pos h1]
      · rw [if_neg h1, (page_other (h p (by simp)) h1).2.1]
        unfold mx
        rw [if_neg (by omega)]
    rw [List.foldl_cons, mostP_cons, span_hi ps _ (by rw [e]; unfold mx; split <;> omega) hr, e]
theorem spansF_hi {l : List S73} (hf : flashOkB l = true) (k : Nat) (hk : k < 4) : (spansF l k).2 = mostP 0 (rd_T73 l (k : Int)).f0 := by
  have hl := flash_len hf
  rw [spansF_at k (by omega), span_hi _ _ (by simp) (flash_pages hf _ (rdB_mem (by omega)))]
theorem pagesB_seqs : ∀ (ps : List S69) (S S' : List Int), pagesB ps S = some S' → (∀ x ∈ S, x ∈ S') ∧ ∀ p ∈ ps, p.f0 = 1 → p.f1.f1 ∈ S' ∧ p.f1.f1 ∉ S
  | [], S, S', h => by
    rw [pagesB] at h
    cases h
    exact ⟨fun x hx => hx, fun p hp => by cases hp⟩
  | p :: ps, S, S', h => by
    rw [pagesB] at h
    by_cases hp : pageB p = true
    · rw [if_pos hp] at h
      by_cases h1 : p.f0 = 1
      · rw [if_pos h1] at h
        by_cases hm : p.f1.f1 ∈ S
        · rw [if_pos hm] at h; cases h
        · rw [if_neg hm] at h
          obtain ⟨i1, i2⟩ := pagesB_seqs ps _ _ h
          refine ⟨fun x hx => i1 x (by simp [hx]), fun q hq hq1 => ?_⟩
          rcases List.mem_cons.1 hq with rfl | hq
          · exact ⟨i1 _ (by simp), hm⟩
          · exact ⟨(i2 q hq hq1).1, fun hs => (i2 q hq hq1).2 (by simp [hs])⟩
      · rw [if_neg h1] at h
        obtain ⟨i1, i2⟩ := pagesB_seqs ps _ _ h
        refine ⟨i1, fun q hq hq1 => ?_⟩
        rcases List.mem_cons.1 hq with rfl | hq
        · exact absurd hq1 h1
        · exact i2 q hq hq1
    · rw [if_neg hp] at h; cases h
theorem blocksB_new : ∀ (l : List S73) (S : List Int), blocksB l S = true → ∀ b ∈ l, ∀ q ∈ b.f0, q.f0 = 1 → q.f1.f1 ∉ S
  | [], _, _, _, h, _, _ => by cases h
  | b :: bs, S, h, c, hc, q, hq => by
    rw [blocksB, Bool.and_eq_true] at h
    cases he : pagesB b.f0 S with
    | none => rw [he] at h; exact absurd h.2 (by simp)
    | some S' =>
      rw [he] at h
      obtain ⟨i1, i2⟩ := pagesB_seqs _ _ _ he
      rcases List.mem_cons.1 hc with rfl | hc
      · exact fun h1 => (i2 q hq h1).2
      · exact fun h1 hs => blocksB_new bs S' h.2 c hc q hq h1 (i1 _ hs)
theorem blocksB_apart : ∀ (l : List S73) (S : List Int), blocksB l S = true → ∀ i j : Nat, i < j → j < l.length → ∀ p ∈ (rd_T73 l (i : Int)).f0, ∀ q ∈ (rd_T73 l (j : Int)).f0, p.f0 = 1 → q.f0 = 1 → p.f1.f1 ≠ q.f1.f1
  | [], _, _, _, j, _, hj, _, _, _, _ => by cases hj
  | b :: bs, S, h, i, j, hij, hj, p, hp, q, hq => by
    rw [blocksB, Bool.and_eq_true] at h
    cases he : pagesB b.f0 S with
    | none => rw [he] at h; exact absurd h.2 (by simp)
    | some S' =>
      rw [he] at h
      obtain ⟨i1, i2⟩ := pagesB_seqs _ _ _ he
      obtain ⟨j, rfl⟩ : ∃ m, j = m + 1 := ⟨j - 1, by omega⟩
      rw [List.length_cons] at hj
      rw [rdB_cons] at hq
      cases i with
      | zero => exact fun h1 h2 e => blocksB_new bs S' h.2 _ (rdB_mem (by omega)) q hq h2 (e ▸ (i2 p hp h1).1)
      | succ i =>
        rw [rdB_cons] at hp
        exact blocksB_apart bs S' h.2 i j (by omega) (by omega) p hp q hq
theorem flash_apart {l : List S73} (hf : flashOkB l = true) {i j : Nat} (hi : i < 4) (hj : j < 4) (hne : i ≠ j) {p q : S69} (hp : p ∈ (rd_T73 l (i : Int)).f0) (hq : q ∈ (rd_T73 l (j : Int)).f0) (h1 : p.f1.f1 > 0) (h2 : q.f1.f1 > 0) : p.f1.f1 ≠ q.f1.f1 := by
  have hl := flash_len hf
  have hw : ∀ (m : Nat), m < 4 → ∀ r ∈ (rd_T73 l (m : Int)).f0, r.f1.f1 > 0 → r.f0 = 1 := fun m hm r hr h => by
    by_cases h0 : r.f0 = 1
    · exact h0
    · have := (page_other (flash_pages hf _ (rdB_mem (by omega)) r hr) h0).2.1
      omega
  have h1' := hw i hi p hp h1
  have h2' := hw j hj q hq h2
  unfold flashOkB at hf
  rw [Bool.and_eq_true] at hf
  rcases Nat.lt_or_ge i j with h | h
  · exact blocksB_apart l [] hf.2 i j h (by omega) p hp q hq h1' h2'
  · exact fun e => blocksB_apart l [] hf.2 j i (by omega) (by omega) q hq p hp h2' h1' e.symm
theorem mostP_is : ∀ (ps : List S69) (m : Int), mostP m ps = m ∨ ∃ p ∈ ps, p.f1.f1 = mostP m ps
  | [], m => .inl rfl
  | p :: ps, m => by
    rw [mostP_cons]
    rcases mostP_is ps (mx m p.f1.f1) with h | ⟨q, hq, h⟩
    · rw [h]
      unfold mx
      split
      · exact .inr ⟨p, by simp, rfl⟩
      · exact .inl rfl
    · exact .inr ⟨q, by simp [hq], h⟩
theorem leastQ_is : ∀ (ps : List S69) (m : Int), leastQ m ps = m ∨ ∃ p ∈ ps, p.f1.f1 > 0 ∧ p.f1.f1 = leastQ m ps
  | [], m => .inl rfl
  | p :: ps, m => by
    have e : leastQ m (p :: ps) = leastQ (leastStep m p) ps := rfl
    rw [e]
    rcases leastQ_is ps (leastStep m p) with h | ⟨q, hq, h⟩
    · rw [h]
      unfold leastStep
      split
      · rename_i h0
        exact .inr ⟨p, by simp, h0.1, rfl⟩
      · exact .inl rfl
    · exact .inr ⟨q, by simp [hq], h⟩
theorem leastQ_pos : ∀ (ps : List S69) (m : Int), 0 ≤ m → (0 < m ∨ ∃ p ∈ ps, p.f1.f1 > 0) → 0 < leastQ m ps
  | [], m, _, h => by
    rcases h with h | ⟨p, hp, _⟩
    · exact h
    · cases hp
  | p :: ps, m, hm, h => by
    show 0 < leastQ (leastStep m p) ps
    refine leastQ_pos ps _ (by unfold leastStep; split <;> omega) ?_
    unfold leastStep
    by_cases h1 : p.f1.f1 > 0
    · left
      split
      · omega
      · rename_i h2
        by_cases h3 : m = 0
        · exact absurd ⟨h1, Or.inl h3⟩ h2
        · omega
    · rw [if_neg (fun h => h1 h.1)]
      rcases h with h | ⟨q, hq, hq1⟩
      · exact .inl h
      · rcases List.mem_cons.1 hq with rfl | hq
        · exact absurd hq1 h1
        · exact .inr ⟨q, hq, hq1⟩
theorem span_lo : ∀ (ps : List S69) (s : Int × Int), (∀ p ∈ ps, pageB p = true) → (ps.foldl stepSpan s).1 = leastQ s.1 ps
  | [], _, _ => rfl
  | p :: ps, s, h => by
    have hr : ∀ q ∈ ps, pageB q = true := fun q hq => h q (by simp [hq])
    have e : (stepSpan s p).1 = leastStep s.1 p := by
      unfold stepSpan leastStep
      by_cases h1 : p.f0 = 1
      · have hw := page_written (h p (by simp)) h1
        rw [if_pos h1]
        by_cases h2 : s.1 = 0 ∨ p.f1.f1 < s.1
        · rw [if_pos h2, if_pos ⟨by omega, h2⟩]
        · rw [if_neg h2, if_neg (fun h => h2 h.2)]
      · rw [if_neg h1, if_neg (fun q => by have := (page_other (h p (by simp)) h1).2.1; omega)]
    rw [List.foldl_cons, span_lo ps _ hr, e]
    rfl
theorem spansF_lo {l : List S73} (hf : flashOkB l = true) (k : Nat) (hk : k < 4) : (spansF l k).1 = leastQ 0 (rd_T73 l (k : Int)).f0 := by
  have hl := flash_len hf
  rw [spansF_at k (by omega), span_lo _ _ (flash_pages hf _ (rdB_mem (by omega)))]
theorem cross_apart {l : List S73} (hf : flashOkB l = true) {i j : Nat} (hi : i < 4) (hj : j < 4) (hne : i ≠ j) (h1 : 0 < (spansF l i).2) (h2 : 0 < (spansF l j).2) : (spansF l i).2 ≠ (spansF l j).1 := by
  rw [spansF_hi hf i hi] at h1 ⊢
  rw [spansF_hi hf j hj] at h2
  rw [spansF_lo hf j hj]
  obtain ⟨p, hp, ep⟩ := (mostP_is (rd_T73 l (i : Int)).f0 0).resolve_left (by omega)
  obtain ⟨q0, hq0, eq0⟩ := (mostP_is (rd_T73 l (j : Int)).f0 0).resolve_left (by omega)
  have hpos := leastQ_pos (rd_T73 l (j : Int)).f0 0 (by omega) (.inr ⟨q0, hq0, by omega⟩)
  obtain ⟨q, hq, hq1, eq1⟩ := (leastQ_is (rd_T73 l (j : Int)).f0 0).resolve_left (by omega)
  have := flash_apart hf hi hj hne hp hq (by omega) hq1
  omega
theorem overI_iff (s : Spans) (i : Nat) : ∀ n, overI s i n = true ↔ ∃ j, j < n ∧ crossB (s i) (s j) = true
  | 0 => ⟨fun h => (by cases h), fun ⟨j, h, _⟩ => (by omega)⟩
  | n + 1 => by
    rw [overI, Bool.or_eq_true, overI_iff s i n]
    constructor
    · rintro (⟨j, h, h2⟩ | h)
      · exact ⟨j, by omega, h2⟩
      · exact ⟨n, by omega, h⟩
    · rintro ⟨j, h, h2⟩
      by_cases e : j = n
      · subst e; exact .inr h2
      · exact .inl ⟨j, by omega, h2⟩
theorem overN_iff (s : Spans) : ∀ n, overN s n = true ↔ ∃ i j, j < i ∧ i < n ∧ crossB (s i) (s j) = true
  | 0 => ⟨fun h => (by cases h), fun ⟨i, j, _, h, _⟩ => (by omega)⟩
  | n + 1 => by
    rw [overN, Bool.or_eq_true, overN_iff s n, overI_iff]
    constructor
    · rintro (⟨i, j, h, h1, h2⟩ | ⟨j, h, h2⟩)
      · exact ⟨i, j, h, by omega, h2⟩
      · exact ⟨n, j, h, by omega, h2⟩
    · rintro ⟨i, j, h, h1, h2⟩
      by_cases e : i = n
      · subst e; exact .inr ⟨j, h, h2⟩
      · exact .inl ⟨i, j, h, by omega, h2⟩
theorem badN_iff (l : List S73) (s : Spans) (m : Int) : ∀ n, badN l s m n = true ↔ ∃ i, i < n ∧ partB (rd_T73 l (i : Int)) = true ∧ 0 < (s i).2 ∧ (s i).2 < m
  | 0 => ⟨fun h => (by cases h), fun ⟨j, h, _⟩ => (by omega)⟩
  | n + 1 => by
    rw [badN, Bool.or_eq_true, badN_iff l s m n, Bool.and_eq_true, decide_eq_true_eq]
    constructor
    · rintro (⟨j, h, h2⟩ | ⟨h, h2, h3⟩)
      · exact ⟨j, by omega, h2⟩
      · exact ⟨n, by omega, h, h2, h3⟩
    · rintro ⟨j, h, h2, h3⟩
      by_cases e : j = n
      · subst e; exact .inr ⟨h2, h3⟩
      · exact .inl ⟨j, by omega, h2, h3⟩
theorem newestN_lt (s : Spans) (x : Int) (hx : 0 ≤ x) : ∀ n, x < newestN s n ↔ ∃ k, k < n ∧ x < (s k).2
  | 0 => ⟨fun h => (by rw [newestN] at h; omega), fun ⟨j, h, _⟩ => (by omega)⟩
  | n + 1 => by
    have ih := newestN_lt s x hx n
    have e : x < mx (newestN s n) (s n).2 ↔ x < newestN s n ∨ x < (s n).2 := by
      unfold mx
      split <;> omega
    rw [newestN, e, ih]
    constructor
    · rintro (⟨j, h, h2⟩ | h)
      · exact ⟨j, by omega, h2⟩
      · exact ⟨n, by omega, h⟩
    · rintro ⟨j, h, h2⟩
      by_cases e : j = n
      · subst e; exact .inr h2
      · exact .inl ⟨j, by omega, h2⟩
theorem partN_one (l : List S73) : ∀ n, 1 ≤ partN l n ↔ ∃ i, i < n ∧ partB (rd_T73 l (i : Int)) = true
  | 0 => ⟨fun h => (by rw [partN] at h; omega), fun ⟨j, h, _⟩ => (by omega)⟩
  | n + 1 => by
    have ih := partN_one l n
    rw [partN]
    constructor
    · intro h
      by_cases hp : partB (rd_T73 l (n : Int)) = true
      · exact ⟨n, by omega, hp⟩
      · rw [if_neg hp] at h
        obtain ⟨i, h1, h2⟩ := ih.1 (by omega)
        exact ⟨i, by omega, h2⟩
    · rintro ⟨j, h, h2⟩
      by_cases e : j = n
      · subst e; rw [if_pos h2]; omega
      · have := ih.2 ⟨j, by omega, h2⟩
        omega
theorem partN_two (l : List S73) : ∀ n, 2 ≤ partN l n ↔ ∃ i j, j < i ∧ i < n ∧ partB (rd_T73 l (i : Int)) = true ∧ partB (rd_T73 l (j : Int)) = true
  | 0 => ⟨fun h => (by rw [partN] at h; omega), fun ⟨i, j, _, h, _⟩ => (by omega)⟩
  | n + 1 => by
    have ih := partN_two l n
    have i1 := partN_one l n
    rw [partN]
    constructor
    · intro h
      by_cases hp : partB (rd_T73 l (n : Int)) = true
      · rw [if_pos hp] at h
        obtain ⟨j, h1, h2⟩ := i1.1 (by omega)
        exact ⟨n, j, h1, by omega, hp, h2⟩
      · rw [if_neg hp] at h
        obtain ⟨i, j, h1, h2, h3⟩ := ih.1 (by omega)
        exact ⟨i, j, h1, by omega, h3⟩
    · rintro ⟨i, j, h, h1, h2, h3⟩
      by_cases e : i = n
      · subst e
        have := i1.2 ⟨j, h, h3⟩
        rw [if_pos h2]
        omega
      · have := ih.2 ⟨i, j, h, by omega, h2, h3⟩
        omega
theorem rowB_iff (l : List S73) (i : Nat) : ∀ n, rowB l i n = true ↔ ∃ j, j < n ∧ pairB l i j = true
  | 0 => ⟨fun h => (by cases h), fun ⟨j, h, _⟩ => (by omega)⟩
  | n + 1 => by
    rw [rowB, Bool.or_eq_true, rowB_iff l i n]
    constructor
    · rintro (⟨j, h, h2⟩ | h)
      · exact ⟨j, by omega, h2⟩
      · exact ⟨n, by omega, h⟩
    · rintro ⟨j, h, h2⟩
      by_cases e : j = n
      · subst e; exact .inr h2
      · exact .inl ⟨j, by omega, h2⟩
theorem allB_iff (l : List S73) : ∀ n, allB l n = true ↔ ∃ i j, i < n ∧ j < 4 ∧ pairB l i j = true
  | 0 => ⟨fun h => (by cases h), fun ⟨j, _, h, _⟩ => (by omega)⟩
  | n + 1 => by
    rw [allB, Bool.or_eq_true, allB_iff l n, rowB_iff]
    constructor
    · rintro (⟨i, j, h, h1, h2⟩ | ⟨j, h, h2⟩)
      · exact ⟨i, j, by omega, h1, h2⟩
      · exact ⟨n, j, by omega, h, h2⟩
    · rintro ⟨i, j, h, h1, h2⟩
      by_cases e : i = n
      · subst e; exact .inr ⟨j, h1, h2⟩
      · exact .inl ⟨i, j, by omega, h1, h2⟩
theorem order_same (l : List S73) : specOrderB l = orderI l := by
  unfold specOrderB orderI
  cases hf : flashOkB l with
  | false => rfl
  | true =>
    rw [Bool.true_and, Bool.true_and]
    have hM : ∀ j : Nat, j < 4 → mostQ 0 (rd_T73 l (j : Int)).f0 = (spansF l j).2 := fun j hj => (spansF_hi hf j hj).symm
    have hL : ∀ j : Nat, j < 4 → leastQ 0 (rd_T73 l (j : Int)).f0 = (spansF l j).1 := fun j hj => (spansF_lo hf j hj).symm
    have hP : ∀ i k : Nat, i < 4 → k < 4 → (pairB l i k = true ↔ i ≠ k ∧ ((0 < (spansF l i).2 ∧ 0 < (spansF l k).2 ∧ (spansF l i).1 < (spansF l k).2 ∧ (spansF l k).1 < (spansF l i).2) ∨ (partB (rd_T73 l (i : Int)) = true ∧ (partB (rd_T73 l (k : Int)) = true ∨ (0 < (spansF l i).2 ∧ (spansF l i).2 < (spansF l k).2))))) := fun i k hi hk => by
      unfold pairB c11B c13B partB
      rw [Bool.or_eq_true, hM i hi, hM k hk, hL i hi, hL k hk]
      simp only [decide_eq_true_eq]
      omega
    have key : allB l 4 = true ↔ (overN (spansF l) 4 = true ∨ badN l (spansF l) (newestN (spansF l) 4) 4 = true ∨ 2 ≤ partN l 4) := by
      rw [allB_iff, overN_iff, badN_iff, partN_two]
      constructor
      · rintro ⟨i, k, hi, hk, h⟩
        obtain ⟨hne, h | ⟨h1, h2 | ⟨h2, h3⟩⟩⟩ := (hP i k hi hk).1 h
        · left
          rcases Nat.lt_or_ge k i with hc | hc
          · exact ⟨i, k, hc, hi, by unfold crossB; simp only [decide_eq_true_eq]; omega⟩
          · exact ⟨k, i, by omega, hk, by unfold crossB; simp only [decide_eq_true_eq]; omega⟩
        · right; right
          rcases Nat.lt_or_ge k i with hc | hc
          · exact ⟨i, k, hc, hi, h1, h2⟩
          · exact ⟨k, i, by omega, hk, h2, h1⟩
        · right; left
          exact ⟨i, hi, h1, h2, (newestN_lt (spansF l) _ (by omega) 4).2 ⟨k, hk, h3⟩⟩
      · rintro (⟨i, j, hji, hi, h⟩ | ⟨i, hi, h1, h2, h3⟩ | ⟨i, j, hji, hi, h1, h2⟩)
        · unfold crossB at h
          simp only [decide_eq_true_eq] at h
          have a1 := cross_apart hf hi (by omega : j < 4) (by omega) h.1 h.2.1
          have a2 := cross_apart hf (by omega : j < 4) hi (by omega) h.2.1 h.1
          exact ⟨i, j, hi, by omega, (hP i j hi (by omega)).2 ⟨by omega, .inl (by omega)⟩⟩
        · obtain ⟨k, hk, h4⟩ := (newestN_lt (spansF l) _ (by omega) 4).1 h3
          exact ⟨i, k, hi, hk, (hP i k hi hk).2 ⟨fun e => by subst e; omega, .inr ⟨h1, .inr ⟨h2, h4⟩⟩⟩⟩
        · exact ⟨i, j, hi, by omega, (hP i j hi (by omega)).2 ⟨by omega, .inr ⟨h1, .inl h2⟩⟩⟩
    have hd : decide (partN l 4 ≤ 1) = !decide (2 ≤ partN l 4) := by
      by_cases h : partN l 4 ≤ 1
      · rw [decide_eq_true h, decide_eq_false (by omega)]; rfl
      · rw [decide_eq_false h, decide_eq_true (by omega)]; rfl
    rw [hd]
    cases ha : allB l 4 with
    | false =>
      have hn : ¬ (overN (spansF l) 4 = true ∨ badN l (spansF l) (newestN (spansF l) 4) 4 = true ∨ 2 ≤ partN l 4) := fun h => by rw [key.2 h] at ha; cases ha
      cases ho : overN (spansF l) 4 with
      | true => exact absurd (.inl ho) hn
      | false =>
        cases hb : badN l (spansF l) (newestN (spansF l) 4) 4 with
        | true => exact absurd (.inr (.inl hb)) hn
        | false => rw [decide_eq_false (fun h => hn (.inr (.inr h)))]; rfl
    | true =>
      rcases key.1 ha with h | h | h
      · rw [h]; rfl
      · rw [h]; simp
      · rw [decide_eq_true h]; simp
theorem spec_last_loops (l : List S73) (a : Int) (hl : l.length ≤ 1048576) (K : Nat) (hb : ∀ b ∈ l, b.f0.length ≤ K) (hK : K ≤ 1048576) :
    ∀ (n i : Nat) (r : S36), i + n = l.length → spec_l3Last.l0 ((K + 2) * n + 1) l a (i : Int) r.f0 r.f1 r.f2 r.f3 = some (let q := ((l.drop i).flatMap (·.f0)).foldl (lastStep a) r; (q.f0, q.f1, q.f2, q.f3, decide (q.f1 > 0)))
  | 0, i, r, h => by
    rw [show (K + 2) * 0 + 1 = 0 + 1 by omega, spec_l3Last.l0, if_neg (by omega), List.drop_eq_nil_of_le (by omega)]
    rfl
  | n + 1, i, r, h => by
    have ih := fun r => spec_last_loops l a hl K hb hK n (i + 1) r (by omega)
    have e1 : wrap64 ((i : Int) + 1) = ((i + 1 : Nat) : Int) := by rw [wrap64_in _ (by omega)]; omega
    have hbi := hb _ (rdB_mem (by omega : i < l.length))
    have inner : ∀ (m j : Nat) (r : S36), j + m = (rd_T73 l (i : Int)).f0.length → spec_l3Last.l1 ((K + 2) * n + 1 + (m + 1)) l a (i : Int) (j : Int) r.f0 r.f1 r.f2 r.f3 =
        some (let q := (((rd_T73 l (i : Int)).f0.drop j) ++ ((l.drop (i + 1)).flatMap (·.f0))).foldl (lastStep a) r; (q.f0, q.f1, q.f2, q.f3, decide (q.f1 > 0))) := by
      intro m
      induction m with
      | zero =>
        intro j r hj
        rw [show (K + 2) * n + 1 + (0 + 1) = (K + 2) * n + 1 + 1 by omega, spec_l3Last.l1, if_pos (by omega), if_pos (by omega), if_neg (by omega), e1, List.drop_eq_nil_of_le (by omega), List.nil_append]
        exact ih r
      | succ m im =>
        intro j r hj
        have e2 : wrap64 ((j : Int) + 1) = ((j + 1 : Nat) : Int) := by rw [wrap64_in _ (by omega)]; omega
        rw [show (K + 2) * n + 1 + (m + 1 + 1) = (K + 2) * n + 1 + (m + 1) + 1 by omega, spec_l3Last.l1, if_pos (by omega), if_pos (by omega), if_pos (by omega), if_pos (by omega), e2, dropP_cons (by omega : j < (rd_T73 l (i : Int)).f0.length), List.cons_append, List.foldl_cons]
        unfold lastStep
        by_cases h1 : (rd_T69 (rd_T73 l (i : Int)).f0 (j : Int)).f0 = 1
        · rw [if_pos h1]
          by_cases h2 : (rd_T69 (rd_T73 l (i : Int)).f0 (j : Int)).f1.f2 = a
          · rw [if_pos h2]
            by_cases h3 : (rd_T69 (rd_T73 l (i : Int)).f0 (j : Int)).f1.f1 > r.f1
            · rw [if_pos h3, if_pos ⟨h1, h2, h3⟩]
              exact im (j + 1) _ (by omega)
            · rw [if_neg h3, if_neg (fun h => h3 h.2.2)]
              exact im (j + 1) r (by omega)
          · rw [if_neg h2, if_neg (fun h => h2 h.2.1)]
            exact im (j + 1) r (by omega)
        · rw [if_neg h1, if_neg (fun h => h1 h.1)]
          exact im (j + 1) r (by omega)
    have hlift := inner ((rd_T73 l (i : Int)).f0.length) 0 r (by omega)
    rw [dropB_cons (by omega : i < l.length), List.flatMap_cons]
    rw [List.drop_zero] at hlift
    refine at_rounds (g := fun k => spec_l3Last.l0 k l a (i : Int) r.f0 r.f1 r.f2 r.f3) (fun k => (spec_l3Last.mono_l k).1 _ _ _ _ _ _ _) (k := (K + 2) * n + 1 + ((rd_T73 l (i : Int)).f0.length + 1) + 1) (by rw [Nat.mul_add]; omega) ?_
    show spec_l3Last.l0 _ _ _ _ _ _ _ _ = _
    rw [spec_l3Last.l0, if_pos (by omega)]
    exact hlift
theorem l3Last_ok {l : List S73} (hf : flashOkB l = true) (a : Int) (k : Nat) (hk : 25 ≤ k) : spec_l3Last.f k l a = some ((lastA l a).f0, (lastA l a).f1, (lastA l a).f2, (lastA l a).f3, decide ((lastA l a).f1 > 0)) := by
  have hlen := flash_len hf
  have h4 : ∀ b ∈ l, b.f0.length ≤ 4 := fun b hb => by
    obtain ⟨i, hi, rfl⟩ := List.getElem_of_mem hb
    have := (flash_block hf i (by omega)).1
    rw [show rd_T73 l (i : Int) = l[i] by simp [rd_T73, List.getD_eq_getElem?_getD, hi]] at this
    omega
  have := spec_last_loops l a (by omega) 4 h4 (by omega) 4 0 ⟨0, 0, 0, 0⟩ (by omega)
  unfold spec_l3Last.f lastA pagesL
  rw [pagesL_flat]
  exact at_rounds (g := fun k => spec_l3Last.l0 k l a 0 0 0 0 0) (fun k => (spec_l3Last.mono_l k).1 _ _ _ _ _ _ _) (k := (4 + 2) * 4 + 1) (by omega) this
theorem map_last : ∀ (ps : List S69) (M : RecMap) (r : Int → S36), (∀ p ∈ ps, pageB p = true) → (∀ a, M a = (if 0 < (r a).f1 then some (recOf (r a)) else none) ∧ 0 ≤ (r a).f1) →
    ∀ a, ps.foldl mapStep M a = (if 0 < (ps.foldl (lastStep a) (r a)).f1 then some (recOf (ps.foldl (lastStep a) (r a))) else none)
  | [], M, r, _, h, a => (h a).1
  | p :: ps, M, r, hp, h, a => by
    have hr : ∀ q ∈ ps, pageB q = true := fun q hq => hp q (by simp [hq])
    rw [List.foldl_cons, List.foldl_cons]
    refine map_last ps (mapStep M p) (fun a => lastStep a (r a) p) hr (fun a => ?_) a
    have h0 : ((M p.f1.f2).getD (0, 0, 0, 0)).2.1 = (r p.f1.f2).f1 := by
      obtain ⟨e, g⟩ := h p.f1.f2
      rw [e]
      by_cases k : 0 < (r p.f1.f2).f1
      · rw [if_pos k]; rfl
      · rw [if_neg k]
        show (0 : Int) = _
        omega
    unfold mapStep
    rw [h0]
    show _ = (if 0 < (lastStep a (r a) p).f1 then some (recOf (lastStep a (r a) p)) else none) ∧ 0 ≤ (lastStep a (r a) p).f1
    obtain ⟨e, g⟩ := h a
    by_cases c1 : p.f0 = 1
    · have hw := page_written (hp p (by simp)) c1
      by_cases c2 : p.f1.f2 = a
      · subst c2
        by_cases c3 : p.f1.f1 > (r p.f1.f2).f1
        · have hq : lastStep p.f1.f2 (r p.f1.f2) p = p.f1 := by unfold lastStep; rw [if_pos ⟨c1, rfl, c3⟩]
          rw [hq, if_pos (show p.f0 = 1 ∧ p.f1.f1 > (r p.f1.f2).f1 from ⟨c1, c3⟩), if_pos (show 0 < p.f1.f1 by omega)]
          unfold putM
          rw [if_pos rfl]
          exact ⟨rfl, by omega⟩
        · have hq : lastStep p.f1.f2 (r p.f1.f2) p = r p.f1.f2 := by unfold lastStep; rw [if_neg (fun q => c3 q.2.2)]
          rw [hq, if_neg (show ¬ (p.f0 = 1 ∧ p.f1.f1 > (r p.f1.f2).f1) from fun q => c3 q.2)]
          exact ⟨e, g⟩
      · have hq : lastStep a (r a) p = r a := by unfold lastStep; rw [if_neg (fun q => c2 q.2.1)]
        rw [hq]
        refine ⟨?_, g⟩
        split
        · unfold putM
          rw [if_neg (fun q => c2 q.symm)]
          exact e
        · exact e
    · have hq : lastStep a (r a) p = r a := by unfold lastStep; rw [if_neg (fun q => c1 q.1)]
      rw [hq, if_neg (show ¬ (p.f0 = 1 ∧ p.f1.f1 > (r p.f1.f2).f1) from fun q => c1 q.1)]
      exact ⟨e, g⟩
theorem lastMap_at {l : List S73} (hf : flashOkB l = true) (a : Int) : lastMap l a = if 0 < (lastA l a).f1 then some (recOf (lastA l a)) else none := by
  unfold lastMap lastA pagesL
  rw [pagesL_flat]
  refine map_last _ _ (fun _ => ⟨0, 0, 0, 0⟩) (fun p hp => ?_) (fun a => ⟨by rw [if_neg (by simp)], by simp⟩) a
  obtain ⟨b, hb, hp⟩ := List.mem_flatMap.1 hp
  exact flash_pages hf b hb p hp
theorem last_kind (a : Int) : ∀ (ps : List S69) (r : S36), (∀ p ∈ ps, pageB p = true) → (0 < r.f1 → r.f0 = 1 ∨ r.f0 = 2) → 0 < (ps.foldl (lastStep a) r).f1 → (ps.foldl (lastStep a) r).f0 = 1 ∨ (ps.foldl (lastStep a) r).f0 = 2
  | [], r, _, h => h
  | p :: ps, r, hp, h => by
    rw [List.foldl_cons]
    refine last_kind a ps _ (fun q hq => hp q (by simp [hq])) ?_
    unfold lastStep
    split
    · rename_i c
      exact fun _ => (page_written (hp p (by simp)) c.1).1
    · exact h
theorem lastA_kind {l : List S73} (hf : flashOkB l = true) (a : Int) (h : 0 < (lastA l a).f1) : (lastA l a).f0 = 1 ∨ (lastA l a).f0 = 2 := by
  unfold lastA pagesL at h ⊢
  rw [pagesL_flat] at h ⊢
  refine last_kind a _ _ (fun p hp => ?_) (fun h => absurd h (by simp)) h
  obtain ⟨b, hb, hp⟩ := List.mem_flatMap.1 hp
  exact flash_pages hf b hb p hp
def tailOk (M : RecMap) (l1 : List Int) : Nat → Nat → Bool
  | 0, _ => true
  | n + 1, i => okAt M (rd l1 (i : Int)) i && tailOk M l1 n (i + 1)
theorem tail_disk (M : RecMap) (l1 : List Int) : tailOk M l1 6 0 = diskN M l1 6 := by
  simp [tailOk, diskN, Bool.and_assoc]
theorem storeOk_loop (l0 : List S73) (l1 : List Int) (hf : flashOkB l0 = true) (h6 : (l1.length : Int) = 6) (K : Nat) (hK : 25 ≤ K) : ∀ (n i : Nat), i + n = 6 → spec_StoreOk.l0 (K + n + 1) (i : Int) l0 l1 = some (tailOk (lastMap l0) l1 n i)
  | 0, i, h => by
    rw [spec_StoreOk.l0, if_neg (by omega)]
    rfl
  | n + 1, i, h => by
    have e1 : wrap64 ((i : Int) + 1) = ((i + 1 : Nat) : Int) := by rw [wrap64_in _ (by omega)]; omega
    have ih := storeOk_loop l0 l1 hf h6 K hK n (i + 1) (by omega)
    have hM := lastMap_at hf ((i : Int) + 1)
    have hk := lastA_kind hf ((i : Int) + 1)
    rw [spec_StoreOk.l0, if_pos (by omega), e1, l3Last_ok hf _ _ (by omega), Option.bind_some, if_pos (by omega), if_pos (by omega), tailOk]
    rw [show ((i + 1 : Nat) : Int) = (i : Int) + 1 by omega] at *
    unfold okAt spec_l6In.f valB
    rw [hM]
    generalize rd l1 (i : Int) = d
    generalize lastA l0 ((i : Int) + 1) = q at hk ⊢
    show _ = some ((decide (0 ≤ d ∧ d ≤ 9) && _) && _)
    rw [show K + (n + 1) = K + n + 1 by omega]
    by_cases d0 : d ≥ 0
    · rw [if_pos d0, Option.bind_some]
      by_cases d9 : d ≤ 9
      · rw [decide_eq_true d9, if_pos rfl, decide_eq_true (show 0 ≤ d ∧ d ≤ 9 from ⟨d0, d9⟩), Bool.true_and]
        by_cases k0 : 0 < q.f1
        · rw [if_pos (decide_eq_true (by omega : q.f1 > 0)), if_pos k0]
          show _ = some (decide (q.f0 = 1 ∨ q.f3 = d) && _)
          by_cases k1 : q.f0 = 2
          · rw [if_pos k1]
            by_cases k2 : q.f3 = d
            · rw [if_pos k2, decide_eq_true (Or.inr k2), Bool.true_and]
              exact ih
            · rw [if_neg k2, decide_eq_false (fun h => h.elim (by omega) k2), Bool.false_and]
          · rw [if_neg k1, decide_eq_true (Or.inl ((hk k0).resolve_right k1)), Bool.true_and]
            exact ih
        · rw [if_neg (by simp; omega), if_neg k0]
          show _ = some (true && _)
          rw [Bool.true_and]
          exact ih
      · rw [decide_eq_false d9, if_neg (by simp), decide_eq_false (fun h => d9 h.2), Bool.false_and, Bool.false_and]
    · rw [if_neg d0, Option.bind_some, if_neg (by simp), decide_eq_false (fun h => d0 h.1), Bool.false_and, Bool.false_and]
theorem specStoreOk_ok (l0 : List S73) (l1 : List Int) (k : Nat) (hk : 100 < k) : spec_StoreOk.f k l0 l1 = some (storeOkB l0 l1) := by
  obtain ⟨k, rfl⟩ : ∃ m, k = m + 1 := ⟨k - 1, by omega⟩
  unfold spec_StoreOk.f spec_FindOrder.f storeOkB
  rw [Option.bind_some, order_same]
  cases ho : orderI l0 with
  | false => rw [if_neg (by simp), spec_StoreOk.j0, if_pos rfl, Bool.false_and, Bool.and_false]
  | true =>
    rw [if_pos rfl, spec_StoreOk.j0]
    by_cases h6 : (l1.length : Int) = 6
    · rw [if_neg (by simp [h6]), decide_eq_true h6, Bool.true_and, Bool.true_and, ← tail_disk]
      have := storeOk_loop l0 l1 (order_flash ho) h6 (k - 7) (by omega) 6 0 (by omega)
      rw [show k - 7 + 6 + 1 = k by omega] at this
      exact this
    · rw [if_pos (by simp [h6]), decide_eq_false h6, Bool.false_and]
def pg (l : List S73) (i j : Nat) : S69 := rd_T69 (rd_T73 l (i : Int)).f0 (j : Int)
theorem mem_pg {l : List S73} (hf : flashOkB l = true) {p : S69} : p ∈ l.flatMap (·.f0) ↔ ∃ i j, i < 4 ∧ j < 4 ∧ pg l i j = p := by
  have hl := flash_len hf
  rw [List.mem_flatMap]
  constructor
  · rintro ⟨b, hb, hp⟩
    obtain ⟨i, hi, rfl⟩ := List.getElem_of_mem hb
    obtain ⟨j, hj, rfl⟩ := List.getElem_of_mem hp
    have h4 := (flash_block hf i (by omega)).1
    have e : rd_T73 l (i : Int) = l[i] := by simp [rd_T73, List.getD_eq_getElem?_getD, hi]
    refine ⟨i, j, by omega, by rw [← h4, e]; exact hj, ?_⟩
    unfold pg
    rw [e]
    unfold rd_T69
    rw [Int.toNat_natCast, List.getD_eq_getElem?_getD, List.getElem?_eq_getElem hj]
    rfl
  · rintro ⟨i, j, hi, hj, rfl⟩
    have h4 := (flash_block hf i hi).1
    exact ⟨_, rdB_mem (by omega), rdP_mem (by omega)⟩
theorem pg_ok {l : List S73} (hf : flashOkB l = true) {i j : Nat} (hi : i < 4) (hj : j < 4) : pageB (pg l i j) = true := flash_pages hf _ (rdB_mem (by rw [flash_len hf]; exact hi)) _ (rdP_mem (by rw [(flash_block hf i hi).1]; exact hj))
theorem okFl_of {fl : List S73} (hf : flashOkB fl = true) : okFl fl := by
  have h4 := flash_len hf
  refine ⟨h4, fun b hb => ?_⟩
  obtain ⟨i, hi, e⟩ := List.getElem_of_mem hb
  have hbl := flash_block hf i (by omega)
  have eb : rd_T73 fl (i : Int) = b := flB_at (by rw [List.getElem?_eq_getElem hi, e])
  rw [eb] at hbl
  refine ⟨hbl.1, fun p hp h1 => ?_⟩
  obtain ⟨j, hj, e2⟩ := List.getElem_of_mem hp
  have hpk := pg_ok hf (i := i) (j := j) (by omega) (by rw [hbl.1] at hj; exact hj)
  have ep : pg fl i j = p := by
    unfold pg
    rw [eb]
    exact flP_at (by rw [List.getElem?_eq_getElem hj, e2])
  rw [ep] at hpk
  unfold pageB at hpk
  rw [if_pos h1] at hpk
  unfold recOkB at hpk
  rw [decide_eq_true_eq] at hpk
  omega
theorem full_loop {s : List Int} (hb : Bytes s) (k : Nat) (hk : 300 ≤ k) : ∀ (n : Nat) (fl : List S73) (d : List Int) (p : Int), 0 ≤ p → p + 3 * (n : Int) ≤ 100000 → ∃ fl' d' q, spec_l71Full.l k s n fl d p = some (fl', d', q) ∧ 0 ≤ q ∧ q ≤ p + 3 * (n : Int)
  | 0, fl, d, p, h0, h1 => ⟨fl, d, p, rfl, h0, by omega⟩
  | n + 1, fl, d, p, h0, h1 => by
    have P := fun (p n : Int) (h1 : 0 ≤ p) (h2 : p ≤ 100000) (h3 : 1 ≤ n) (h4 : n ≤ 100) => pickT (p := p) (n := n) hb h1 (by omega) h3 (by omega) k (by omega)
    rw [spec_l71Full.l, specStoreOk_ok fl d k (by omega), Option.bind_some]
    cases hs : storeOkB fl d with
    | false =>
      rw [if_neg (by decide)]
      exact ⟨_, _, _, rfl, h0, by omega⟩
    | true =>
      have hl : d.length = 6 ∧ orderI fl = true := by
        unfold storeOkB at hs
        rw [Bool.and_eq_true, Bool.and_eq_true, decide_eq_true_eq] at hs
        exact ⟨by omega, hs.2.1⟩
      have ho := okFl_of (order_flash hl.2)
      obtain ⟨v, e1, _, _⟩ := P p 8 h0 (by omega) (by omega) (by omega)
      obtain ⟨a, e2, _, _⟩ := P (p + 1) 6 (by omega) (by omega) (by omega) (by omega)
      obtain ⟨b, e3, _, _⟩ := P (p + 1 + 1) 10 (by omega) (by omega) (by omega) (by omega)
      obtain ⟨oa, oc, e4, -, -⟩ := openF ho k (by omega)
      obtain ⟨fl2, d2, e5, -, -⟩ := plDoF ho hl.1 1 (wrap64 (1 + a)) b 9 false k (by omega)
      obtain ⟨fl3, d3, q3, e6, g1, g2⟩ := full_loop hb k hk n fl2 d2 (p + 1 + 1 + 1) (by omega) (by omega)
      rw [if_pos rfl, e1]
      simp only [Option.bind_some]
      split
      · rw [if_pos ⟨fine_of_shape ho, hl.1⟩, e4]
        simp only [Option.bind_some]
        split
        · rw [e2]
          simp only [Option.bind_some]
          rw [e3]
          simp only [Option.bind_some]
          rw [e5]
          simp only [Option.bind_some]
          rw [e6]
          exact ⟨_, _, _, rfl, g1, by omega⟩
        · exact ⟨_, _, _, rfl, by omega, by omega⟩
      · exact ⟨_, _, _, rfl, by omega, by omega⟩
theorem full_ok {s : List Int} (hb : Bytes s) (k : Nat) (hk : 300 ≤ k) : ∃ fl d q, spec_l71Full.f k s 0 = some (fl, d, q) ∧ 0 ≤ q ∧ q ≤ 40000 := by
  obtain ⟨fl, d, q, e, h0, h1⟩ := drawst_ok hb k hk
  obtain ⟨fl2, d2, q2, e2, h2, h3⟩ := full_loop hb k hk 12 fl d q h0 (by omega)
  unfold spec_l71Full.f
  rw [e, Option.bind_some, e2]
  exact ⟨_, _, _, rfl, h2, by omega⟩
theorem dirty_loop (l0 : List S73) (l1 : List Int) (hf : flashOkB l0 = true) (K : Nat) (hK : 25 ≤ K) : ∀ (n i : Nat), i + n = 6 → spec_StoreDirty.l0 (K + n + 1) (dirtyN (lastMap l0) i) ((i : Int) + 1) l0 l1 = some (dirtyN (lastMap l0) 6)
  | 0, i, h => by
    rw [spec_StoreDirty.l0, if_neg (by omega), show i = 6 by omega]
  | n + 1, i, h => by
    have e1 : wrap64 ((i : Int) + 1 + 1) = ((i + 1 : Nat) : Int) + 1 := by rw [wrap64_in _ (by omega)]; omega
    have ih := dirty_loop l0 l1 hf K hK n (i + 1) (by omega)
    have hlen := dirtyN_len (lastMap l0) i
    have hM := lastMap_at hf ((i : Int) + 1)
    have hst : dirtyN (lastMap l0) (i + 1) = dirtyN (lastMap l0) i ++ (match lastMap l0 ((i : Int) + 1) with
      | some r => if r.1 = 1 then [(i : Int) + 1] else []
      | none => []) := rfl
    rw [hM] at hst
    unfold spec_StoreDirty.l0 spec_l11Dirty.f
    rw [if_pos (by omega), show K + (n + 1) = K + n + 1 by omega, l3Last_ok hf _ _ (by omega), Option.bind_some, e1]
    generalize lastA l0 ((i : Int) + 1) = q at hst
    by_cases k0 : 0 < q.f1
    · rw [if_pos k0] at hst
      rw [if_pos (decide_eq_true (by omega : q.f1 > 0)), Option.bind_some]
      by_cases k1 : q.f0 = 1
      · have hst2 : dirtyN (lastMap l0) (i + 1) = dirtyN (lastMap l0) i ++ [(i : Int) + 1] := by
          rw [hst]
          show _ ++ (if q.f0 = 1 then [(i : Int) + 1] else []) = _
          rw [if_pos k1]
        rw [if_pos (by simp [k1]), if_pos (by omega), ← hst2]
        exact ih
      · have hst2 : dirtyN (lastMap l0) (i + 1) = dirtyN (lastMap l0) i := by
          rw [hst]
          show _ ++ (if q.f0 = 1 then [(i : Int) + 1] else []) = _
          rw [if_neg k1, List.append_nil]
        rw [if_neg (by simp [k1]), ← hst2]
        exact ih
    · rw [if_neg k0] at hst
      have hst2 : dirtyN (lastMap l0) (i + 1) = dirtyN (lastMap l0) i := by rw [hst]; simp
      rw [if_neg (by simp; omega), Option.bind_some, if_neg (by simp), ← hst2]
      exact ih
theorem specDirty_ok (l0 : List S73) (l1 : List Int) (k : Nat) (hk : 100 < k) : spec_StoreDirty.f k l0 l1 = some (dirtyV l0 l1) := by
  unfold spec_StoreDirty.f dirtyV
  rw [Option.bind_some, specStoreOk_ok l0 l1 k hk, Option.bind_some]
  cases hs : storeOkB l0 l1 with
  | false => rw [if_neg (by simp), if_neg (by simp)]
  | true =>
    have hl : orderI l0 = true := by
      unfold storeOkB at hs
      rw [Bool.and_eq_true, Bool.and_eq_true] at hs
      exact hs.2.1
    rw [if_pos rfl, if_pos rfl]
    have := dirty_loop l0 l1 (order_flash hl) (k - 7) (by omega) 6 0 (by omega)
    rw [show k - 7 + 6 + 1 = k by omega] at this
    exact this
theorem dirtyV_len (fl : List S73) (d : List Int) : (dirtyV fl d).length ≤ 6 := by
  have := dirtyN_len (lastMap fl) 6
  unfold dirtyV
  split
  · omega
  · exact Nat.zero_le _
theorem draw_ok {l : List Int} (hb : Bytes l) (k : Nat) (hk : 301 ≤ k) : ∃ fl d a, spec_DrawStepsFlush.f k l = some (fl, d, a) := by
  obtain ⟨k, rfl⟩ : ∃ m, k = m + 1 := ⟨k - 1, by omega⟩
  obtain ⟨s, e0, hs⟩ := open_ok hb
  obtain ⟨fl, d, q, e1, hq0, hq1⟩ := full_ok hs (k + 1) (by omega)
  have P := fun (p n : Int) (h1 : 0 ≤ p) (h2 : p ≤ 100000) (h3 : 1 ≤ n) (h4 : n ≤ 100) (k : Nat) (hk : 1 ≤ k) => pickT (p := p) (n := n) hs h1 (by omega) h3 (by omega) k hk
  have hlen := dirtyV_len fl d
  have J : ∀ (p : Int) (b : Bool), 0 ≤ p → p ≤ 90000 → (0 < (dirtyV fl d).length ∨ b = false) → ∃ fl' d' a, spec_DrawStepsFlush.j0 (k + 1) (dirtyV fl d) b s p fl d = some (fl', d', a) := fun p b h0 h1 h2 => by
    rw [spec_DrawStepsFlush.j0]
    cases b with
    | true =>
      have hpos : 0 < (dirtyV fl d).length := by
        rcases h2 with h2 | h2
        · exact h2
        · cases h2
      obtain ⟨v, e2, g0, g1⟩ := P p (((dirtyV fl d).length : Nat) : Int) h0 (by omega) (by omega) (by omega) k (by omega)
      rw [if_pos rfl, e2]
      simp only [Option.bind_some]
      rw [if_pos g0, if_pos g1]
      exact ⟨_, _, _, rfl⟩
    | false =>
      obtain ⟨v1, e2, _, _⟩ := P p 6 h0 (by omega) (by omega) (by omega) k (by omega)
      obtain ⟨v2, e3, _, _⟩ := P (p + 1) 24 (by omega) (by omega) (by omega) (by omega) k (by omega)
      rw [if_neg (by decide), e2]
      simp only [Option.bind_some]
      rw [e3]
      exact ⟨_, _, _, rfl⟩
  obtain ⟨v, e2, g0, g1⟩ := P q 6 hq0 (by omega) (by omega) (by omega) (k + 1) (by omega)
  unfold spec_DrawStepsFlush.f
  rw [e0]
  simp only [Option.bind_some]
  rw [e1]
  simp only [Option.bind_some]
  rw [specDirty_ok fl d _ (by omega), Option.bind_some]
  split
  · rename_i hp
    rw [e2]
    simp only [Option.bind_some]
    exact J _ _ (by omega) (by omega) (.inl (by omega))
  · exact J _ _ hq0 (by omega) (.inr rfl)
theorem w64_up {i n : Nat} (h : i < n) (hn : n ≤ 9223372036854775807) : wrap64 ((i : Int) + 1) = ((i + 1 : Nat) : Int) := by
  rw [wrap64_in _ (by omega)]
  omega
def freeN : List S69 → Nat
  | [] => 0
  | p :: ps => (if p.f0 = 0 then 1 else 0) + freeN ps
theorem freeN_le : ∀ ps : List S69, freeN ps ≤ ps.length
  | [] => Nat.le_refl _
  | p :: ps => by
    have := freeN_le ps
    rw [freeN, List.length_cons]
    split <;> omega
theorem clean_loop (l : List S69) (b : Int) (hl : l.length ≤ 1048576) (K : Nat) : ∀ (n i m : Nat), i + n = l.length → m ≤ i →
    spec_l2Clean.l0 (K + n + 1) (m : Int) (i : Int) l b = some ((m + freeN (l.drop i) : Nat) : Int) ∧
    impl_freePages.l0 (K + n + 1) (m : Int) l (l.length : Int) (i : Int) = some ((m + freeN (l.drop i) : Nat) : Int)
  | 0, i, m, h, hm => by
    rw [spec_l2Clean.l0, impl_freePages.l0, if_neg (by omega), if_neg (by omega), List.drop_eq_nil_of_le (by omega)]
    exact ⟨rfl, rfl⟩
  | n + 1, i, m, h, hm => by
    have ih1 := clean_loop l b hl K n (i + 1) (m + 1) (by omega) (by omega)
    have ih2 := clean_loop l b hl K n (i + 1) m (by omega) (by omega)
    have e1 : wrap64 ((i : Int) + 1) = ((i + 1 : Nat) : Int) := by rw [wrap64_in _ (by omega)]; omega
    have e2 : wrap64 ((m : Int) + 1) = ((m + 1 : Nat) : Int) := by rw [wrap64_in _ (by omega)]; omega
    rw [dropP_cons (by omega : i < l.length), freeN]
    refine ⟨?_, ?_⟩
    · rw [spec_l2Clean.l0, if_pos (by omega), if_pos (by omega), e1, e2]
      by_cases hs : (rd_T69 l (i : Int)).f0 = 0
      · rw [if_pos hs, if_pos hs, show m + (1 + freeN (l.drop (i + 1))) = m + 1 + freeN (l.drop (i + 1)) by omega]
        exact ih1.1
      · rw [if_neg hs, if_neg hs, Nat.zero_add]
        exact ih2.1
    · rw [impl_freePages.l0, if_pos (by omega), if_pos (by omega), if_pos (by omega), e1, e2]
      by_cases hs : (rd_T69 l (i : Int)).f0 = 0
      · rw [if_pos hs, if_pos hs, show m + (1 + freeN (l.drop (i + 1))) = m + 1 + freeN (l.drop (i + 1)) by omega]
        exact ih1.2
      · rw [if_neg hs, if_neg hs, Nat.zero_add]
        exact ih2.2
theorem l2Clean_ok (l : List S69) (b : Int) (hl : l.length ≤ 1048576) (k : Nat) (hk : l.length < k) : spec_l2Clean.f k l b = some ((freeN l : Nat) : Int) := by
  have := (clean_loop l b hl (k - l.length - 1) l.length 0 0 (by omega) (by omega)).1
  rw [show k - l.length - 1 + l.length + 1 = k by omega, List.drop_zero, Nat.zero_add] at this
  exact this
theorem freePages_ok (l : List S69) (b : Int) (hl : l.length ≤ 1048576) (k : Nat) (hk : l.length < k) : impl_freePages.f k l b = some ((freeN l : Nat) : Int) := by
  have := (clean_loop l b hl (k - l.length - 1) l.length 0 0 (by omega) (by omega)).2
  rw [show k - l.length - 1 + l.length + 1 = k by omega, List.drop_zero, Nat.zero_add] at this
  exact this
theorem stepNext_most : ∀ (ps : List S69) (m : Int), 0 ≤ m → (∀ p ∈ ps, pageB p = true) → ps.foldl stepNext m = mostP m ps
  | [], _, _, _ => rfl
  | p :: ps, m, hm, h => by
    have hp := page_seq (h p (by simp))
    have hr : ∀ q ∈ ps, pageB q = true := fun q hq => h q (by simp [hq])
    have e : stepNext m p = mx m p.f1.f1 := by
      unfold stepNext
      by_cases h1 : p.f0 = 1
      · rw [if_pos h1]
      · rw [if_neg h1, (page_other (h p (by simp)) h1).2.1]
        unfold mx
        split <;> omega
    rw [List.foldl_cons, mostP_cons, e]
    exact stepNext_most ps _ (by unfold mx; split <;> omega) hr
def nextV (l : List S73) : Int := if flashOkB l = true then wrap64 (mostP 0 (l.flatMap (·.f0)) + 1) else 0
theorem implNext_ok (l : List S73) : impl_FindNext.f l = some (nextV l) := by
  unfold impl_FindNext.f nextV pagesL
  cases hf : flashOkB l with
  | false => rfl
  | true =>
    rw [if_pos rfl, if_pos rfl, pagesL_flat, stepNext_most _ _ (by omega) (fun p hp => by
      obtain ⟨b, hb, hp⟩ := List.mem_flatMap.1 hp
      exact flash_pages hf b hb p hp)]
theorem next_loop (l : List S73) (hl : l.length = 4) (hb : ∀ j : Nat, j < 4 → (rd_T73 l (j : Int)).f0.length = 4) (hp : ∀ b ∈ l, ∀ p ∈ b.f0, 0 ≤ p.f1.f1) (K : Nat) (hK : 4 < K) : ∀ (n i : Nat) (m : Int), i + n = 4 → 0 ≤ m →
    spec_l3Next.l0 (K + n + 1) l m (i : Int) = some (wrap64 (mostP m ((l.drop i).flatMap (·.f0)) + 1))
  | 0, i, m, h, _ => by
    rw [spec_l3Next.l0, if_neg (by omega), List.drop_eq_nil_of_le (by omega)]
    rfl
  | n + 1, i, m, h, hm => by
    have e1 : wrap64 ((i : Int) + 1) = ((i + 1 : Nat) : Int) := by rw [wrap64_in _ (by omega)]; omega
    have hbi := hb i (by omega)
    have hps : ∀ p ∈ (rd_T73 l (i : Int)).f0, 0 ≤ p.f1.f1 := hp _ (rdB_mem (by omega))
    have hsh := mostP_shift _ m hm hps
    rw [spec_l3Next.l0, if_pos (by omega), if_pos (by omega), l3Most_ok _ _ (by omega) _ (by omega), Option.bind_some, e1, dropB_cons (by omega : i < l.length), List.flatMap_cons]
    have ih := next_loop l hl hb hp K hK n (i + 1) (mx m (mostP 0 (rd_T73 l (i : Int)).f0)) (by omega) (by unfold mx; split <;> omega)
    rw [show K + (n + 1) = K + n + 1 by omega, ih, ← hsh.1]
    unfold mostP
    rw [List.foldl_append]
theorem specL3Next_ok {l : List S73} (hf : flashOkB l = true) (k : Nat) (hk : 100 < k) : spec_l3Next.f k l = some (nextV l) := by
  have := next_loop l (flash_len hf) (fun j hj => (flash_block hf j hj).1) (fun b hb p hp => (page_seq (flash_pages hf b hb p hp)).1) (k - 5) (by omega) 4 0 0 (by omega) (by omega)
  rw [show k - 5 + 4 + 1 = k by omega, List.drop_zero] at this
  unfold spec_l3Next.f nextV
  rw [if_pos hf]
  exact this
def clN (l : List S73) (i : Nat) : Nat := freeN (rd_T73 l (i : Int)).f0
def partL (l : List S73) : Nat → Nat → Option Nat
  | 0, _ => none
  | n + 1, i => if 0 < clN l i ∧ clN l i < 4 then some i else partL l n (i + 1)
def bestL (l : List S73) : Nat → Nat → Int → Int
  | 0, _, o => o
  | n + 1, i, o => if clN l i = 4 ∧ (o < 0 ∨ (rd_T73 l (i : Int)).f1 < (rd_T73 l o).f1) then bestL l n (i + 1) (i : Int) else bestL l n (i + 1) o
def openE (o : Int) : Int × Bool := (mx o 0, decide (o ≥ 0))
def openV (l : List S73) (n i : Nat) (o : Int) : Int × Bool := match partL l n i with
  | some j => ((j : Int), true)
  | none => openE (bestL l n i o)
theorem cl_le (l : List S73) (hp : ∀ j : Nat, j < 4 → (rd_T73 l (j : Int)).f0.length = 4) {i : Nat} (hi : i < 4) : clN l i ≤ 4 := by
  have := freeN_le (rd_T73 l (i : Int)).f0
  have := hp i hi
  unfold clN
  omega
section
variable (l : List S73) (hl : l.length = 4) (hp : ∀ j : Nat, j < 4 → (rd_T73 l (j : Int)).f0.length = 4)
include hl hp
theorem specOpen_loop (K : Nat) (hK : 4 < K) : ∀ (n i : Nat) (o : Int), i + n = 4 → -1 ≤ o → o < i → spec_l3Open.l0 (K + 2 * n + 1) l o i = some (openV l n i o)
  | 0, i, o, h, _, _ => by
    rw [spec_l3Open.l0, if_neg (by omega)]
    rfl
  | n + 1, i, o, h, ho, ho2 => by
    have hi : i < 4 := by omega
    have hc := cl_le l hp hi
    have e1 : wrap64 ((i : Int) + 1) = ((i + 1 : Nat) : Int) := by rw [wrap64_in _ (by omega)]; omega
    have ih1 := specOpen_loop K hK n (i + 1) (i : Int) (by omega) (by omega) (by omega)
    have ih2 := specOpen_loop K hK n (i + 1) o (by omega) (by omega) (by omega)
    have hpi := hp i hi
    rw [show K + 2 * (n + 1) + 1 = K + 2 * n + 2 + 1 by omega, spec_l3Open.l0, if_pos (by omega), if_pos (by omega), l2Clean_ok _ _ (by omega) _ (by omega), Option.bind_some]
    show (if ((clN l i : Nat) : Int) > 0 then spec_l3Open.j1 (K + 2 * n + 2) l o i (clN l i : Nat) (decide (((clN l i : Nat) : Int) < 4)) else spec_l3Open.j1 (K + 2 * n + 2) l o i (clN l i : Nat) false) = _
    unfold openV
    rw [partL]
    by_cases h0 : 0 < clN l i
    · rw [if_pos (by omega)]
      by_cases h4 : clN l i < 4
      · rw [decide_eq_true (by omega : ((clN l i : Nat) : Int) < 4), if_pos ⟨h0, h4⟩, show K + 2 * n + 2 = K + 2 * n + 1 + 1 by omega, spec_l3Open.j1, if_pos rfl]
      · have h44 : clN l i = 4 := by omega
        rw [decide_eq_false (by omega : ¬ ((clN l i : Nat) : Int) < 4), if_neg (fun h => h4 h.2), show K + 2 * n + 2 = K + 2 * n + 1 + 1 by omega, spec_l3Open.j1, if_neg (by simp), if_pos (by omega), bestL, e1]
        by_cases hn : o < 0
        · rw [if_pos hn, if_pos ⟨h44, Or.inl hn⟩]
          exact ih1
        · rw [if_neg hn, if_pos (by omega), if_pos (by omega), if_pos (by omega), if_pos (by omega)]
          by_cases hw : (rd_T73 l (i : Int)).f1 < (rd_T73 l o).f1
          · rw [if_pos hw, if_pos ⟨h44, Or.inr hw⟩]
            exact ih1
          · rw [if_neg hw, if_neg (fun h => h.2.elim hn hw)]
            exact ih2
    · rw [if_neg (by omega), if_neg (fun h => h0 h.1), show K + 2 * n + 2 = K + 2 * n + 1 + 1 by omega, spec_l3Open.j1, if_neg (by simp), if_neg (by omega), bestL, if_neg (fun h => by omega), e1]
      exact ih2
theorem implBest_loop (K : Nat) (hK : 4 < K) : ∀ (n i : Nat) (o : Int), i + n = 4 → -1 ≤ o → o < i → impl_FindOpen.l1 (K + n + 1) l (mx o 0) (decide (o ≥ 0)) l (l.length : Int) i = some (openE (bestL l n i o))
  | 0, i, o, h, _, _ => by
    rw [impl_FindOpen.l1, if_neg (by omega)]
    rfl
  | n + 1, i, o, h, ho, ho2 => by
    have hi : i < 4 := by omega
    have hc := cl_le l hp hi
    have e1 : wrap64 ((i : Int) + 1) = ((i + 1 : Nat) : Int) := by rw [wrap64_in _ (by omega)]; omega
    have hpi := hp i hi
    have ih1 := implBest_loop K hK n (i + 1) (i : Int) (by omega) (by omega) (by omega)
    have ih2 := implBest_loop K hK n (i + 1) o (by omega) (by omega) (by omega)
    rw [show mx (i : Int) 0 = (i : Int) from by unfold mx; omega, decide_eq_true (by omega : (i : Int) ≥ 0)] at ih1
    rw [impl_FindOpen.l1, if_pos (by omega), if_pos (by omega), if_pos (by omega), freePages_ok _ _ (by omega) _ (by omega), Option.bind_some, e1, bestL]
    show (if ((clN l i : Nat) : Int) = 4 then _ else _) = _
    by_cases h4 : clN l i = 4
    · rw [if_pos (by omega)]
      by_cases hn : o < 0
      · rw [decide_eq_false (by omega : ¬ o ≥ 0), if_neg (by simp), if_pos ⟨h4, Or.inl hn⟩]
        exact ih1
      · have em : mx o 0 = o := by unfold mx; omega
        rw [decide_eq_true (by omega : o ≥ 0), if_pos rfl, em, if_pos (by omega), if_pos (by omega)]
        rw [decide_eq_true (by omega : o ≥ 0), em] at ih2
        by_cases hw : (rd_T73 l (i : Int)).f1 < (rd_T73 l o).f1
        · rw [if_pos hw, if_pos ⟨h4, Or.inr hw⟩]
          exact ih1
        · rw [if_neg hw, if_neg (fun h => h.2.elim hn hw)]
          exact ih2
    · rw [if_neg (by omega), if_neg (fun h => h4 h.1)]
      exact ih2
theorem implOpen_loop (K : Nat) (hK : 10 < K) : ∀ (n i : Nat), i + n = 4 → impl_FindOpen.l0 (K + n + 1) l l (l.length : Int) i = some (match partL l n i with | some j => ((j : Int), true) | none => openE (bestL l 4 0 (-1)))
  | 0, i, h => by
    have hb := implBest_loop l hl hp (K - 5) (by omega) 4 0 (-1) (by omega) (by omega) (by omega)
    rw [show K - 5 + 4 + 1 = K by omega] at hb
    rw [impl_FindOpen.l0, if_neg (by omega), partL]
    exact hb
  | n + 1, i, h => by
    have hi : i < 4 := by omega
    have hc := cl_le l hp hi
    have e1 : wrap64 ((i : Int) + 1) = ((i + 1 : Nat) : Int) := by rw [wrap64_in _ (by omega)]; omega
    have hpi := hp i hi
    have ih := implOpen_loop K hK n (i + 1) (by omega)
    rw [impl_FindOpen.l0, if_pos (by omega), if_pos (by omega), if_pos (by omega), e1, partL]
    unfold impl_partlyUsed.f
    rw [freePages_ok _ _ (by omega) _ (by omega), Option.bind_some]
    show ((if ((clN l i : Nat) : Int) > 0 then some (decide (((clN l i : Nat) : Int) < 4)) else some false).bind _) = _
    by_cases h0 : 0 < clN l i
    · rw [if_pos (by omega), Option.bind_some]
      by_cases h4 : clN l i < 4
      · rw [decide_eq_true (by omega : ((clN l i : Nat) : Int) < 4), if_pos rfl, if_pos ⟨h0, h4⟩]
      · rw [decide_eq_false (by omega : ¬ ((clN l i : Nat) : Int) < 4), if_neg (by simp), if_neg (fun h => h4 h.2)]
        exact ih
    · rw [if_neg (by omega), Option.bind_some, if_neg (by simp), if_neg (fun h => h0 h.1)]
      exact ih
end
def openR (l : List S73) : Int × Bool := if flashOkB l = true then openV l 4 0 (-1) else (0, false)
theorem implFindOpen_ok (l : List S73) (k : Nat) (hk : 100 < k) : impl_FindOpen.f k l = some (openR l) := by
  unfold impl_FindOpen.f impl_FlashOk.f openR
  rw [Option.bind_some]
  cases hf : flashOkB l with
  | false => rw [if_neg (by simp), if_neg (by simp)]
  | true =>
    rw [if_pos rfl, if_pos rfl]
    have := implOpen_loop l (flash_len hf) (fun j hj => (flash_block hf j hj).1) (k - 5) (by omega) 4 0 (by omega)
    rw [show k - 5 + 4 + 1 = k by omega] at this
    exact this
theorem specL3Open_ok {l : List S73} (hf : flashOkB l = true) (k : Nat) (hk : 100 < k) : spec_l3Open.f k l = some (openV l 4 0 (-1)) := by
  have := specOpen_loop l (flash_len hf) (fun j hj => (flash_block hf j hj).1) (k - 9) (by omega) 4 0 (-1) (by omega) (by omega) (by omega)
  rw [show k - 9 + 2 * 4 + 1 = k by omega] at this
  unfold spec_l3Open.f
  rw [show (0 : Int) = ((0 : Nat) : Int) from rfl, this]
theorem old_loop (l : List S73) (s : Spans) (hl : l.length = 4) (hb : ∀ j : Nat, j < 4 → (rd_T73 l (j : Int)).f0.length = 4) (hs : ∀ j : Nat, j < 4 → (s j).2 = mostP 0 (rd_T73 l (j : Int)).f0) (K : Nat) (hK : 4 < K) : ∀ (n i : Nat), i + n = 4 →
    spec_l3Old.l0 (K + n + 1) l ((oldN s i : Nat) : Int) (i : Int) = some ((oldN s 4 : Nat) : Int)
  | 0, i, h => by
    rw [spec_l3Old.l0, if_neg (by omega), show i = 4 by omega]
  | n + 1, i, h => by
    have e1 : wrap64 ((i : Int) + 1) = ((i + 1 : Nat) : Int) := by rw [wrap64_in _ (by omega)]; omega
    have ho := oldN_lt s i (by omega)
    have h1 := hb i (by omega)
    have h2 := hb (oldN s i) ho
    have ih := old_loop l s hl hb hs K hK n (i + 1) (by omega)
    rw [spec_l3Old.l0, if_pos (by omega), if_pos (by omega), show K + (n + 1) = K + n + 1 by omega, l3Most_ok _ _ (by omega) _ (by omega), Option.bind_some, if_pos (by omega), if_pos (by omega), l3Most_ok _ _ (by omega) _ (by omega), Option.bind_some, ← hs i (by omega), ← hs (oldN s i) ho, e1]
    rw [oldN] at ih
    by_cases hc : (s i).2 < (s (oldN s i)).2
    · rw [if_pos hc] at ih ⊢
      exact ih
    · rw [if_neg hc] at ih ⊢
      exact ih
theorem specL3Old_ok {l : List S73} (hf : flashOkB l = true) (k : Nat) (hk : 100 < k) : spec_l3Old.f k l = some ((oldN (spansF l) 4 : Nat) : Int) := by
  have := old_loop l (spansF l) (flash_len hf) (fun j hj => (flash_block hf j hj).1) (fun j hj => spansF_hi hf j hj) (k - 4) (by omega) 3 1 (by omega)
  rw [show k - 4 + 3 + 1 = k by omega] at this
  have h1 : oldN (spansF l) 1 = 0 := by rw [oldN]; split <;> rfl
  rw [h1] at this
  unfold spec_l3Old.f
  exact this
theorem lastStep_ge (a : Int) : ∀ (ps : List S69) (r : S36), r.f1 ≤ (ps.foldl (lastStep a) r).f1
  | [], r => Int.le_refl _
  | p :: ps, r => by
    rw [List.foldl_cons]
    refine Int.le_trans ?_ (lastStep_ge a ps _)
    unfold lastStep
    split <;> omega
theorem lastStep_mem (a : Int) : ∀ (ps : List S69) (r : S36) (p : S69), p ∈ ps → p.f0 = 1 → p.f1.f2 = a → p.f1.f1 ≤ (ps.foldl (lastStep a) r).f1
  | q :: ps, r, p, hp, h1, h2 => by
    rw [List.foldl_cons]
    rcases List.mem_cons.1 hp with rfl | hp
    · refine Int.le_trans ?_ (lastStep_ge a ps _)
      unfold lastStep
      split
      · exact Int.le_refl _
      · rename_i h
        by_cases h3 : p.f1.f1 > r.f1
        · exact absurd ⟨h1, h2, h3⟩ h
        · omega
    · exact lastStep_mem a ps _ p hp h1 h2
def pageAt (l : List S73) (a b : Int) : S69 := rd_T69 (rd_T73 l a).f0 b
def liveP (l : List S73) (p : S69) : Bool := if p.f0 = 1 then (let r := lastA l p.f1.f2; (r.f0 == p.f1.f0 && (r.f1 == p.f1.f1 && (r.f2 == p.f1.f2 && (r.f3 == p.f1.f3))))) else false
def liveV (l : List S73) (a b : Int) : Bool := if flashOkB l = true ∧ 0 ≤ a ∧ a < 4 ∧ 0 ≤ b ∧ b < 4 then liveP l (pageAt l a b) else false
theorem implLive_ok (l : List S73) (a b : Int) (k : Nat) (hk : 25 ≤ k) : impl_FindLive.f k l a b = some (liveV l a b) := by
  obtain ⟨k, rfl⟩ : ∃ m, k = m + 1 := ⟨k - 1, by omega⟩
  have hj : impl_FindLive.j0 (k + 1) l a b true = some false := by rw [impl_FindLive.j0, if_pos rfl]
  unfold impl_FindLive.f impl_FlashOk.f impl_blockOk.f liveV
  rw [Option.bind_some]
  cases hf : flashOkB l with
  | false => rw [if_neg (by simp), if_neg (by simp)]; exact hj
  | true =>
    rw [if_pos rfl]
    by_cases h0 : 0 ≤ a
    · rw [if_pos (by omega : a ≥ 0), Option.bind_some]
      by_cases h4 : a < 4
      · rw [decide_eq_true h4, if_pos rfl]
        by_cases g0 : b < 0
        · rw [if_pos g0, if_neg (by omega)]; exact hj
        · rw [if_neg g0]
          by_cases g4 : b ≥ 4
          · rw [decide_eq_true g4, if_neg (by omega)]; exact hj
          · obtain ⟨j, rfl⟩ := Int.eq_ofNat_of_zero_le h0
            obtain ⟨m, rfl⟩ := Int.eq_ofNat_of_zero_le (by omega : 0 ≤ b)
            obtain ⟨hb, _⟩ := flash_block hf j (by omega)
            have hl := flash_len hf
            rw [if_pos (show true = true ∧ 0 ≤ (j : Int) ∧ (j : Int) < 4 ∧ 0 ≤ (m : Int) ∧ (m : Int) < 4 from ⟨rfl, h0, by omega, by omega, by omega⟩), decide_eq_false g4, impl_FindLive.j0, if_neg (by simp), if_pos h0, if_pos (by omega), if_pos (by omega), if_pos (by omega)]
            unfold liveP pageAt
            have hm1 : rd_T73 l (j : Int) ∈ l := rdB_mem (by omega)
            have hm2 : rd_T69 (rd_T73 l (j : Int)).f0 (m : Int) ∈ (rd_T73 l (j : Int)).f0 := rdP_mem (by omega)
            have hpg := flash_pages hf _ hm1 _ hm2
            by_cases h1 : (rd_T69 (rd_T73 l (j : Int)).f0 (m : Int)).f0 = 1
            · have hw := page_written hpg h1
              have hge : (rd_T69 (rd_T73 l (j : Int)).f0 (m : Int)).f1.f1 ≤ (lastA l (rd_T69 (rd_T73 l (j : Int)).f0 (m : Int)).f1.f2).f1 := by
                unfold lastA pagesL
                rw [pagesL_flat]
                exact lastStep_mem _ _ _ _ (List.mem_flatMap.2 ⟨_, hm1, hm2⟩) h1 rfl
              rw [if_pos h1, if_pos h1]
              unfold impl_FindLast.f
              rw [hf, if_pos ⟨by unfold addrB; simp; omega, rfl⟩, Option.bind_some]
              simp only []
              rw [decide_eq_true (by omega : (lastA l (rd_T69 (rd_T73 l (j : Int)).f0 (m : Int)).f1.f2).f1 > 0), if_pos rfl]
            · rw [if_neg h1, if_neg h1]
      · rw [decide_eq_false h4, if_neg (by simp), if_neg (by omega)]; exact hj
    · rw [if_neg (by omega : ¬ a ≥ 0), Option.bind_some, if_neg (by simp), if_neg (by omega)]; exact hj
theorem l3Live_ok {l : List S73} (hf : flashOkB l = true) (p : S69) (k : Nat) (hk : 25 ≤ k) : spec_l3Live.f k l p.f0 p.f1.f0 p.f1.f1 p.f1.f2 p.f1.f3 = some (liveP l p) := by
  unfold spec_l3Live.f liveP
  by_cases h1 : p.f0 = 1
  · rw [if_pos h1, if_pos h1, l3Last_ok hf _ k hk]
    rfl
  · rw [if_neg h1, if_neg h1]
theorem lastStep_from (a : Int) : ∀ (ps : List S69) (r : S36), ps.foldl (lastStep a) r = r ∨ ∃ p ∈ ps, p.f0 = 1 ∧ p.f1.f2 = a ∧ ps.foldl (lastStep a) r = p.f1
  | [], r => .inl rfl
  | p :: ps, r => by
    rw [List.foldl_cons]
    rcases lastStep_from a ps (lastStep a r p) with h | ⟨q, hq, h1, h2, h3⟩
    · rw [h]
      unfold lastStep
      split
      · rename_i hc
        exact .inr ⟨p, List.mem_cons_self, hc.1, hc.2.1, rfl⟩
      · exact .inl rfl
    · exact .inr ⟨q, List.mem_cons_of_mem _ hq, h1, h2, h3⟩
def onP (l : List S73) (a : Int) (i j : Nat) : Prop := (pg l i j).f0 = 1 ∧ (pg l i j).f1.f2 = a
theorem lastA_at {l : List S73} (hf : flashOkB l = true) {a : Int} (h : (lastA l a).f1 > 0) : ∃ i j, i < 4 ∧ j < 4 ∧ onP l a i j ∧ (pg l i j).f1 = lastA l a := by
  have h0 := h
  unfold lastA pagesL at h ⊢
  rw [pagesL_flat] at h ⊢
  rcases lastStep_from a (l.flatMap (·.f0)) ⟨0, 0, 0, 0⟩ with e | ⟨p, hp, h1, h2, h3⟩
  · rw [e] at h
    exact absurd h (by decide)
  · obtain ⟨i, j, hi, hj, rfl⟩ := (mem_pg hf).1 hp
    exact ⟨i, j, hi, hj, ⟨h1, h2⟩, h3.symm⟩
abbrev St := S38
abbrev Bl := S73
abbrev Pg := S69
def diskS (p : Pg) : St := ⟨1, p.f1.f2, p.f1.f3, 0, ⟨0, 0, 0, 0⟩⟩
def wantS (l : List Bl) (p : Pg) : Bool := p.f1.f0 == 1 && liveP l p
def disksS (l : List Bl) (ps : List Pg) : List St := (ps.filter (wantS l)).map diskS
def writeS (_l : List Bl) (kind n a v b : Int) : St := ⟨3, 0, 0, b, ⟨kind, n, a, v⟩⟩
def wipeS (b : Int) : St := ⟨2, 0, 0, b, ⟨0, 0, 0, 0⟩⟩
def stepsV (l : List Bl) (kind a v : Int) : List St :=
  if recOkB kind (nextV l) a v = true then
    (if (openV l 4 0 (-1)).2 = true then [writeS l kind (nextV l) a v (openV l 4 0 (-1)).1]
     else if (rd_T73 l ((oldN (spansF l) 4 : Nat) : Int)).f1 = 200 then []
     else disksS l (rd_T73 l ((oldN (spansF l) 4 : Nat) : Int)).f0 ++ [wipeS ((oldN (spansF l) 4 : Nat) : Int)] ++ [writeS l kind (nextV l) a v ((oldN (spansF l) 4 : Nat) : Int)])
  else []
theorem disksS_len (l : List Bl) (ps : List Pg) : (disksS l ps).length ≤ ps.length := by
  unfold disksS
  rw [List.length_map]
  exact List.length_filter_le _ _
theorem in6 (n a b : Int) : spec_l6In.f n a b = some (decide (a ≤ n ∧ n ≤ b)) := by
  unfold spec_l6In.f
  by_cases h : n ≥ a
  · rw [if_pos h]
    by_cases h2 : n ≤ b
    · rw [decide_eq_true h2, decide_eq_true ⟨h, h2⟩]
    · rw [decide_eq_false h2, decide_eq_false (fun q => h2 q.2)]
  · rw [if_neg h, decide_eq_false (fun q => h q.1)]
theorem specRecOk_ok (a b c d : Int) : spec_RecOk.f a b c d = some (recOkB a b c d) := by
  unfold spec_RecOk.f
  rw [in6, Option.bind_some]
  by_cases h1 : 1 ≤ a ∧ a ≤ 2
  · rw [decide_eq_true h1, if_pos rfl, in6, Option.bind_some]
    by_cases h2 : 1 ≤ b ∧ b ≤ 600
    · rw [decide_eq_true h2, if_pos rfl, in6, Option.bind_some]
      by_cases h3 : 1 ≤ c ∧ c ≤ 6
      · rw [decide_eq_true h3, if_pos rfl, in6, Option.bind_some]
        by_cases h4 : 0 ≤ d ∧ d ≤ 9
        · rw [decide_eq_true h4]
          unfold recOkB
          rw [decide_eq_true (by omega)]
        · rw [decide_eq_false h4]
          unfold recOkB
          rw [decide_eq_false (by omega)]
      · rw [decide_eq_false h3, if_neg (by simp)]
        unfold recOkB
        rw [decide_eq_false (by omega)]
    · rw [decide_eq_false h2, if_neg (by simp)]
      unfold recOkB
      rw [decide_eq_false (by omega)]
  · rw [decide_eq_false h1, if_neg (by simp)]
    unfold recOkB
    rw [decide_eq_false (by omega)]
section
variable {l : List Bl} (hf : flashOkB l = true)
include hf
theorem stepsV_len (kind a v : Int) : (stepsV l kind a v).length ≤ 6 := by
  have h1 := (flash_block hf (oldN (spansF l) 4) (oldN_lt (spansF l) 4 (by omega))).1
  have h2 := disksS_len l (rd_T73 l ((oldN (spansF l) 4 : Nat) : Int)).f0
  unfold stepsV
  split
  · split
    · simp
    · split
      · simp
      · simp only [List.length_append, List.length_cons, List.length_nil]
        omega
  · simp
theorem specRoom_loop (l1 : List Int) (o : Nat) (ho : o < 4) (K : Nat) (hK : 25 ≤ K) : ∀ (n i : Nat) (out : List St), i + n = 4 → out.length ≤ i →
    spec_l12Room.l0 (K + n + 1) out (o : Int) (i : Int) l l1 = some (out ++ disksS l ((rd_T73 l (o : Int)).f0.drop i) ++ [wipeS (o : Int)], (o : Int), decide ((rd_T73 l (o : Int)).f1 < 200))
  | 0, i, out, h, hl => by
    have hlen := flash_len hf
    have hb := (flash_block hf o ho).1
    rw [spec_l12Room.l0, if_neg (by omega), if_pos (by omega), if_pos (by omega), if_pos (by omega), List.drop_eq_nil_of_le (by omega)]
    simp [disksS, wipeS]
  | n + 1, i, out, h, hl => by
    have hlen := flash_len hf
    have hb := (flash_block hf o ho).1
    have e1 : wrap64 ((i : Int) + 1) = ((i + 1 : Nat) : Int) := by rw [wrap64_in _ (by omega)]; omega
    rw [spec_l12Room.l0, if_pos (by omega), if_pos (by omega), if_pos (by omega), if_pos (by omega), if_pos (by omega), show K + (n + 1) = K + n + 1 by omega, l3Live_ok hf _ _ (by omega), Option.bind_some, e1, dropP_cons (by omega : i < (rd_T73 l (o : Int)).f0.length)]
    have ih1 := fun out h2 => specRoom_loop l1 o ho K hK n (i + 1) out (by omega) h2
    generalize rd_T69 (rd_T73 l (o : Int)).f0 (i : Int) = p at *
    have hd : ∀ q, disksS l (p :: q) = (if wantS l p = true then [diskS p] else []) ++ disksS l q := fun q => by
      unfold disksS
      rw [List.filter_cons]
      split <;> simp
    rw [hd]
    unfold wantS
    by_cases k1 : liveP l p = true
    · rw [if_pos k1]
      by_cases k2 : p.f1.f0 = 1
      · rw [if_pos k2, if_pos (by omega), if_pos (by simp [k1, k2])]
        have := ih1 (out ++ [diskS p]) (by rw [List.length_append]; simp; omega)
        rw [show (⟨1, p.f1.f2, p.f1.f3, 0, ⟨0, 0, 0, 0⟩⟩ : St) = diskS p from rfl, this]
        simp
      · rw [if_neg k2, if_neg (by simp [k2]), List.nil_append]
        exact ih1 out (by omega)
    · rw [if_neg k1, if_neg (by simp [k1]), List.nil_append]
      exact ih1 out (by omega)
theorem specWrite_ok (l1 : List Int) (kind a v : Int) (k : Nat) (hk : 200 < k) : spec_l12Write.f k l l1 kind a v = some (stepsV l kind a v) := by
  have ho := oldN_lt (spansF l) 4 (by omega)
  have hr := specRoom_loop hf l1 (oldN (spansF l) 4) ho (k - 5) (by omega) 4 0 [] (by omega) (by simp)
  have hw := (flash_block hf (oldN (spansF l) 4) ho).2
  have h1 := (flash_block hf (oldN (spansF l) 4) ho).1
  have h2 := disksS_len l (rd_T73 l ((oldN (spansF l) 4 : Nat) : Int)).f0
  rw [show k - 5 + 4 + 1 = k by omega, List.drop_zero, List.nil_append] at hr
  unfold spec_l12Write.f spec_l12Room.f stepsV
  rw [specL3Next_ok hf k (by omega), Option.bind_some, specL3Open_ok hf k (by omega), Option.bind_some, Option.bind_some]
  by_cases c1 : (openV l 4 0 (-1)).2 = true
  · rw [if_pos c1, Option.bind_some, if_pos rfl, specRecOk_ok, Option.bind_some]
    by_cases c2 : recOkB kind (nextV l) a v = true
    · rw [if_pos c2, if_pos c2, if_pos (by simp), if_pos c1]
      rfl
    · rw [if_neg c2, if_neg c2]
  · rw [if_neg c1, specL3Old_ok hf k (by omega), Option.bind_some]
    have hr2 : spec_l12Room.l0 k [] ((oldN (spansF l) 4 : Nat) : Int) 0 l l1 = _ := hr
    rw [hr2, Option.bind_some]
    by_cases c3 : (rd_T73 l ((oldN (spansF l) 4 : Nat) : Int)).f1 = 200
    · rw [if_neg (by simp [c3]), if_neg c1, if_pos c3]
      split <;> rfl
    · rw [if_pos (by simp; omega), specRecOk_ok, Option.bind_some]
      by_cases c2 : recOkB kind (nextV l) a v = true
      · rw [if_pos c2, if_pos c2, if_neg c1, if_neg c3, if_pos (by simp only [List.length_append, List.length_cons, List.length_nil]; omega)]
        rfl
      · rw [if_neg c2, if_neg c2]
theorem implWrite_loop (o : Nat) (ho : o < 4) (q0 q1 q2 q3 : Int) (K : Nat) (hK : 25 ≤ K) : ∀ (n i : Nat) (out : List St), i + n = 4 → out.length ≤ i →
    impl_stepsWrite.l0 (K + n + 1) l (o : Int) out (rd_T73 l (o : Int)).f0 ((rd_T73 l (o : Int)).f0.length : Int) (i : Int) q0 q1 q2 q3 = some (out ++ disksS l ((rd_T73 l (o : Int)).f0.drop i) ++ [wipeS (o : Int)] ++ [⟨3, 0, 0, (o : Int), ⟨q0, q1, q2, q3⟩⟩])
  | 0, i, out, h, hl => by
    have hb := (flash_block hf o ho).1
    rw [impl_stepsWrite.l0, if_neg (by omega), if_pos (by omega), Option.bind_some, if_pos (by simp; omega), List.drop_eq_nil_of_le (by omega)]
    simp [disksS, wipeS]
  | n + 1, i, out, h, hl => by
    have hb := (flash_block hf o ho).1
    have e1 : wrap64 ((i : Int) + 1) = ((i + 1 : Nat) : Int) := by rw [wrap64_in _ (by omega)]; omega
    have hlv := implLive_ok l (o : Int) (i : Int) (K + n + 1) (by omega)
    unfold liveV pageAt at hlv
    rw [if_pos ⟨hf, by omega, by omega, by omega, by omega⟩] at hlv
    rw [impl_stepsWrite.l0, if_pos (by omega), if_pos (by omega), if_pos (by omega), show K + (n + 1) = K + n + 1 by omega, e1, hlv, dropP_cons (by omega : i < (rd_T73 l (o : Int)).f0.length)]
    have ih1 := fun out h2 => implWrite_loop o ho q0 q1 q2 q3 K hK n (i + 1) out (by omega) h2
    unfold impl_Rec_isDirty.f impl_diskStep.f
    rw [Option.bind_some]
    generalize rd_T69 (rd_T73 l (o : Int)).f0 (i : Int) = p at *
    have hd : ∀ q, disksS l (p :: q) = (if wantS l p = true then [diskS p] else []) ++ disksS l q := fun q => by
      unfold disksS
      rw [List.filter_cons]
      split <;> simp
    rw [hd]
    unfold wantS
    by_cases k2 : p.f1.f0 = 1
    · rw [if_pos (by simp [k2]), Option.bind_some]
      by_cases k1 : liveP l p = true
      · rw [if_pos k1, Option.bind_some, if_pos (by omega), if_pos (by simp [k1, k2])]
        have := ih1 (out ++ [diskS p]) (by rw [List.length_append]; simp; omega)
        show impl_stepsWrite.l0 _ _ _ (out ++ [diskS p]) _ _ _ _ _ _ _ = _
        rw [this]
        simp
      · rw [if_neg k1, if_neg (by simp [k1]), List.nil_append]
        exact ih1 out (by omega)
    · rw [if_neg (by simp [k2]), if_neg (by simp [k2]), List.nil_append]
      exact ih1 out (by omega)
theorem implWrite_ok (kind a v : Int) (k : Nat) (hk : 200 < k) : impl_stepsWrite.f k l kind a v = some (stepsV l kind a v) := by
  have ho := oldN_lt (spansF l) 4 (by omega)
  have hlen := flash_len hf
  have hr := implWrite_loop hf (oldN (spansF l) 4) ho kind (nextV l) a v (k - 5) (by omega) 4 0 [] (by omega) (by simp)
  rw [show k - 5 + 4 + 1 = k by omega, List.drop_zero, List.nil_append] at hr
  unfold impl_stepsWrite.f stepsV
  rw [implNext_ok, Option.bind_some]
  unfold impl_RecOk.f
  rw [Option.bind_some]
  by_cases c2 : recOkB kind (nextV l) a v = true
  · rw [if_pos c2, if_pos c2, implFindOpen_ok l k (by omega), Option.bind_some]
    unfold openR
    rw [if_pos hf]
    by_cases c1 : (openV l 4 0 (-1)).2 = true
    · rw [if_pos c1, if_pos c1]
      rfl
    · rw [if_neg c1, if_neg c1]
      unfold impl_FindOld.f
      rw [if_pos hf, Option.bind_some, if_pos (by omega), if_pos (by omega)]
      by_cases c3 : (rd_T73 l ((oldN (spansF l) 4 : Nat) : Int)).f1 = 200
      · rw [if_pos c3, if_pos c3]
      · rw [if_neg c3, if_neg c3]
        exact hr
  · rw [if_neg c2, if_neg c2]
end
def putV (fl : List Bl) (d : List Int) (a v : Int) : List St := if storeOkB fl d = true then stepsV fl 1 a v else []
theorem implPut_ok (l0 : List Bl) (l1 : List Int) (a v : Int) (k : Nat) (hk : 1000 < k) : impl_StepsPut.f k l0 l1 a v = some (putV l0 l1 a v) := by
  unfold impl_StepsPut.f impl_StoreOk.f putV
  rw [Option.bind_some]
  cases hs : storeOkB l0 l1 with
  | false => rfl
  | true => rw [if_pos rfl, if_pos rfl, implWrite_ok (order_flash (by unfold storeOkB at hs; rw [Bool.and_eq_true, Bool.and_eq_true] at hs; exact hs.2.1)) 1 a v k (by omega), Option.bind_some]
theorem l11Read_ok {l0 : List S73} {l1 : List Int} (hf : flashOkB l0 = true) (h6 : l1.length = 6) (a : Int) (h1 : 1 ≤ a) (h2 : a ≤ 6) (k : Nat) (hk : 25 ≤ k) : spec_l11Read.f k l0 l1 a = some (match lastMap l0 a with
  | some r => r.2.2.2
  | none => rd l1 (a - 1)) := by
  unfold spec_l11Read.f
  rw [l3Last_ok hf a k hk, Option.bind_some, lastMap_at hf a, wrap64_in _ (by omega)]
  by_cases k0 : 0 < (lastA l0 a).f1
  · rw [if_pos (decide_eq_true (by omega : (lastA l0 a).f1 > 0)), if_pos k0]
    rfl
  · rw [if_neg (by simp; omega), if_neg k0, if_pos (by omega), if_pos (by omega)]
theorem store_fact {fl : List S73} {d : List Int} (hs : storeOkB fl d = true) : d.length = 6 ∧ orderI fl = true ∧ diskN (lastMap fl) d 6 = true := by
  unfold storeOkB at hs
  rw [Bool.and_eq_true, Bool.and_eq_true, decide_eq_true_eq] at hs
  exact ⟨by omega, hs.2.1, hs.2.2⟩
theorem read_eq {fl : List S73} {d : List Int} (hs : storeOkB fl d = true) {a : Int} (h1 : 1 ≤ a ∧ a ≤ 6) : readV fl d a = if 0 < (lastA fl a).f1 then (lastA fl a).f3 else rd d (a - 1) := by
  have hf := order_flash (store_fact hs).2.1
  unfold readV addrB
  rw [hs, decide_eq_true h1, if_pos ⟨rfl, rfl⟩, lastMap_at hf a]
  split
  · rename_i h
    split at h
    · rename_i h0
      cases h
      rw [if_pos h0]
      rfl
    · cases h
  · rename_i h
    split at h
    · cases h
    · rename_i h0
      rw [if_neg h0]
theorem lastStep_addr (a : Int) : ∀ (ps : List S69) (r : S36), (0 < r.f1 → r.f2 = a) → 0 < (ps.foldl (lastStep a) r).f1 → (ps.foldl (lastStep a) r).f2 = a
  | [], r, h => h
  | p :: ps, r, h => by
    rw [List.foldl_cons]
    refine lastStep_addr a ps _ ?_
    unfold lastStep
    split
    · rename_i h1
      exact fun _ => h1.2.1
    · exact h
theorem lastA_addr {l : List Bl} (_ : flashOkB l = true) {a : Int} (h : (lastA l a).f1 > 0) : (lastA l a).f2 = a := lastStep_addr a _ _ (fun h => absurd h (by decide)) h
def flushC (fl : List Bl) (d : List Int) (a : Int) : Prop := storeOkB fl d = true ∧ (1 ≤ a ∧ a ≤ 6) ∧ (lastA fl a).f1 > 0 ∧ (lastA fl a).f0 = 1 ∧ stepsV fl 2 a (lastA fl a).f3 ≠ []
instance (fl : List Bl) (d : List Int) (a : Int) : Decidable (flushC fl d a) := by unfold flushC; exact inferInstance
def flushV (fl : List Bl) (d : List Int) (a : Int) : List St := if flushC fl d a then ⟨1, a, (lastA fl a).f3, 0, ⟨0, 0, 0, 0⟩⟩ :: stepsV fl 2 a (lastA fl a).f3 else []
theorem store_two {l0 : List Bl} {l1 : List Int} (hs : storeOkB l0 l1 = true) : l1.length = 6 ∧ flashOkB l0 = true := by
  unfold storeOkB at hs
  rw [Bool.and_eq_true, Bool.and_eq_true, decide_eq_true_eq] at hs
  exact ⟨by omega, order_flash hs.2.1⟩
theorem implFlush_ok (l0 : List Bl) (l1 : List Int) (a : Int) (k : Nat) (hk : 1000 < k) : impl_StepsFlush.f k l0 l1 a = some (flushV l0 l1 a) := by
  obtain ⟨k, rfl⟩ : ∃ m, k = m + 1 := ⟨k - 1, by omega⟩
  unfold impl_StepsFlush.f impl_StoreOk.f flushV
  rw [Option.bind_some]
  cases hs : storeOkB l0 l1 with
  | false => rw [if_neg (by simp), if_neg (fun h => by have := h.1; rw [hs] at this; cases this)]
  | true =>
    obtain ⟨h6, hf⟩ := store_two hs
    rw [if_pos rfl]
    by_cases ha : 1 ≤ a ∧ a ≤ 6
    · have hA : addrB a = true := by unfold addrB; exact decide_eq_true ha
      have hFL : impl_FindLast.f l0 a = some ((lastA l0 a).f0, (lastA l0 a).f1, (lastA l0 a).f2, (lastA l0 a).f3, decide ((lastA l0 a).f1 > 0)) := by
        unfold impl_FindLast.f
        rw [if_pos ⟨hA, hf⟩]
      rw [hFL]
      unfold impl_Rec_isDirty.f
      rw [Option.bind_some]
      dsimp only
      by_cases hg : (lastA l0 a).f1 > 0
      · rw [decide_eq_true hg, if_pos rfl, Option.bind_some]
        by_cases hd : (lastA l0 a).f0 = 1
        · have hd2 : ((lastA l0 a).f0 == 1) = true := by simp [hd]
          rw [hd2, impl_StepsFlush.j0, if_neg (by simp), implWrite_ok hf 2 a _ k (by omega), Option.bind_some]
          have hlen := stepsV_len hf 2 a (lastA l0 a).f3
          by_cases h0 : stepsV l0 2 a (lastA l0 a).f3 = []
          · rw [h0, if_pos (by simp), if_neg (fun h => h.2.2.2.2 h0)]
          · rw [if_pos (show flushC l0 l1 a from ⟨hs, ha, hg, hd, h0⟩)]
            generalize hT : stepsV l0 2 a (lastA l0 a).f3 = T at hlen h0
            have h0 : ¬ (T.length : Int) = 0 := fun h => h0 (List.eq_nil_of_length_eq_zero (by omega))
            have hz : (lastA l0 a).f2 = a := lastA_addr hf hg
            unfold impl_diskStep.f
            rw [if_neg h0, Option.bind_some]
            dsimp only
            rw [Option.bind_some, if_pos (by simp; omega), hz]
            rfl
        · have hd2 : ((lastA l0 a).f0 == 1) = false := by simp [hd]
          rw [hd2, impl_StepsFlush.j0, if_pos (show (!false) = true from rfl), if_neg (fun h => hd h.2.2.2.1)]
      · rw [decide_eq_false hg, if_neg (by simp), impl_StepsFlush.j0, if_pos rfl, if_neg (fun h => hg h.2.2.1)]
    · have hFL : impl_FindLast.f l0 a = some (0, 0, 0, 0, false) := by
        unfold impl_FindLast.f
        rw [if_neg (fun h => ha (of_decide_eq_true h.1))]
      rw [hFL, Option.bind_some]
      dsimp only
      rw [if_neg (by simp), impl_StepsFlush.j0, if_pos rfl, if_neg (fun h => ha h.2.1)]
theorem specFlush_ok (l0 : List Bl) (l1 : List Int) (a : Int) (k : Nat) (hk : 1000 < k) : spec_StepsFlush.f k l0 l1 a = some (flushV l0 l1 a) := by
  obtain ⟨k, rfl⟩ : ∃ m, k = m + 1 := ⟨k - 1, by omega⟩
  unfold spec_StepsFlush.f spec_l12Flush.f flushV
  rw [specStoreOk_ok l0 l1 (k + 1) (by omega), Option.bind_some, in6]
  cases hs : storeOkB l0 l1 with
  | false => rw [if_neg (by simp), if_neg (fun h => by have := h.1; rw [hs] at this; cases this)]
  | true =>
    obtain ⟨h6, hf⟩ := store_two hs
    rw [if_pos rfl, Option.bind_some]
    by_cases ha : 1 ≤ a ∧ a ≤ 6
    · rw [decide_eq_true ha, if_pos rfl]
      unfold spec_l11Dirty.f
      rw [l3Last_ok hf a (k + 1) (by omega), Option.bind_some]
      dsimp only
      by_cases hg : (lastA l0 a).f1 > 0
      · rw [decide_eq_true hg, if_pos rfl, Option.bind_some]
        by_cases hd : (lastA l0 a).f0 = 1
        · have hd2 : ((lastA l0 a).f0 == 1) = true := by simp [hd]
          have hr := l11Read_ok hf h6 a ha.1 ha.2 k (by omega)
          have hv : (match lastMap l0 a with
            | some r => r.2.2.2
            | none => rd l1 (a - 1)) = (lastA l0 a).f3 := by
            rw [lastMap_at hf a, if_pos hg]
            rfl
          rw [hv] at hr
          rw [hd2, spec_l12Flush.j0, if_neg (by simp), hr, Option.bind_some, specWrite_ok hf l1 2 a _ k (by omega), Option.bind_some]
          have hlen := stepsV_len hf 2 a (lastA l0 a).f3
          by_cases h0 : stepsV l0 2 a (lastA l0 a).f3 = []
          · rw [h0, if_pos (by simp), if_neg (fun h => h.2.2.2.2 h0)]
            rfl
          · rw [if_pos (show flushC l0 l1 a from ⟨hs, ha, hg, hd, h0⟩)]
            generalize hT : stepsV l0 2 a (lastA l0 a).f3 = T at hlen h0
            have h0 : ¬ (T.length : Int) = 0 := fun h => h0 (List.eq_nil_of_length_eq_zero (by omega))
            rw [if_neg h0, Option.bind_some, if_pos (by simp; omega)]
            rfl
        · have hd2 : ((lastA l0 a).f0 == 1) = false := by simp [hd]
          rw [hd2, spec_l12Flush.j0, if_pos (show (!false) = true from rfl), if_neg (fun h => hd h.2.2.2.1)]
          rfl
      · rw [decide_eq_false hg, if_neg (by simp), Option.bind_some, spec_l12Flush.j0, if_pos (show (!false) = true from rfl), if_neg (fun h => hg h.2.2.1)]
        rfl
    · rw [decide_eq_false ha, if_neg (by simp), spec_l12Flush.j0, if_pos rfl, if_neg (fun h => ha h.2.1)]
      rfl
theorem rec_two (n a v : Int) : recOkB 1 n a v = recOkB 2 n a v := by
  unfold recOkB
  rw [decide_eq_decide]
  omega
theorem steps_two (l : List Bl) (a v : Int) : (stepsV l 1 a v = [] ∧ stepsV l 2 a v = []) ∨ ∃ (pre : List St) (b : Int), stepsV l 1 a v = pre ++ [⟨3, 0, 0, b, ⟨1, nextV l, a, v⟩⟩] ∧ stepsV l 2 a v = pre ++ [⟨3, 0, 0, b, ⟨2, nextV l, a, v⟩⟩] := by
  unfold stepsV
  rw [rec_two]
  split
  · split
    · exact .inr ⟨[], _, rfl, rfl⟩
    · split
      · exact .inl ⟨rfl, rfl⟩
      · exact .inr ⟨_, _, rfl, rfl⟩
  · exact .inl ⟨rfl, rfl⟩
theorem rdS_r (xs : List St) (z : St) : rd_T38 (xs ++ [z]) ((xs.length : Nat) : Int) = z := by
  unfold rd_T38
  rw [Int.toNat_natCast, List.getD_eq_getElem?_getD, List.getElem?_append_right (Nat.le_refl _), Nat.sub_self]
  rfl
theorem steps_none {l : List Bl} {a v w : Int} (hv : 0 ≤ v ∧ v ≤ 9) (hw : 0 ≤ w ∧ w ≤ 9) (h : stepsV l 2 a v = []) : stepsV l 1 a w = [] := by
  have e : recOkB 1 (nextV l) a w = recOkB 2 (nextV l) a v := by
    unfold recOkB
    rw [decide_eq_decide]
    omega
  unfold stepsV at h ⊢
  rw [e]
  split
  · rename_i c
    rw [if_pos c] at h
    split
    · rename_i c2
      rw [if_pos c2] at h
      cases h
    · rename_i c2
      rw [if_neg c2] at h
      split
      · rfl
      · rename_i c3
        rw [if_neg c3] at h
        exact absurd h (by simp)
  · rfl
theorem dirty_mem (M : RecMap) (a : Int) : ∀ n : Nat, a ∈ dirtyN M n ↔ (1 ≤ a ∧ a ≤ (n : Int)) ∧ ∃ r, M a = some r ∧ r.1 = 1
  | 0 => by
    constructor
    · intro h
      cases h
    · intro h
      have := h.1
      omega
  | n + 1 => by
    rw [dirtyN, List.mem_append, dirty_mem M a n]
    by_cases ha : (n : Int) + 1 = a
    · rw [ha]
      constructor
      · rintro (h | h)
        · omega
        · refine ⟨by omega, ?_⟩
          cases hM : M a with
          | none =>
            rw [hM] at h
            cases h
          | some r =>
            rw [hM] at h
            refine ⟨r, rfl, ?_⟩
            by_cases h1 : r.1 = 1
            · exact h1
            · replace h : a ∈ (if r.1 = 1 then [a] else []) := h
              rw [if_neg h1] at h
              cases h
      · rintro ⟨_, r, hM, h1⟩
        right
        rw [hM]
        show a ∈ (if r.1 = 1 then [a] else [])
        rw [if_pos h1]
        exact List.mem_singleton.2 rfl
    · constructor
      · rintro (h | h)
        · exact ⟨by omega, h.2⟩
        · exfalso
          cases hM : M ((n : Int) + 1) with
          | none =>
            rw [hM] at h
            cases h
          | some r =>
            rw [hM] at h
            by_cases h1 : r.1 = 1
            · replace h : a ∈ (if r.1 = 1 then [(n : Int) + 1] else []) := h
              rw [if_pos h1] at h
              exact ha (List.mem_singleton.1 h).symm
            · replace h : a ∈ (if r.1 = 1 then [(n : Int) + 1] else []) := h
              rw [if_neg h1] at h
              cases h
      · rintro ⟨h1, h2⟩
        exact .inl ⟨by omega, h2⟩
theorem fs_loop (a n : Int) (T : List St) (D : List Int) (fl : List Bl) (d : List Int) (hl : D.length ≤ 6) (K : Nat) : ∀ (m i : Nat) (b : Bool), i + m = D.length → laws_FnFlushSteps.l0 (K + m + 1) a T n b D (i : Int) fl d = laws_FnFlushSteps.l0 (K + 1) a T n (b || (D.drop i).any (· == a)) D (D.length : Int) fl d
  | 0, i, b, h => by
    rw [show i = D.length by omega, List.drop_length, List.any_nil, Bool.or_false]
  | m + 1, i, b, h => by
    have hd : D.drop i = rd D (i : Int) :: D.drop (i + 1) := by
      rw [List.drop_eq_getElem_cons (by omega)]
      simp [rd, List.getD_eq_getElem?_getD, show i < D.length by omega]
    rw [laws_FnFlushSteps.l0, if_pos (by omega), w64_up (by omega : i < 7) (by omega), hd, List.any_cons]
    cases b with
    | true =>
      rw [if_pos rfl]
      have := fs_loop a n T D fl d hl K m (i + 1) true (by omega)
      rw [Bool.true_or] at this ⊢
      exact this
    | false =>
      rw [if_neg (by decide), if_pos (by omega)]
      have := fs_loop a n T D fl d hl K m (i + 1) (rd D (i : Int) == a) (by omega)
      rw [Bool.false_or]
      exact this
theorem FnFlushSteps : laws_FnFlushSteps.Pure := by
  intro l0 _ _ hw
  refine ⟨1030, ?_⟩
  obtain ⟨fl, d, a, eD⟩ := draw_ok (bytes_of hw) 1030 (by omega)
  unfold laws_FnFlushSteps.f
  split
  · rfl
  rw [eD]
  simp only [Option.bind_some]
  rw [implFlush_ok fl d a _ (by omega), Option.bind_some, specFlush_ok fl d a _ (by omega), Option.bind_some, if_pos rfl, specStoreOk_ok fl d _ (by omega), Option.bind_some]
  cases hs : storeOkB fl d with
  | false => rw [laws_FnFlushSteps.j0, if_pos (by decide), specFlush_ok fl d a _ (by omega), Option.bind_some, beq_self_eq_true]
  | true =>
    obtain ⟨h6, hf⟩ := store_two hs
    have hDl := dirtyV_len fl d
    have hdirty : dirtyV fl d = dirtyN (lastMap fl) 6 := by
      unfold dirtyV
      rw [if_pos hs]
    have hmem : (dirtyV fl d).any (· == a) = true ↔ (1 ≤ a ∧ a ≤ 6) ∧ (lastA fl a).f1 > 0 ∧ (lastA fl a).f0 = 1 := by
      rw [List.any_eq_true, hdirty]
      have h1 := dirty_mem (lastMap fl) a 6
      have h2 := lastMap_at hf a
      constructor
      · rintro ⟨x, hx, e⟩
        obtain rfl := beq_iff_eq.1 e
        obtain ⟨g1, r, g2, g3⟩ := h1.1 hx
        rw [h2] at g2
        split at g2
        · rename_i g4
          cases g2
          exact ⟨by omega, g4, g3⟩
        · cases g2
      · rintro ⟨g1, g2, g3⟩
        refine ⟨a, h1.2 ⟨by omega, recOf (lastA fl a), ?_, g3⟩, beq_self_eq_true _⟩
        rw [h2, if_pos g2]
    have hloop := fs_loop a ((flushV fl d a).length : Int) (flushV fl d a) (dirtyV fl d) fl d hDl (1028 - (dirtyV fl d).length) (dirtyV fl d).length 0 false (by omega)
    rw [show 1028 - (dirtyV fl d).length + (dirtyV fl d).length + 1 = 1029 by omega, Bool.false_or, List.drop_zero] at hloop
    have hloop : laws_FnFlushSteps.l0 1029 a (flushV fl d a) ((flushV fl d a).length : Int) false (dirtyV fl d) 0 fl d = _ := hloop
    rw [laws_FnFlushSteps.j0, if_neg (by decide)]
    unfold impl_StoreDirty.f
    rw [Option.bind_some, hloop, laws_FnFlushSteps.l0, if_neg (by omega)]
    by_cases hC : flushC fl d a
    · have hV : flushV fl d a = ⟨1, a, (lastA fl a).f3, 0, ⟨0, 0, 0, 0⟩⟩ :: stepsV fl 2 a (lastA fl a).f3 := if_pos hC
      obtain ⟨-, ha, hg, hk, hne⟩ := hC
      have hlen := stepsV_len hf 2 a (lastA fl a).f3
      rcases steps_two fl a (lastA fl a).f3 with ⟨-, h⟩ | ⟨pre, b, -, e2⟩
      · exact absurd h hne
      have hL : (((flushV fl d a).length : Nat) : Int) = (pre.length : Int) + 2 := by
        rw [hV, e2, List.length_cons, List.length_append]
        simp only [List.length_cons, List.length_nil]
        omega
      have hlast : rd_T38 (flushV fl d a) ((pre.length : Int) + 1) = ⟨3, 0, 0, b, ⟨2, nextV fl, a, (lastA fl a).f3⟩⟩ := by
        rw [hV, e2]
        exact rdS_r pre _
      have hfirst : rd_T38 (flushV fl d a) 0 = ⟨1, a, (lastA fl a).f3, 0, ⟨0, 0, 0, 0⟩⟩ := by rw [hV]; rfl
      rw [e2, List.length_append] at hlen
      simp only [List.length_cons, List.length_nil] at hlen
      rw [hL, if_neg (by omega), hmem.2 ⟨ha, hg, hk⟩]
      unfold impl_StoreRead.f
      rw [Option.bind_some, read_eq hs ha, if_pos hg, wrap64_in _ (by omega), show (pre.length : Int) + 2 - 1 = (pre.length : Int) + 1 by omega, if_pos (by omega), if_pos (by omega), if_pos rfl, if_pos (by omega), hfirst, hlast]
      simp only [beq_self_eq_true, Bool.and_self]
      rfl
    · have hV : flushV fl d a = [] := if_neg hC
      rw [hV, if_pos (show (([] : List St).length : Int) = 0 from rfl)]
      cases hm : (dirtyV fl d).any (· == a) with
      | false => rw [if_neg (by decide)]
      | true =>
        obtain ⟨ha, hg, hk⟩ := hmem.1 hm
        have hnil : stepsV fl 2 a (lastA fl a).f3 = [] := Classical.byContradiction fun h => hC ⟨hs, ha, hg, hk, h⟩
        obtain ⟨i, j, hi, hj, hon, he⟩ := lastA_at hf hg
        have hpk := pg_ok hf hi hj
        unfold pageB at hpk
        rw [if_pos hon.1, he] at hpk
        unfold recOkB at hpk
        rw [decide_eq_true_eq] at hpk
        have hP : putV fl d a 1 = [] := by
          unfold putV
          rw [if_pos hs]
          exact steps_none (v := (lastA fl a).f3) (by omega) (by omega) hnil
        rw [if_pos rfl, implPut_ok fl d a 1 _ (by omega), Option.bind_some, hP]
        rfl
end Go.Proofs.Ytbhchamohldehaa.Pure
