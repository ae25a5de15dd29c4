/- What is written on an open block is read, and nothing else has changed, in plain Lean: of a store that is drawn. -/
import Derived.Test.YtghmnlcmhpdcaaaR516
import Derived.IntWalk
import Derived.Laws.BitsAllLaws
namespace Go.Proofs.Ytghmnlcmhpdcaaa.Pure
open Go.RowKit Go.IntWalk Go.Proofs.Ytghmnlcmhpdcaaa.R5 Go.Proofs.YtghmnlcmhpdcaaaW Go.Proofs.YtghmnlcmhpdcaaaW.PrintWords Go.Proofs.YtghmnlcmhpdcaaaW.PrintLast Go.Proofs.YtghmnlcmhpdcaaaW.PrintMore
abbrev DB := S54
abbrev DP := S63
abbrev DS := S107
def okPg (p : DP) : Prop := p.f0 = 1 → 1 ≤ p.f1.f2 ∧ p.f1.f2 ≤ 6
def okBl (b : DB) : Prop := b.f0.length = 4 ∧ ∀ p ∈ b.f0, okPg p
def okFl (fl : List DB) : Prop := fl.length = 4 ∧ ∀ b ∈ fl, okBl b
def okSt (x : DS) : Prop := (x.f0 = 1 → 1 ≤ x.f1 ∧ x.f1 ≤ 6) ∧ (x.f0 = 2 ∨ x.f0 = 3 → 0 ≤ x.f3 ∧ x.f3 < 4) ∧ (x.f0 = 3 → 1 ≤ x.f4.f2 ∧ x.f4.f2 ≤ 6)
theorem rdB_in {fl : List DB} {i : Int} (h0 : 0 ≤ i) (h : i < (fl.length : Int)) : rd_T54 fl i ∈ fl := by
  unfold rd_T54
  rw [List.getD_eq_getElem?_getD, List.getElem?_eq_getElem (by omega : i.toNat < fl.length)]
  exact List.getElem_mem _
theorem rdP_in {ps : List DP} {i : Int} (h0 : 0 ≤ i) (h : i < (ps.length : Int)) : rd_T63 ps i ∈ ps := by
  unfold rd_T63
  rw [List.getD_eq_getElem?_getD, List.getElem?_eq_getElem (by omega : i.toNat < ps.length)]
  exact List.getElem_mem _
theorem rdS_in {xs : List DS} {i : Int} (h0 : 0 ≤ i) (h : i < (xs.length : Int)) : rd_T107 xs i ∈ xs := by
  unfold rd_T107
  rw [List.getD_eq_getElem?_getD, List.getElem?_eq_getElem (by omega : i.toNat < xs.length)]
  exact List.getElem_mem _
theorem flAt {fl : List DB} (h : okFl fl) {i : Int} (h0 : 0 ≤ i) (h1 : i < 4) : okBl (rd_T54 fl i) := h.2 _ (rdB_in h0 (by rw [h.1]; exact h1))
theorem okSet {fl : List DB} (h : okFl fl) (n : Nat) {b : DB} (hb : okBl b) : okFl (fl.set n b) := ⟨by rw [List.length_set]; exact h.1, fun x hx => by
  rcases List.mem_or_eq_of_mem_set hx with hx | rfl
  · exact h.2 _ hx
  · exact hb⟩
theorem okSetP {b : DB} (h : okBl b) (n : Nat) {p : DP} (hp : okPg p) (w : Int) : okBl ⟨b.f0.set n p, w⟩ := ⟨by show (b.f0.set n p).length = 4; rw [List.length_set]; exact h.1, fun x hx => by
  rcases List.mem_or_eq_of_mem_set hx with hx | rfl
  · exact h.2 _ hx
  · exact hp⟩
theorem upN (i : Nat) (h : i < 100000) : wrap64 ((i : Int) + 1) = ((i + 1 : Nat) : Int) := by
  rw [wrap64_in _ (by omega)]
  omega
theorem l6In_t (n a b : Int) : spec_l6In.f n a b = some (decide (a ≤ n ∧ n ≤ b)) := by
  unfold spec_l6In.f
  by_cases h : n ≥ a
  · rw [if_pos h]
    exact congrArg some (decide_eq_decide.2 ⟨fun h2 => ⟨h, h2⟩, fun h2 => h2.2⟩)
  · rw [if_neg h]
    exact congrArg some (decide_eq_false (fun h2 => h h2.1)).symm
theorem recOk_t (a b c d : Int) : ∃ r, spec_RecOk.f a b c d = some r ∧ (r = true → 1 ≤ c ∧ c ≤ 6) := by
  unfold spec_RecOk.f
  rw [l6In_t, l6In_t, l6In_t, l6In_t]
  simp only [Option.bind_some]
  by_cases h1 : (1 : Int) ≤ a ∧ a ≤ 2
  · rw [if_pos (decide_eq_true h1)]
    by_cases h2 : (1 : Int) ≤ b ∧ b ≤ 600
    · rw [if_pos (decide_eq_true h2)]
      by_cases h3 : (1 : Int) ≤ c ∧ c ≤ 6
      · rw [if_pos (decide_eq_true h3)]
        exact ⟨_, rfl, fun _ => h3⟩
      · rw [if_neg (by simpa using h3)]
        exact ⟨_, rfl, fun h => by cases h⟩
    · rw [if_neg (by simpa using h2)]
      exact ⟨_, rfl, fun h => by cases h⟩
  · rw [if_neg (by simpa using h1)]
    exact ⟨_, rfl, fun h => by cases h⟩
theorem cleanL (ps : List DP) (hl : ps.length = 4) (w : Int) (K : Nat) : ∀ (n i m : Nat), i + n = 4 → m ≤ i → ∃ r : Nat, r ≤ 4 ∧ spec_l2Clean.l0 (K + n + 1) (m : Int) (i : Int) ps w = some (r : Int)
  | 0, i, m, h, hm => ⟨m, by omega, by rw [spec_l2Clean.l0, if_neg (by omega)]⟩
  | n + 1, i, m, h, hm => by
    obtain ⟨r1, a1, e1⟩ := cleanL ps hl w K n (i + 1) (m + 1) (by omega) (by omega)
    obtain ⟨r2, a2, e2⟩ := cleanL ps hl w K n (i + 1) m (by omega) (by omega)
    rw [show K + (n + 1) + 1 = (K + n + 1) + 1 from rfl, spec_l2Clean.l0, if_pos (by omega), if_pos (by omega), upN i (by omega), upN m (by omega), e1, e2]
    split
    · exact ⟨r1, a1, rfl⟩
    · exact ⟨r2, a2, rfl⟩
theorem cleanF (ps : List DP) (hl : ps.length = 4) (w : Int) (k : Nat) (hk : 5 ≤ k) : ∃ r : Nat, r ≤ 4 ∧ spec_l2Clean.f k ps w = some (r : Int) := by
  have h := cleanL ps hl w (k - 5) 4 0 0 (by omega) (by omega)
  rw [show k - 5 + 4 + 1 = k by omega] at h
  exact h
theorem seqIn (fl : List DB) (s : Int) (i : Nat) (hi : i < fl.length) (hp : (rd_T54 fl (i : Int)).f0.length = 4) (K : Nat) (h0 : ∃ b, spec_l2Seq.l0 K fl s ((i + 1 : Nat) : Int) = some b) (hi2 : i < 1000) : ∀ (n j : Nat), j + n = 4 → ∃ b, spec_l2Seq.l1 (K + n + 1) fl s (i : Int) (j : Int) = some b
  | 0, j, h => by
    obtain ⟨b, e⟩ := h0
    rw [spec_l2Seq.l1, if_pos (by omega), if_pos (by omega), if_neg (by omega), upN i (by omega)]
    exact ⟨b, e⟩
  | n + 1, j, h => by
    obtain ⟨b, e⟩ := seqIn fl s i hi hp K h0 hi2 n (j + 1) (by omega)
    rw [show K + (n + 1) + 1 = (K + n + 1) + 1 from rfl, spec_l2Seq.l1, if_pos (by omega), if_pos (by omega), if_pos (by omega), if_pos (by omega), upN j (by omega), e]
    split
    · split
      · exact ⟨_, rfl⟩
      · exact ⟨_, rfl⟩
    · exact ⟨_, rfl⟩
theorem seqOut (fl : List DB) (s : Int) (h : okFl fl) : ∀ (n i K : Nat), i + n = 4 → ∃ b, spec_l2Seq.l0 (K + n * 6 + 1) fl s (i : Int) = some b
  | 0, i, K, hi => ⟨false, by rw [spec_l2Seq.l0, if_neg (by rw [h.1]; omega)]⟩
  | n + 1, i, K, hi => by
    have ih := seqOut fl s h n (i + 1) K (by omega)
    rw [spec_l2Seq.l0, if_pos (by rw [h.1]; omega), show K + (n + 1) * 6 = (K + n * 6 + 1) + 4 + 1 by omega]
    exact seqIn fl s i (by rw [h.1]; omega) (flAt h (by omega) (by omega)).1 (K + n * 6 + 1) ih (by omega) 4 0 (by omega)
theorem seqF {fl : List DB} (s : Int) (h : okFl fl) (k : Nat) (hk : 25 ≤ k) : ∃ b, spec_l2Seq.f k fl s = some b := by
  have h1 := seqOut fl s h 4 0 (k - 25) (by omega)
  rw [show k - 25 + 4 * 6 + 1 = k by omega] at h1
  exact h1
theorem writeF {fl : List DB} (h : okFl fl) {b : Int} (hb0 : 0 ≤ b) (hb1 : b < 4) (r0 r1 r2 r3 : Int) (hr : 1 ≤ r2 ∧ r2 ≤ 6) (t : Bool) (k : Nat) (hk : 30 ≤ k) : ∃ fl' o, spec_l2Write.f k fl b r0 r1 r2 r3 t = some (fl', o) ∧ okFl fl' := by
  obtain ⟨k, rfl⟩ : ∃ j, k = j + 1 := ⟨k - 1, by omega⟩
  have hB := flAt h hb0 hb1
  have hlen : b < (fl.length : Int) := by rw [h.1]; exact hb1
  obtain ⟨n, hn, e1⟩ := cleanF (rd_T54 fl b).f0 hB.1 (rd_T54 fl b).f1 (k + 1) (by omega)
  obtain ⟨u, e2⟩ := seqF r1 h (k + 1) (by omega)
  unfold spec_l2Write.f
  rw [if_pos hb0, if_pos hlen, e1, e2]
  simp only [Option.bind_some]
  by_cases hz : (n : Int) = 0
  · rw [if_pos hz, spec_l2Write.j0, if_pos rfl]
    exact ⟨_, _, rfl, h⟩
  · have e3 : wrap64 (4 - (n : Int)) = 4 - (n : Int) := wrap64_in _ (by omega)
    rw [if_neg hz, spec_l2Write.j0, e3]
    cases u with
    | true =>
      rw [if_pos rfl]
      exact ⟨_, _, rfl, h⟩
    | false =>
      rw [if_neg (by simp)]
      cases t with
      | true =>
        rw [if_pos rfl, if_pos hb0, if_pos hlen, if_pos (by omega), if_pos (by rw [hB.1]; omega)]
        exact ⟨_, _, rfl, okSet h _ (okSetP hB _ (fun hq => absurd hq (by show ¬ (2 : Int) = 1; decide)) _)⟩
      | false =>
        rw [if_neg (by simp), if_pos hb0, if_pos hlen, if_pos (by omega), if_pos (by rw [hB.1]; omega)]
        exact ⟨_, _, rfl, okSet h _ (okSetP hB _ (fun _ => hr) _)⟩
theorem wipeL {b s : Int} (hb0 : 0 ≤ b) (hb1 : b < 4) (hs : s ≠ 1) (K : Nat) : ∀ (n i : Nat) (fl : List DB), okFl fl → i + n = 4 → ∃ fl' o, spec_l2Wipe.l0 (K + n + 1) fl b s (i : Int) = some (fl', o) ∧ okFl fl'
  | 0, i, fl, h, hi => ⟨fl, true, by rw [spec_l2Wipe.l0, if_neg (by omega)], h⟩
  | n + 1, i, fl, h, hi => by
    have hB := flAt h hb0 hb1
    rw [show K + (n + 1) + 1 = (K + n + 1) + 1 from rfl, spec_l2Wipe.l0, if_pos (by omega), if_pos hb0, if_pos (by rw [h.1]; exact hb1), if_pos (by omega), if_pos (by rw [hB.1]; omega), upN i (by omega)]
    exact wipeL hb0 hb1 hs K n (i + 1) _ (okSet h _ (okSetP hB _ (fun hq => absurd hq hs) _)) (by omega)
theorem wipeF {fl : List DB} (h : okFl fl) {b : Int} (hb0 : 0 ≤ b) (hb1 : b < 4) (t : Bool) (k : Nat) (hk : 10 ≤ k) : ∃ fl' o, spec_l2Wipe.f k fl b t = some (fl', o) ∧ okFl fl' := by
  obtain ⟨k, rfl⟩ : ∃ j, k = j + 1 := ⟨k - 1, by omega⟩
  have hB := flAt h hb0 hb1
  unfold spec_l2Wipe.f
  rw [if_pos hb0, if_pos (by rw [h.1]; exact hb1)]
  by_cases hw : (rd_T54 fl b).f1 ≥ 200
  · rw [if_pos hw]
    exact ⟨_, _, rfl, h⟩
  · rw [if_neg hw]
    simp only [Option.bind_some]
    have h2 : okFl (fl.set b.toNat (⟨(rd_T54 fl b).f0, wrap64 ((rd_T54 fl b).f1 + 1)⟩ : DB)) := okSet h _ ⟨hB.1, hB.2⟩
    have q := fun s (hs : s ≠ 1) => wipeL (s := s) hb0 hb1 hs (k - 5) 4 0 _ h2 (by omega)
    rw [show k - 5 + 4 + 1 = k by omega] at q
    cases t with
    | true =>
      rw [if_pos rfl, spec_l2Wipe.j0]
      exact q 2 (by decide)
    | false =>
      rw [if_neg (by simp), spec_l2Wipe.j0]
      exact q 0 (by decide)
theorem mostL (ps : List DP) (hl : ps.length = 4) (w : Int) (K : Nat) : ∀ (n i : Nat) (m : Int), i + n = 4 → ∃ r, spec_l3Most.l0 (K + n + 1) m (i : Int) ps w = some r
  | 0, i, m, h => ⟨m, by rw [spec_l3Most.l0, if_neg (by omega)]⟩
  | n + 1, i, m, h => by
    rw [show K + (n + 1) + 1 = (K + n + 1) + 1 from rfl, spec_l3Most.l0, if_pos (by omega), if_pos (by omega), upN i (by omega)]
    exact mostL ps hl w K n (i + 1) _ (by omega)
theorem mostF (ps : List DP) (hl : ps.length = 4) (w : Int) (k : Nat) (hk : 5 ≤ k) : ∃ r, spec_l3Most.f k ps w = some r := by
  have h := mostL ps hl w (k - 5) 4 0 0 (by omega)
  rw [show k - 5 + 4 + 1 = k by omega] at h
  exact h
theorem nextL {fl : List DB} (h : okFl fl) (K : Nat) (hK : 5 ≤ K) : ∀ (n i : Nat) (m : Int), i + n = 4 → ∃ r, spec_l3Next.l0 (K + n + 1) fl m (i : Int) = some r
  | 0, i, m, hi => ⟨_, by rw [spec_l3Next.l0, if_neg (by rw [h.1]; omega)]⟩
  | n + 1, i, m, hi => by
    obtain ⟨r, e⟩ := mostF _ (flAt h (show (0 : Int) ≤ i by omega) (show (i : Int) < 4 by omega)).1 (rd_T54 fl (i : Int)).f1 (K + n + 1) (by omega)
    rw [show K + (n + 1) + 1 = (K + n + 1) + 1 from rfl, spec_l3Next.l0, if_pos (by rw [h.1]; omega), if_pos (by omega), e, Option.bind_some, upN i (by omega)]
    exact nextL h K hK n (i + 1) _ (by omega)
theorem nextF {fl : List DB} (h : okFl fl) (k : Nat) (hk : 10 ≤ k) : ∃ r, spec_l3Next.f k fl = some r := by
  have h1 := nextL h (k - 5) (by omega) 4 0 0 (by omega)
  rw [show k - 5 + 4 + 1 = k by omega] at h1
  exact h1
theorem mx0 {o : Int} (h1 : o < 4) : 0 ≤ mx o 0 ∧ mx o 0 < 4 := by
  unfold mx
  split <;> omega
theorem openL {fl : List DB} (h : okFl fl) (K : Nat) (hK : 5 ≤ K) : ∀ (n i : Nat) (o : Int), i + n = 4 → -1 ≤ o → o < 4 → ∃ a c, spec_l3Open.l0 (K + 2 * n + 1) fl o (i : Int) = some (a, c) ∧ 0 ≤ a ∧ a < 4
  | 0, i, o, hi, h1, h2 => by
    rw [spec_l3Open.l0, if_neg (by rw [h.1]; omega)]
    exact ⟨_, _, rfl, mx0 h2⟩
  | n + 1, i, o, hi, h1, h2 => by
    obtain ⟨r, hr, e⟩ := cleanF _ (flAt h (show (0 : Int) ≤ i by omega) (show (i : Int) < 4 by omega)).1 (rd_T54 fl (i : Int)).f1 (K + 2 * n + 1 + 1) (by omega)
    have ih := fun o a b => openL h K hK n (i + 1) o (by omega) a b
    have hl : (i : Int) < (fl.length : Int) := by rw [h.1]; omega
    rw [show K + 2 * (n + 1) + 1 = (K + 2 * n + 1 + 1) + 1 by omega, spec_l3Open.l0, if_pos hl, if_pos (by omega), e]
    simp only [Option.bind_some]
    have J : ∀ c : Bool, ∃ a c', spec_l3Open.j1 (K + 2 * n + 1 + 1) fl o (i : Int) (r : Int) c = some (a, c') ∧ 0 ≤ a ∧ a < 4 := by
      intro c
      rw [spec_l3Open.j1, upN i (by omega)]
      cases c with
      | true =>
        rw [if_pos rfl]
        exact ⟨_, _, rfl, by omega, by omega⟩
      | false =>
        rw [if_neg (by simp)]
        by_cases c1 : (r : Int) > 0
        · rw [if_pos c1]
          by_cases c2 : o < 0
          · rw [if_pos c2]
            exact ih _ (by omega) (by omega)
          · rw [if_neg c2, if_pos (by omega), if_pos hl, if_pos (by omega), if_pos (by rw [h.1]; omega)]
            split
            · exact ih _ (by omega) (by omega)
            · exact ih _ (by omega) (by omega)
        · rw [if_neg c1]
          exact ih _ (by omega) (by omega)
    split
    · exact J _
    · exact J _
theorem openF {fl : List DB} (h : okFl fl) (k : Nat) (hk : 20 ≤ k) : ∃ a c, spec_l3Open.f k fl = some (a, c) ∧ 0 ≤ a ∧ a < 4 := by
  have h1 := openL h (k - 9) (by omega) 4 0 (-1) (by omega) (by omega) (by omega)
  rw [show k - 9 + 2 * 4 + 1 = k by omega] at h1
  exact h1
theorem oldL {fl : List DB} (h : okFl fl) (K : Nat) (hK : 5 ≤ K) : ∀ (n i : Nat) (o : Int), i + n = 4 → 0 ≤ o → o < 4 → ∃ a, spec_l3Old.l0 (K + n + 1) fl o (i : Int) = some a ∧ 0 ≤ a ∧ a < 4
  | 0, i, o, hi, h1, h2 => ⟨o, by rw [spec_l3Old.l0, if_neg (by rw [h.1]; omega)], h1, h2⟩
  | n + 1, i, o, hi, h1, h2 => by
    obtain ⟨r, e⟩ := mostF _ (flAt h (show (0 : Int) ≤ i by omega) (show (i : Int) < 4 by omega)).1 (rd_T54 fl (i : Int)).f1 (K + n + 1) (by omega)
    obtain ⟨r2, e2⟩ := mostF _ (flAt h h1 h2).1 (rd_T54 fl o).f1 (K + n + 1) (by omega)
    have ih := fun o a b => oldL h K hK n (i + 1) o (by omega) a b
    rw [show K + (n + 1) + 1 = (K + n + 1) + 1 from rfl, spec_l3Old.l0, if_pos (by rw [h.1]; omega), if_pos (by omega), e, Option.bind_some, if_pos h1, if_pos (by rw [h.1]; exact h2), e2, Option.bind_some, upN i (by omega)]
    split
    · exact ih _ (by omega) (by omega)
    · exact ih _ h1 h2
theorem oldF {fl : List DB} (h : okFl fl) (k : Nat) (hk : 10 ≤ k) : ∃ a, spec_l3Old.f k fl = some a ∧ 0 ≤ a ∧ a < 4 := by
  have h1 := oldL h (k - 4) (by omega) 3 1 0 (by omega) (by omega) (by omega)
  rw [show k - 4 + 3 + 1 = k by omega] at h1
  exact h1
theorem lastIn (fl : List DB) (s : Int) (i : Nat) (hi : i < fl.length) (hp : (rd_T54 fl (i : Int)).f0.length = 4) (K : Nat) (h0 : ∀ r0 r1 r2 r3, ∃ a b c d e, spec_l3Last.l0 K fl s ((i + 1 : Nat) : Int) r0 r1 r2 r3 = some (a, b, c, d, e)) (hi2 : i < 1000) : ∀ (n j : Nat) (r0 r1 r2 r3 : Int), j + n = 4 → ∃ a b c d e, spec_l3Last.l1 (K + n + 1) fl s (i : Int) (j : Int) r0 r1 r2 r3 = some (a, b, c, d, e)
  | 0, j, r0, r1, r2, r3, h => by
    rw [spec_l3Last.l1, if_pos (by omega), if_pos (by omega), if_neg (by omega), upN i (by omega)]
    exact h0 _ _ _ _
  | n + 1, j, r0, r1, r2, r3, h => by
    have ih := fun r0 r1 r2 r3 => lastIn fl s i hi hp K h0 hi2 n (j + 1) r0 r1 r2 r3 (by omega)
    rw [show K + (n + 1) + 1 = (K + n + 1) + 1 from rfl, spec_l3Last.l1, if_pos (by omega), if_pos (by omega), if_pos (by omega), if_pos (by omega), upN j (by omega)]
    split
    · split
      · split
        · exact ih _ _ _ _
        · exact ih _ _ _ _
      · exact ih _ _ _ _
    · exact ih _ _ _ _
theorem lastOut (fl : List DB) (s : Int) (h : okFl fl) : ∀ (n i K : Nat) (r0 r1 r2 r3 : Int), i + n = 4 → ∃ a b c d e, spec_l3Last.l0 (K + n * 6 + 1) fl s (i : Int) r0 r1 r2 r3 = some (a, b, c, d, e)
  | 0, i, K, r0, r1, r2, r3, hi => ⟨_, _, _, _, _, by rw [spec_l3Last.l0, if_neg (by rw [h.1]; omega)]⟩
  | n + 1, i, K, r0, r1, r2, r3, hi => by
    have ih := fun r0 r1 r2 r3 => lastOut fl s h n (i + 1) K r0 r1 r2 r3 (by omega)
    rw [spec_l3Last.l0, if_pos (by rw [h.1]; omega), show K + (n + 1) * 6 = (K + n * 6 + 1) + 4 + 1 by omega]
    exact lastIn fl s i (by rw [h.1]; omega) (flAt h (by omega) (by omega)).1 (K + n * 6 + 1) ih (by omega) 4 0 _ _ _ _ (by omega)
theorem lastF {fl : List DB} (s : Int) (h : okFl fl) (k : Nat) (hk : 25 ≤ k) : ∃ a b c d e, spec_l3Last.f k fl s = some (a, b, c, d, e) := by
  have h1 := lastOut fl s h 4 0 (k - 25) 0 0 0 0 (by omega)
  rw [show k - 25 + 4 * 6 + 1 = k by omega] at h1
  exact h1
theorem liveF {fl : List DB} (h : okFl fl) (s r0 r1 r2 r3 : Int) (k : Nat) (hk : 25 ≤ k) : ∃ b, spec_l3Live.f k fl s r0 r1 r2 r3 = some b ∧ (b = true → s = 1) := by
  unfold spec_l3Live.f
  by_cases hs : s = 1
  · rw [if_pos hs]
    obtain ⟨a, b, c, d, e, q⟩ := lastF r2 h k hk
    rw [q, Option.bind_some]
    exact ⟨_, rfl, fun _ => hs⟩
  · rw [if_neg hs]
    exact ⟨_, rfl, fun h => by cases h⟩
def okSts (xs : List DS) (n : Nat) : Prop := (∀ x ∈ xs, okSt x) ∧ xs.length ≤ n
theorem nilSts (n : Nat) : okSts [] n := ⟨fun x hx => (by cases hx), Nat.zero_le _⟩
theorem okSts_add {xs : List DS} {n : Nat} (h : okSts xs n) {x : DS} (hx : okSt x) : okSts (xs ++ [x]) (n + 1) := ⟨fun y hy => by
  rcases List.mem_append.1 hy with hy | hy
  · exact h.1 _ hy
  · rw [List.mem_singleton] at hy
    rw [hy]
    exact hx, by rw [List.length_append, List.length_singleton]; have := h.2; omega⟩
theorem okSts_mono {xs : List DS} {n m : Nat} (h : okSts xs n) (hm : n ≤ m) : okSts xs m := ⟨h.1, by have := h.2; omega⟩
theorem roomL {fl : List DB} (h : okFl fl) (d : List Int) {o : Int} (ho0 : 0 ≤ o) (ho1 : o < 4) (K : Nat) (hK : 25 ≤ K) : ∀ (n i : Nat) (out : List DS), i + n = 4 → okSts out i → ∃ xs c, spec_l12Room.l0 (K + n + 1) out o (i : Int) fl d = some (xs, o, c) ∧ okSts xs 5
  | 0, i, out, hi, hs => by
    have h2 := hs.2
    rw [spec_l12Room.l0, if_neg (by omega), if_pos (by omega), if_pos ho0, if_pos (by rw [h.1]; exact ho1)]
    exact ⟨_, _, rfl, okSts_mono (okSts_add hs ⟨fun hq => absurd hq (by show ¬ (2 : Int) = 1; decide), fun _ => ⟨ho0, ho1⟩, fun hq => absurd hq (by show ¬ (2 : Int) = 3; decide)⟩) (by omega)⟩
  | n + 1, i, out, hi, hs => by
    have h2 := hs.2
    have hB := flAt h ho0 ho1
    have ih := fun out (hs : okSts out (i + 1)) => roomL h d ho0 ho1 K hK n (i + 1) out (by omega) hs
    generalize hq : rd_T63 (rd_T54 fl o).f0 (i : Int) = p
    have hpg : okPg p := by
      rw [← hq]
      exact hB.2 _ (rdP_in (by omega) (by rw [hB.1]; omega))
    obtain ⟨b, e, hb⟩ := liveF h p.f0 p.f1.f0 p.f1.f1 p.f1.f2 p.f1.f3 (K + n + 1) (by omega)
    rw [show K + (n + 1) + 1 = (K + n + 1) + 1 from rfl, spec_l12Room.l0, hq, if_pos (by omega), if_pos ho0, if_pos (by rw [h.1]; exact ho1), if_pos (by omega), if_pos (by rw [hB.1]; omega), e, Option.bind_some, upN i (by omega)]
    cases b with
    | false =>
      rw [if_neg (by simp)]
      exact ih _ (okSts_mono hs (by omega))
    | true =>
      rw [if_pos rfl]
      split
      · rw [if_pos (by omega)]
        exact ih _ (okSts_add hs ⟨fun _ => hpg (hb rfl), fun hq => by rcases hq with hq | hq <;> exact absurd hq (by simp), fun hq => absurd hq (by show ¬ (1 : Int) = 3; decide)⟩)
      · exact ih _ (okSts_mono hs (by omega))
theorem roomF {fl : List DB} (h : okFl fl) (d : List Int) (k : Nat) (hk : 40 ≤ k) : ∃ xs b c, spec_l12Room.f k fl d = some (xs, b, c) ∧ okSts xs 5 ∧ 0 ≤ b ∧ b < 4 := by
  obtain ⟨a, c, e, ha0, ha1⟩ := openF h k (by omega)
  obtain ⟨o, e2, ho0, ho1⟩ := oldF h k (by omega)
  unfold spec_l12Room.f
  rw [e, e2]
  simp only [Option.bind_some]
  cases c with
  | true =>
    rw [if_pos rfl]
    exact ⟨_, _, _, rfl, nilSts _, ha0, ha1⟩
  | false =>
    rw [if_neg (by simp)]
    obtain ⟨xs, c, e3, h3⟩ := roomL h d ho0 ho1 (k - 5) (by omega) 4 0 [] (by omega) (nilSts _)
    rw [show k - 5 + 4 + 1 = k by omega] at e3
    exact ⟨xs, o, c, e3, h3, ho0, ho1⟩
theorem stWriteF {fl : List DB} (h : okFl fl) (d : List Int) (kd a v : Int) (k : Nat) (hk : 40 ≤ k) : ∃ xs, spec_l12Write.f k fl d kd a v = some xs ∧ okSts xs 6 := by
  obtain ⟨n, e⟩ := nextF h k (by omega)
  obtain ⟨xs, b, c, e2, hx, hb0, hb1⟩ := roomF h d k hk
  obtain ⟨r, e3, hr⟩ := recOk_t kd n a v
  unfold spec_l12Write.f
  rw [e, e2]
  simp only [Option.bind_some]
  rw [e3]
  simp only [Option.bind_some]
  cases c with
  | false =>
    rw [if_neg (by simp)]
    exact ⟨_, rfl, nilSts _⟩
  | true =>
    rw [if_pos rfl]
    cases r with
    | false =>
      rw [if_neg (by simp)]
      exact ⟨_, rfl, nilSts _⟩
    | true =>
      rw [if_pos rfl, if_pos (by have := hx.2; omega)]
      exact ⟨_, rfl, okSts_add hx ⟨fun hq => absurd hq (by show ¬ (3 : Int) = 1; decide), fun _ => ⟨hb0, hb1⟩, fun _ => hr rfl⟩⟩
theorem diskAt {a : Int} (h : 1 ≤ a ∧ a ≤ 6) : wrap64 (a - 1) = a - 1 := wrap64_in _ (by omega)
theorem readF {fl : List DB} (h : okFl fl) {d : List Int} (hd : d.length = 6) {a : Int} (ha : 1 ≤ a ∧ a ≤ 6) (k : Nat) (hk : 25 ≤ k) : ∃ v, spec_l11Read.f k fl d a = some v := by
  obtain ⟨r0, r1, r2, r3, c, e⟩ := lastF a h k hk
  unfold spec_l11Read.f
  rw [e, Option.bind_some, diskAt ha]
  cases c with
  | true => exact ⟨_, if_pos rfl⟩
  | false =>
    rw [if_neg (by simp), if_pos (by omega), if_pos (by omega)]
    exact ⟨_, rfl⟩
theorem dirtyF {fl : List DB} (h : okFl fl) (d : List Int) (a : Int) (k : Nat) (hk : 25 ≤ k) : ∃ v, spec_l11Dirty.f k fl d a = some v := by
  obtain ⟨r0, r1, r2, r3, c, e⟩ := lastF a h k hk
  unfold spec_l11Dirty.f
  rw [e, Option.bind_some]
  split
  · exact ⟨_, rfl⟩
  · exact ⟨_, rfl⟩
theorem flushF {fl : List DB} (h : okFl fl) {d : List Int} (hd : d.length = 6) (a : Int) (k : Nat) (hk : 50 ≤ k) : ∃ xs, spec_l12Flush.f k fl d a = some xs ∧ okSts xs 7 := by
  obtain ⟨k, rfl⟩ : ∃ j, k = j + 1 := ⟨k - 1, by omega⟩
  have hnil : okSts ([] : List DS) 7 := nilSts 7
  unfold spec_l12Flush.f
  rw [l6In_t, Option.bind_some]
  by_cases ha : 1 ≤ a ∧ a ≤ 6
  · rw [if_pos (decide_eq_true ha)]
    obtain ⟨b, e⟩ := dirtyF h d a (k + 1) (by omega)
    rw [e, Option.bind_some, spec_l12Flush.j0]
    cases b with
    | false => exact ⟨_, if_pos rfl, hnil⟩
    | true =>
      obtain ⟨v, e2⟩ := readF h hd ha k (by omega)
      obtain ⟨xs, e3, hx⟩ := stWriteF h d 2 a v k (by omega)
      have h6 := hx.2
      rw [if_neg (by simp), e2]
      simp only [Option.bind_some]
      rw [e3]
      simp only [Option.bind_some]
      split
      · exact ⟨_, rfl, okSts_mono hx (by omega)⟩
      · rw [if_pos (by rw [List.length_singleton]; omega)]
        refine ⟨_, rfl, fun x hq => ?_, by rw [List.length_append, List.length_singleton]; omega⟩
        rcases List.mem_append.1 hq with hq | hq
        · rw [List.mem_singleton] at hq
          rw [hq]
          exact ⟨fun _ => ha, fun hq => by rcases hq with hq | hq <;> exact absurd hq (by simp), fun hq => absurd hq (by show ¬ (1 : Int) = 3; decide)⟩
        · exact hx.1 _ hq
  · rw [if_neg (by simpa using ha), spec_l12Flush.j0]
    exact ⟨_, if_pos rfl, hnil⟩
theorem fillF {fl : List DB} (h : okFl fl) {d : List Int} (hd : d.length = 6) (a : Int) (k : Nat) (hk : 50 ≤ k) : ∃ xs, spec_l12Fill.f k fl d a = some xs ∧ okSts xs 7 := by
  have hnil : okSts ([] : List DS) 7 := nilSts 7
  unfold spec_l12Fill.f
  rw [l6In_t, Option.bind_some]
  by_cases ha : 1 ≤ a ∧ a ≤ 6
  · rw [if_pos (decide_eq_true ha)]
    obtain ⟨r0, r1, r2, r3, c, e⟩ := lastF a h k (by omega)
    rw [e, Option.bind_some, diskAt ha]
    cases c with
    | true => exact ⟨_, if_pos rfl, hnil⟩
    | false =>
      obtain ⟨xs, e3, hx⟩ := stWriteF h d 2 a (rd d (a - 1)) k (by omega)
      rw [if_neg (by simp), if_pos (by omega), if_pos (by omega), e3, Option.bind_some]
      exact ⟨_, rfl, okSts_mono hx (by omega)⟩
  · rw [if_neg (by simpa using ha)]
    exact ⟨_, rfl, hnil⟩
theorem stepsF {fl : List DB} (h : okFl fl) {d : List Int} (hd : d.length = 6) (kd a b c : Int) (t : Bool) (k : Nat) (hk : 50 ≤ k) : ∃ xs, spec_l21Steps.f k fl d kd a b c t = some xs ∧ okSts xs 7 := by
  unfold spec_l21Steps.f
  obtain ⟨x1, e1, h1⟩ := stWriteF h d 1 a b k (by omega)
  obtain ⟨x2, e2, h2⟩ := flushF h hd a k hk
  obtain ⟨x3, e3, h3⟩ := fillF h hd a k hk
  rw [e1, e2, e3]
  simp only [Option.bind_some]
  split
  · exact ⟨_, rfl, okSts_mono h1 (by omega)⟩
  split
  · exact ⟨_, rfl, h2⟩
  split
  · exact ⟨_, rfl, h3⟩
  · exact ⟨_, rfl, nilSts _⟩
theorem stDoF {fl : List DB} (h : okFl fl) {d : List Int} (hd : d.length = 6) {x : DS} (hx : okSt x) (t : Bool) (k : Nat) (hk : 40 ≤ k) : ∃ fl' d', spec_l12Do.f k fl d x.f0 x.f1 x.f2 x.f3 x.f4.f0 x.f4.f1 x.f4.f2 x.f4.f3 t = some (fl', d') ∧ okFl fl' ∧ d'.length = 6 := by
  unfold spec_l12Do.f
  by_cases c1 : x.f0 = 1
  · rw [if_pos c1]
    cases t with
    | true => exact ⟨_, _, if_pos rfl, h, hd⟩
    | false =>
      have ha := hx.1 c1
      rw [if_neg (by simp), diskAt ha, if_pos (by omega), if_pos (by omega)]
      exact ⟨_, _, rfl, h, by rw [List.length_set]; exact hd⟩
  rw [if_neg c1]
  by_cases c2 : x.f0 = 2
  · rw [if_pos c2]
    have hb := hx.2.1 (.inl c2)
    obtain ⟨fl', o, e, h'⟩ := wipeF h hb.1 hb.2 t k (by omega)
    rw [e, Option.bind_some]
    exact ⟨_, _, rfl, h', hd⟩
  rw [if_neg c2]
  by_cases c3 : x.f0 = 3
  · rw [if_pos c3]
    have hb := hx.2.1 (.inr c3)
    obtain ⟨fl', o, e, h'⟩ := writeF h hb.1 hb.2 x.f4.f0 x.f4.f1 x.f4.f2 x.f4.f3 (hx.2.2 c3) t k (by omega)
    rw [e, Option.bind_some]
    exact ⟨_, _, rfl, h', hd⟩
  rw [if_neg c3]
  exact ⟨_, _, rfl, h, hd⟩
theorem toEnd {xs : List DS} (hx : okSts xs 7) {fl : List DB} (h : okFl fl) {d : List Int} (hd : d.length = 6) (cut : Int) (t : Bool) (k : Nat) (hk : 50 ≤ k) : ∃ fl' d', spec_l12To.j1 k xs cut t fl d = some (fl', d') ∧ okFl fl' ∧ d'.length = 6 := by
  obtain ⟨k, rfl⟩ : ∃ j, k = j + 1 := ⟨k - 1, by omega⟩
  have h7 := hx.2
  rw [spec_l12To.j1]
  cases t with
  | false =>
    rw [if_neg (by simp)]
    exact ⟨_, _, rfl, h, hd⟩
  | true =>
    rw [if_pos rfl, l6In_t, Option.bind_some]
    by_cases hc : 0 ≤ cut ∧ cut ≤ wrap64 ((xs.length : Int) - 1)
    · have hc2 := hc
      rw [wrap64_in _ (by omega)] at hc2
      obtain ⟨fl', d', e, h', hd'⟩ := stDoF h hd (hx.1 _ (rdS_in hc2.1 (by omega))) true k (by omega)
      rw [if_pos (decide_eq_true hc), if_pos hc2.1, if_pos (by omega), e, Option.bind_some]
      exact ⟨_, _, rfl, h', hd'⟩
    · rw [if_neg (by simpa using hc)]
      exact ⟨_, _, rfl, h, hd⟩
theorem toL {xs : List DS} (hx : okSts xs 7) (cut : Int) (t : Bool) (K : Nat) (hK : 50 ≤ K) : ∀ (n i : Nat) (fl : List DB) (d : List Int), i + n = xs.length → okFl fl → d.length = 6 → ∃ fl' d', spec_l12To.l0 (K + n + 1) xs cut t (i : Int) fl d = some (fl', d') ∧ okFl fl' ∧ d'.length = 6
  | 0, i, fl, d, hi, h, hd => by
    rw [spec_l12To.l0, if_neg (by omega)]
    exact toEnd hx h hd cut t _ (by omega)
  | n + 1, i, fl, d, hi, h, hd => by
    have h7 := hx.2
    rw [show K + (n + 1) + 1 = (K + n + 1) + 1 from rfl, spec_l12To.l0, if_pos (by omega)]
    by_cases hc : (i : Int) < cut
    · obtain ⟨fl', d', e, h', hd'⟩ := stDoF h hd (hx.1 _ (rdS_in (show (0 : Int) ≤ i by omega) (by omega))) false (K + n + 1) (by omega)
      rw [if_pos hc, if_pos (by omega), e, Option.bind_some, upN i (by omega)]
      exact toL hx cut t K hK n (i + 1) fl' d' (by omega) h' hd'
    · rw [if_neg hc]
      exact toEnd hx h hd cut t _ (by omega)
theorem toF {xs : List DS} (hx : okSts xs 7) {fl : List DB} (h : okFl fl) {d : List Int} (hd : d.length = 6) (cut : Int) (t : Bool) (k : Nat) (hk : 60 ≤ k) : ∃ fl' d', spec_l12To.f k fl d xs cut t = some (fl', d') ∧ okFl fl' ∧ d'.length = 6 := by
  have h7 := hx.2
  have h1 := toL hx cut t (k - xs.length - 1) (by omega) xs.length 0 fl d (by omega) h hd
  rw [show k - xs.length - 1 + xs.length + 1 = k by omega] at h1
  exact h1
theorem allL (K : Nat) (hK : 60 ≤ K) : ∀ (n a : Nat) (fl : List DB) (d : List Int), a + n = 7 → okFl fl → d.length = 6 → ∃ fl' d', spec_l21All.l0 (K + n + 1) (a : Int) fl d = some (fl', d') ∧ okFl fl' ∧ d'.length = 6
  | 0, a, fl, d, ha, h, hd => by
    rw [spec_l21All.l0, if_neg (by omega)]
    exact ⟨_, _, rfl, h, hd⟩
  | n + 1, a, fl, d, ha, h, hd => by
    obtain ⟨xs, e, hx⟩ := flushF h hd (a : Int) (K + n + 1) (by omega)
    obtain ⟨fl', d', e2, h', hd'⟩ := toF hx h hd (xs.length : Int) false (K + n + 1) (by omega)
    rw [show K + (n + 1) + 1 = (K + n + 1) + 1 from rfl, spec_l21All.l0, if_pos (by omega), e, Option.bind_some, e2, Option.bind_some, upN a (by omega)]
    exact allL K hK n (a + 1) fl' d' (by omega) h' hd'
theorem plDoF {fl : List DB} (h : okFl fl) {d : List Int} (hd : d.length = 6) (kd a b c : Int) (t : Bool) (k : Nat) (hk : 80 ≤ k) : ∃ fl' d', spec_l21Do.f k fl d kd a b c t = some (fl', d') ∧ okFl fl' ∧ d'.length = 6 := by
  unfold spec_l21Do.f
  by_cases c1 : kd = 4
  · have h1 := allL (k - 7) (by omega) 6 1 fl d (by omega) h hd
    rw [show k - 7 + 6 + 1 = k by omega] at h1
    obtain ⟨fl', d', e, h', hd'⟩ := h1
    rw [if_pos c1, show spec_l21All.f k fl d = some (fl', d') from e, Option.bind_some]
    exact ⟨_, _, rfl, h', hd'⟩
  rw [if_neg c1]
  by_cases c2 : c < 0
  · rw [if_pos c2]
    exact ⟨_, _, rfl, h, hd⟩
  obtain ⟨xs, e, hx⟩ := stepsF h hd kd a b c t k (by omega)
  obtain ⟨fl', d', e2, h', hd'⟩ := toF hx h hd c t k (by omega)
  rw [if_neg c2, e, Option.bind_some, e2, Option.bind_some]
  exact ⟨_, _, rfl, h', hd'⟩
theorem newL (K : Nat) : ∀ (n i : Nat) (fl : List DB), i + n = 4 → fl.length = i → (∀ b ∈ fl, okBl b) → ∃ fl', spec_FlashNew.l0 (K + n + 1) fl (i : Int) = some fl' ∧ okFl fl'
  | 0, i, fl, hi, hl, h => by
    rw [spec_FlashNew.l0, if_neg (by omega)]
    exact ⟨_, rfl, by omega, h⟩
  | n + 1, i, fl, hi, hl, h => by
    rw [show K + (n + 1) + 1 = (K + n + 1) + 1 from rfl, spec_FlashNew.l0, if_pos (by omega), if_pos (by decide), if_pos (by omega), upN i (by omega)]
    refine newL K n (i + 1) _ (by omega) (by rw [List.length_append, List.length_singleton, hl]) (fun b hb => ?_)
    rcases List.mem_append.1 hb with hb | hb
    · exact h _ hb
    · rw [List.mem_singleton] at hb
      rw [hb]
      refine ⟨rfl, fun p hp hq => ?_⟩
      rw [List.eq_of_mem_replicate hp] at hq
      exact absurd hq (by show ¬ (0 : Int) = 1; decide)
theorem newF (k : Nat) (hk : 10 ≤ k) : ∃ fl d, spec_StoreNew.f k = some (fl, d) ∧ okFl fl ∧ d.length = 6 := by
  obtain ⟨fl, e, h⟩ := newL (k - 5) 4 0 [] (by omega) rfl (fun b hb => by cases hb)
  rw [show k - 5 + 4 + 1 = k by omega] at e
  unfold spec_StoreNew.f
  rw [show spec_FlashNew.f k = some fl from e, Option.bind_some, if_pos (by decide)]
  exact ⟨_, _, rfl, h, rfl⟩
theorem i64_xor_nat (a b : Nat) (ha : a < 4611686018427387904) (hb : b < 4611686018427387904) : bits .xor .i64 (a : Int) (b : Int) = ((a ^^^ b : Nat) : Int) := by
  have hx : a ^^^ b < 2 ^ 62 := Nat.xor_lt_two_pow (by omega) (by omega)
  show IntKind.i64.wrap ((BitVec.ofInt 64 (a : Int) ^^^ BitVec.ofInt 64 (b : Int)).toNat : Int) = _
  rw [BitVec.toNat_xor, ofInt_u64 a (by omega), ofInt_u64 b (by omega)]
  rw [IntKind.wrap_i64]
  omega
theorem i64_xor_pos {a b : Int} (h1 : 0 ≤ a) (h2 : a < 4611686018427387904) (h3 : 0 ≤ b) (h4 : b < 4611686018427387904) : 0 ≤ bits .xor .i64 a b := by
  obtain ⟨A, rfl⟩ := Int.eq_ofNat_of_zero_le h1
  obtain ⟨B, rfl⟩ := Int.eq_ofNat_of_zero_le h3
  rw [i64_xor_nat A B (by omega) (by omega)]
  omega
def Bytes (s : List Int) : Prop := ∀ x ∈ s, 0 ≤ x ∧ x ≤ 255
theorem rd_byte {s : List Int} (hb : Bytes s) (i : Int) : 0 ≤ rd s i ∧ rd s i ≤ 255 := by
  unfold rd
  rw [List.getD_eq_getElem?_getD]
  cases h : s[i.toNat]? with
  | none => simp
  | some v => simpa using hb v (List.mem_of_getElem? h)
theorem pick_ok (k : Nat) {s : List Int} {p n : Int} (hb : Bytes s) (hp : 0 ≤ p) (hp2 : p < 1000000) (hn : 1 ≤ n) (hn2 : n ≤ 1000000) :
    ∃ v, spec_l6Rd_pick.f (k + 1) s p n = some (v, p + 1) ∧ 0 ≤ v ∧ v < n := by
  have e1 : wrap64 (p + 1) = p + 1 := wrap64_in _ (by omega)
  have e2 : wrap64 (p + 1 - 1) = p := by rw [wrap64_in _ (by omega)]; omega
  unfold spec_l6Rd_pick.f
  rw [if_neg (by omega), e1, spec_l6Rd_pick.j0, e2]
  cases hs : ((s.length : Int) == 0) with
  | true => exact ⟨0, by simp, by omega, by omega⟩
  | false =>
    have hl : (s.length : Int) ≠ 0 := by simpa using hs
    have hl0 : 0 < (s.length : Int) := by omega
    rw [if_neg (by simp)]
    by_cases hc : p < (s.length : Int)
    · rw [if_pos hc, if_pos hp, if_neg (by omega)]
      have hr := rd_byte hb p
      rw [wrap64_in _ (by omega)]
      exact ⟨_, rfl, Int.tmod_nonneg _ hr.1, Int.tmod_lt_of_pos _ (by omega)⟩
    · have e3 : wrap64 (p * 7) = p * 7 := wrap64_in _ (by omega)
      have e4 : wrap64 (p * 7 + 3) = p * 7 + 3 := wrap64_in _ (by omega)
      rw [if_neg hc, if_neg hl, e3, e4, if_pos (Int.tmod_nonneg _ hp), if_pos (Int.tmod_lt_of_pos _ hl0), if_pos (Int.tmod_nonneg _ (by omega)), if_pos (Int.tmod_lt_of_pos _ hl0), if_neg (by omega)]
      refine ⟨_, rfl, ?_, Int.tmod_lt_of_pos _ (by omega)⟩
      apply Int.tmod_nonneg
      have r1 := rd_byte hb (Int.tmod p (s.length : Int))
      have r2 := rd_byte hb (Int.tmod (p * 7 + 3) (s.length : Int))
      have q1 : 0 ≤ Int.tdiv p (s.length : Int) := Int.tdiv_nonneg hp (by omega)
      have q2 : Int.tdiv p (s.length : Int) ≤ p := by
        rw [Int.tdiv_eq_ediv_of_nonneg hp]
        exact Int.ediv_le_self _ hp
      generalize rd s (Int.tmod p (s.length : Int)) = x at *
      generalize rd s (Int.tmod (p * 7 + 3) (s.length : Int)) = y at *
      generalize Int.tdiv p (s.length : Int) = q at *
      rw [wrap64_in x (by omega), wrap64_in y (by omega), wrap64_in q (by omega), wrap64_in (x * 131) (by omega), wrap64_in (y * 1117) (by omega), wrap64_in (p * 29) (by omega), wrap64_in (q * 53) (by omega), wrap64_in (x * 131 + y * 1117) (by omega), wrap64_in (x * 131 + y * 1117 + p * 29) (by omega), wrap64_in (x * 131 + y * 1117 + p * 29 + q * 53) (by omega)]
      have t0 : 0 ≤ x * 131 + y * 1117 + p * 29 + q * 53 := by omega
      rw [Int.tdiv_eq_ediv_of_nonneg t0, wrap64_in _ (by omega)]
      exact i64_xor_pos t0 (by omega) (by omega) (by omega)
theorem pickT {s : List Int} {p n : Int} (hb : Bytes s) (hp : 0 ≤ p) (hp2 : p < 1000000) (hn : 1 ≤ n) (hn2 : n ≤ 1000000) (k : Nat) (hk : 1 ≤ k) : ∃ v, spec_l6Rd_pick.f k s p n = some (v, p + 1) ∧ 0 ≤ v ∧ v < n := by
  obtain ⟨j, rfl⟩ : ∃ j, k = j + 1 := ⟨k - 1, by omega⟩
  exact pick_ok j hb hp hp2 hn hn2
theorem open_ok {l : List Int} (hb : Bytes l) : ∃ s, spec_l6Open.f l = some (s, 0) ∧ Bytes s := by
  unfold spec_l6Open.f
  by_cases h : (l.length : Int) > 2000
  · rw [if_pos h, if_pos (by omega)]
    exact ⟨_, rfl, fun x hx => hb x (List.mem_of_mem_take hx)⟩
  · rw [if_neg h]
    exact ⟨_, rfl, hb⟩
theorem rec_ok (k : Nat) {s : List Int} {p : Int} (hb : Bytes s) (hp : 0 ≤ p) (hp2 : p < 900000) :
    ∃ a b c d q, spec_l71Rec.f (k + 1) s p = some (a, b, c, d, q) ∧ 0 ≤ q ∧ q ≤ p + 10 := by
  obtain ⟨v1, h1, _, _⟩ := pick_ok k (n := 2) hb hp (by omega) (by omega) (by omega)
  obtain ⟨v2, h2, _, _⟩ := pick_ok k (p := p + 1) (n := 40) hb (by omega) (by omega) (by omega) (by omega)
  obtain ⟨v3, h3, _, _⟩ := pick_ok k (p := p + 1 + 1) (n := 6) hb (by omega) (by omega) (by omega) (by omega)
  obtain ⟨v4, h4, _, _⟩ := pick_ok k (p := p + 1 + 1 + 1) (n := 10) hb (by omega) (by omega) (by omega) (by omega)
  obtain ⟨v5, h5, _, _⟩ := pick_ok k (p := p + 1 + 1 + 1 + 1) (n := 20) hb (by omega) (by omega) (by omega) (by omega)
  obtain ⟨w1, g1, _, _⟩ := pick_ok k (p := p + 1 + 1 + 1 + 1 + 1) (n := 4) hb (by omega) (by omega) (by omega) (by omega)
  obtain ⟨w2, g2, _, _⟩ := pick_ok k (p := p + 1 + 1 + 1 + 1 + 1) (n := 3) hb (by omega) (by omega) (by omega) (by omega)
  obtain ⟨w3, g3, _, _⟩ := pick_ok k (p := p + 1 + 1 + 1 + 1 + 1) (n := 2) hb (by omega) (by omega) (by omega) (by omega)
  unfold spec_l71Rec.f
  simp only [h1, h2, h3, h4, h5, Option.bind_some]
  by_cases c0 : v5 = 0
  · rw [if_pos c0]
    simp only [g1, Option.bind_some]
    exact ⟨_, _, _, _, _, rfl, by omega, by omega⟩
  rw [if_neg c0]
  by_cases c1 : v5 = 1
  · rw [if_pos c1]
    simp only [g2, Option.bind_some]
    rw [if_pos (by omega), if_pos (by simp; omega)]
    exact ⟨_, _, _, _, _, rfl, by omega, by omega⟩
  rw [if_neg c1]
  by_cases c2 : v5 = 2
  · rw [if_pos c2]
    simp only [g3, Option.bind_some]
    rw [if_pos (by omega), if_pos (by simp; omega)]
    exact ⟨_, _, _, _, _, rfl, by omega, by omega⟩
  rw [if_neg c2]
  by_cases c3 : v5 = 3
  · rw [if_pos c3]
    simp only [g3, Option.bind_some]
    rw [if_pos (by omega), if_pos (by simp; omega)]
    exact ⟨_, _, _, _, _, rfl, by omega, by omega⟩
  rw [if_neg c3]
  exact ⟨_, _, _, _, _, rfl, by omega, by omega⟩
theorem bytes_of {l : List Int} (h : ∀ x ∈ l, (Lit.int .u8 x).wf = true) : Bytes l := fun x hx => by
  have := h x hx
  have h2 : (decide (0 ≤ x) && decide (x ≤ 255)) = true := this
  simpa using h2
theorem kd_ok (k : Nat) {s : List Int} {c p : Int} (hb : Bytes s) (hp : 0 ≤ p) (hp2 : p < 900000) : ∃ e q, spec_l71Event.kd (k + 1) s c p = some (e, q) ∧ 0 ≤ q ∧ q ≤ p + 1 := by
  obtain ⟨v, h, _, _⟩ := pick_ok k (n := 3) hb hp (by omega) (by omega) (by omega)
  unfold spec_l71Event.kd
  split
  · exact ⟨_, _, rfl, by omega, by omega⟩
  split
  · exact ⟨_, _, rfl, by omega, by omega⟩
  split
  · rw [h, Option.bind_some]
    exact ⟨_, _, rfl, by omega, by omega⟩
  · exact ⟨_, _, rfl, by omega, by omega⟩
theorem event_ok (k : Nat) {s : List Int} {p : Int} (hb : Bytes s) (hp : 0 ≤ p) (hp2 : p < 700000) :
    ∃ a b c d e q, spec_l71Event.f (k + 3) s p = some (a, b, c, d, e, q) ∧ 0 ≤ q ∧ q ≤ p + 8 := by
  obtain ⟨v1, h1, _, _⟩ := pick_ok (k + 2) (n := 6) hb hp (by omega) (by omega) (by omega)
  obtain ⟨v2, h2, _, _⟩ := pick_ok (k + 2) (p := p + 1) (n := 10) hb (by omega) (by omega) (by omega) (by omega)
  obtain ⟨v3, h3, _, _⟩ := pick_ok (k + 2) (p := p + 1 + 1) (n := 12) hb (by omega) (by omega) (by omega) (by omega)
  obtain ⟨e, q, h4, q0, q1⟩ := kd_ok (k + 2) (c := v3) (p := p + 1 + 1 + 1) hb (by omega) (by omega)
  obtain ⟨v5, h5, _, _⟩ := pick_ok (k + 2) (p := q) (n := 4) hb (by omega) (by omega) (by omega) (by omega)
  obtain ⟨v6, h6, _, _⟩ := pick_ok (k + 2) (p := q + 1) (n := 5) hb (by omega) (by omega) (by omega) (by omega)
  obtain ⟨v7, h7, _, _⟩ := pick_ok (k + 2) (p := q + 1 + 1) (n := 3) hb (by omega) (by omega) (by omega) (by omega)
  unfold spec_l71Event.f
  simp only [h1, h2, h3, h4, h5, h6, h7, Option.bind_some]
  split
  · exact ⟨_, _, _, _, _, _, rfl, by omega, by omega⟩
  · exact ⟨_, _, _, _, _, _, rfl, by omega, by omega⟩
theorem playL {s : List Int} (hb : Bytes s) (B : Int) (hB : B ≤ 100000) (K : Nat) (hK : 100 ≤ K) : ∀ (n : Nat) (ev : List S87) (p : Int) (fl : List DB) (d : List Int), ev.length + n ≤ 100 → 0 ≤ p → p + 8 * (n : Int) ≤ B → okFl fl → d.length = 6 →
    ∃ ev' fl' d' q, spec_l71Play.l0 (K + n + 1) ev (n : Int) s p fl d = some (ev', fl', d', q) ∧ okFl fl' ∧ d'.length = 6 ∧ 0 ≤ q ∧ q ≤ B
  | 0, ev, p, fl, d, he, hp, hp2, h, hd => by
    rw [spec_l71Play.l0, if_neg (by omega)]
    exact ⟨_, _, _, _, rfl, h, hd, hp, by omega⟩
  | n + 1, ev, p, fl, d, he, hp, hp2, h, hd => by
    obtain ⟨a, b, c, e, t, q, hq, q1, q2⟩ := event_ok (K + n - 2) hb hp (by omega)
    rw [show K + n - 2 + 3 = K + n + 1 by omega] at hq
    obtain ⟨fl', d', e2, h', hd'⟩ := plDoF h hd a b c e t (K + n + 1) (by omega)
    have e3 : wrap64 (((n + 1 : Nat) : Int) - 1) = (n : Int) := by rw [wrap64_in _ (by omega)]; omega
    rw [show K + (n + 1) + 1 = (K + n + 1) + 1 from rfl, spec_l71Play.l0, if_pos (by omega), hq]
    simp only [Option.bind_some]
    rw [if_pos (by omega), e2]
    simp only [Option.bind_some]
    rw [e3]
    exact playL hb B hB K hK n _ q fl' d' (by rw [List.length_append, List.length_singleton]; omega) q1 (by omega) h' hd'
theorem play_from {s : List Int} (hb : Bytes s) (p0 : Int) (hp0 : 0 ≤ p0) (hp1 : p0 ≤ 20000) (k : Nat) (hk : 200 ≤ k) : ∃ ev fl d q, spec_l71Play.f k s p0 = some (ev, fl, d, q) ∧ okFl fl ∧ d.length = 6 ∧ 0 ≤ q ∧ q ≤ p0 + 9000 := by
  obtain ⟨fl, d, e, h, hd⟩ := newF k (by omega)
  obtain ⟨v, h1, hv0, hv1⟩ := pick_ok (k - 1) (n := 58) hb hp0 (by omega) (by omega) (by omega)
  obtain ⟨n, rfl⟩ := Int.eq_ofNat_of_zero_le hv0
  rw [show k - 1 + 1 = k by omega] at h1
  have h2 := playL hb (p0 + 9000) (by omega) (k - n - 1) (by omega) n [] (p0 + 1) fl d (by simp; omega) (by omega) (by omega) h hd
  rw [show k - n - 1 + n + 1 = k by omega] at h2
  unfold spec_l71Play.f
  rw [e]
  simp only [Option.bind_some]
  rw [h1]
  simp only [Option.bind_some]
  exact h2
theorem flash_from {s : List Int} (hb : Bytes s) (p0 : Int) (h00 : 0 ≤ p0) (h01 : p0 ≤ 20000) (k : Nat) (hk : 200 ≤ k) : ∃ fl q, spec_l71Flash.f k s p0 = some (fl, q) ∧ 0 ≤ q ∧ q ≤ p0 + 9100 := by
  obtain ⟨ev, fl, d, p, e, h, hd, hp0, hp1⟩ := play_from hb p0 h00 h01 k hk
  obtain ⟨k, rfl⟩ : ∃ j, k = j + 1 := ⟨k - 1, by omega⟩
  have P := fun (p : Int) (n : Int) (h1 : 0 ≤ p) (h2 : p < 100000) (h3 : 1 ≤ n) (h4 : n ≤ 100) => pick_ok k (p := p) (n := n) hb h1 (by omega) h3 (by omega)
  obtain ⟨v, h1, hv0, hv1⟩ := P p 20 hp0 (by omega) (by omega) (by omega)
  have hl : (fl.length : Int) = 4 := by rw [h.1]; rfl
  have hfn : flFine fl = true := by
    unfold flFine
    rw [Bool.and_eq_true, beq_iff_eq, List.all_eq_true]
    exact ⟨h.1, fun b hb => beq_iff_eq.2 (h.2 b hb).1⟩
  unfold spec_l71Flash.f
  rw [e]
  simp only [Option.bind_some]
  rw [h1]
  simp only [Option.bind_some]
  rw [if_pos hfn]
  obtain ⟨i, g3, hi0, hi1⟩ := P (p + 1) 4 (by omega) (by omega) (by omega) (by omega)
  obtain ⟨j, g4, hj0, hj1⟩ := P (p + 1 + 1) 4 (by omega) (by omega) (by omega) (by omega)
  obtain ⟨w, g5, hw0, hw1⟩ := P (p + 1 + 1) 3 (by omega) (by omega) (by omega) (by omega)
  obtain ⟨st, g6, hs0, hs1⟩ := P (p + 1 + 1 + 1) 4 (by omega) (by omega) (by omega) (by omega)
  obtain ⟨a, b, c, e2, q, g7, hq0, hq1⟩ := rec_ok k hb (show 0 ≤ p + 1 + 1 + 1 + 1 by omega) (by omega)
  have hB := flAt h hi0 hi1
  unfold spec_l71Flash.g
  rw [hl, g3]
  simp only [Option.bind_some]
  rw [g4, g5]
  simp only [Option.bind_some]
  rw [g6]
  simp only [Option.bind_some]
  rw [g7]
  simp only [Option.bind_some]
  split
  · rw [if_pos ⟨hi0, hi1, hj0, by rw [hB.1]; exact hj1⟩]
    exact ⟨_, _, rfl, by omega, by omega⟩
  split
  · rw [if_pos ⟨hi0, hi1, hw0, hw1⟩]
    exact ⟨_, _, rfl, by omega, by omega⟩
  split
  · rw [if_pos (by omega)]
    exact ⟨_, _, rfl, by omega, by omega⟩
  split
  · rw [if_pos ⟨hi0, hi1, by rw [hB.1]; decide⟩]
    exact ⟨_, _, rfl, by omega, by omega⟩
  · exact ⟨_, _, rfl, by omega, by omega⟩
theorem fine_of_shape {fl : List S54} (h : okFl fl) : flFine fl = true := by
  unfold flFine
  rw [Bool.and_eq_true, beq_iff_eq, List.all_eq_true]
  exact ⟨h.1, fun b hb => beq_iff_eq.2 (h.2 b hb).1⟩
theorem drawst_ok {s : List Int} (hb : Bytes s) (k : Nat) (hk : 300 ≤ k) : ∃ fl d q, spec_l71Store.f k s 0 = some (fl, d, q) ∧ 0 ≤ q ∧ q ≤ 30000 := by
  obtain ⟨ev, fl, d, p, e, h, hd, hp0, hp1⟩ := play_from hb 0 (Int.le_refl _) (by omega) k (by omega)
  have P := fun (p n : Int) (h1 : 0 ≤ p) (h2 : p ≤ 30000) (h3 : 1 ≤ n) (h4 : n ≤ 100) => pickT (p := p) (n := n) hb h1 (by omega) h3 (by omega) k (by omega)
  obtain ⟨v, e1, _, _⟩ := P p 30 hp0 (by omega) (by omega) (by omega)
  obtain ⟨a, e2, ha0, ha1⟩ := P (p + 1) 6 (by omega) (by omega) (by omega) (by omega)
  obtain ⟨c, e3, hc0, hc1⟩ := P (p + 1 + 1) 4 (by omega) (by omega) (by omega) (by omega)
  obtain ⟨fl2, q2, e4, hq0, hq1⟩ := flash_from hb (p + 1) (by omega) (by omega) k (by omega)
  unfold spec_l71Store.f
  rw [e]
  simp only [Option.bind_some]
  rw [e1]
  simp only [Option.bind_some]
  rw [if_pos ⟨fine_of_shape h, by omega⟩]
  unfold spec_l71Store.g
  rw [e2]
  simp only [Option.bind_some]
  rw [e3]
  simp only [Option.bind_some]
  rw [e4]
  simp only [Option.bind_some]
  split
  · rw [if_pos ⟨ha0, ha1, hc0, hc1⟩]
    exact ⟨_, _, _, rfl, by omega, by omega⟩
  split
  · exact ⟨_, _, _, rfl, by omega, by omega⟩
  split
  · exact ⟨_, _, _, rfl, by omega, by omega⟩
  split
  · exact ⟨_, _, _, rfl, by omega, by omega⟩
  · exact ⟨_, _, _, rfl, by omega, by omega⟩
theorem draw_ok {l : List Int} (hb : Bytes l) : ∃ fl d a, spec_DrawStoreRead.f 1000 l = some (fl, d, a) := by
  obtain ⟨s, e0, hs⟩ := open_ok hb
  obtain ⟨fl, d, q, e1, hq0, hq1⟩ := drawst_ok hs 1000 (by omega)
  obtain ⟨v1, e2, _, _⟩ := pickT (p := q) (n := 6) hs hq0 (by omega) (by omega) (by omega) 1000 (by omega)
  obtain ⟨v2, e3, _, _⟩ := pickT (p := q + 1) (n := 24) hs (by omega) (by omega) (by omega) (by omega) 1000 (by omega)
  unfold spec_DrawStoreRead.f
  rw [e0]
  simp only [Option.bind_some]
  rw [e1]
  simp only [Option.bind_some]
  rw [e2]
  simp only [Option.bind_some]
  rw [e3]
  exact ⟨_, _, _, rfl⟩
theorem rdB_cons {b : S54} {bs : List S54} (j : Nat) : rd_T54 (b :: bs) ((j + 1 : Nat) : Int) = rd_T54 bs (j : Int) := by
  unfold rd_T54
  rw [Int.toNat_natCast, Int.toNat_natCast]
  rfl
theorem blocksB_all : ∀ (l : List S54) (S : List Int), blocksB l S = true → ∀ j : Nat, j < l.length → blockB (rd_T54 l (j : Int)) = true
  | [], _, _, j, hj => by cases hj
  | b :: bs, S, h, j, hj => by
    rw [blocksB, Bool.and_eq_true] at h
    obtain ⟨h1, h2⟩ := h
    cases j with
    | zero => exact h1
    | succ j =>
      rw [rdB_cons]
      cases hp : pagesB b.f0 S with
      | none => rw [hp] at h2; cases h2
      | some S' =>
        rw [hp] at h2
        exact blocksB_all bs S' h2 j (by simpa using hj)
theorem flash_len {l : List S54} (h : flashOkB l = true) : l.length = 4 := by
  unfold flashOkB at h
  rw [Bool.and_eq_true, decide_eq_true_eq] at h
  omega
theorem flash_block {l : List S54} (h : flashOkB l = true) (j : Nat) (hj : j < 4) : (rd_T54 l (j : Int)).f0.length = 4 ∧ 0 ≤ (rd_T54 l (j : Int)).f1 ∧ (rd_T54 l (j : Int)).f1 ≤ 200 ∧ shapeB (rd_T54 l (j : Int)).f0 false = true := by
  have hl := flash_len h
  unfold flashOkB at h
  rw [Bool.and_eq_true] at h
  have := blocksB_all l [] h.2 j (by omega)
  unfold blockB at this
  rw [Bool.and_eq_true, decide_eq_true_eq] at this
  exact ⟨by omega, this.1.2.1, this.1.2.2, this.2⟩
theorem dropP_cons {l : List S63} {i : Nat} (h : i < l.length) : l.drop i = rd_T63 l (i : Int) :: l.drop (i + 1) := by
  rw [List.drop_eq_getElem_cons h]
  simp [rd_T63, List.getD_eq_getElem?_getD, h]
theorem pages_spotsB (i : Nat) : ∀ (j : Nat) (ps : List S63), (spotsB i j ps).map (·.2.2) = ps
  | _, [] => rfl
  | j, p :: ps => by rw [spotsB, List.map_cons, pages_spotsB i (j + 1) ps]
theorem pagesL_flat : ∀ (i : Nat) (l : List S54), (spotsF i l).map (·.2.2) = l.flatMap (·.f0)
  | _, [] => rfl
  | i, b :: bs => by rw [spotsF, List.map_append, pages_spotsB, pagesL_flat (i + 1) bs, List.flatMap_cons]
theorem pagesB_all : ∀ (ps : List S63) (S S' : List Int), pagesB ps S = some S' → ∀ p ∈ ps, pageB p = true
  | [], _, _, _, _, h => by cases h
  | p :: ps, S, S', h, q, hq => by
    rw [pagesB] at h
    by_cases hp : pageB p = true
    · rw [if_pos hp] at h
      rcases List.mem_cons.1 hq with rfl | hq
      · exact hp
      · by_cases h1 : p.f0 = 1
        · rw [if_pos h1] at h
          by_cases hm : p.f1.f1 ∈ S
          · rw [if_pos hm] at h; cases h
          · rw [if_neg hm] at h; exact pagesB_all ps _ _ h q hq
        · rw [if_neg h1] at h; exact pagesB_all ps _ _ h q hq
    · rw [if_neg hp] at h; cases h
theorem blocksB_pages : ∀ (l : List S54) (S : List Int), blocksB l S = true → ∀ b ∈ l, ∀ p ∈ b.f0, pageB p = true
  | [], _, _, _, h, _, _ => by cases h
  | b :: bs, S, h, c, hc, p, hp => by
    rw [blocksB, Bool.and_eq_true] at h
    cases he : pagesB b.f0 S with
    | none => rw [he] at h; exact absurd h.2 (by simp)
    | some S' =>
      rw [he] at h
      rcases List.mem_cons.1 hc with rfl | hc
      · exact pagesB_all _ _ _ he p hp
      · exact blocksB_pages bs S' h.2 c hc p hp
theorem flash_pages {l : List S54} (h : flashOkB l = true) : ∀ b ∈ l, ∀ p ∈ b.f0, pageB p = true := by
  unfold flashOkB at h
  rw [Bool.and_eq_true] at h
  exact blocksB_pages l [] h.2
theorem page_written {p : S63} (h : pageB p = true) (h1 : p.f0 = 1) : (p.f1.f0 = 1 ∨ p.f1.f0 = 2) ∧ 1 ≤ p.f1.f1 ∧ p.f1.f1 ≤ 600 ∧ 1 ≤ p.f1.f2 ∧ p.f1.f2 ≤ 6 ∧ 0 ≤ p.f1.f3 ∧ p.f1.f3 ≤ 9 := by
  unfold pageB at h
  rw [if_pos h1] at h
  unfold recOkB at h
  simp only [decide_eq_true_eq] at h
  omega
theorem page_other {p : S63} (h : pageB p = true) (h1 : p.f0 ≠ 1) : p.f1.f0 = 0 ∧ p.f1.f1 = 0 ∧ p.f1.f2 = 0 ∧ p.f1.f3 = 0 := by
  unfold pageB at h
  rw [if_neg h1] at h
  split at h
  · simp only [Bool.and_eq_true, beq_iff_eq] at h
    exact h
  · cases h
theorem page_seq {p : S63} (h : pageB p = true) : 0 ≤ p.f1.f1 ∧ p.f1.f1 ≤ 600 := by
  by_cases h1 : p.f0 = 1
  · have := page_written h h1
    omega
  · have := page_other h h1
    omega
theorem dropB_cons {l : List S54} {i : Nat} (h : i < l.length) : l.drop i = rd_T54 l (i : Int) :: l.drop (i + 1) := by
  rw [List.drop_eq_getElem_cons h]
  simp [rd_T54, List.getD_eq_getElem?_getD, h]
theorem rdB_mem {l : List S54} {i : Nat} (h : i < l.length) : rd_T54 l (i : Int) ∈ l := by
  simp [rd_T54, List.getD_eq_getElem?_getD, h]
theorem rdP_mem {l : List S63} {i : Nat} (h : i < l.length) : rd_T63 l (i : Int) ∈ l := by
  simp [rd_T63, List.getD_eq_getElem?_getD, h]
def mostP (m : Int) (ps : List S63) : Int := ps.foldl (fun m p => mx m p.f1.f1) m
theorem mostP_cons (m : Int) (p : S63) (ps : List S63) : mostP m (p :: ps) = mostP (mx m p.f1.f1) ps := rfl
theorem stepNext_most : ∀ (ps : List S63) (m : Int), 0 ≤ m → (∀ p ∈ ps, pageB p = true) → ps.foldl stepNext m = mostP m ps
  | [], _, _, _ => rfl
  | p :: ps, m, hm, h => by
    have hp := page_seq (h p (by simp))
    have hr : ∀ q ∈ ps, pageB q = true := fun q hq => h q (by simp [hq])
    have e : stepNext m p = mx m p.f1.f1 := by
      unfold stepNext
      by_cases h1 : p.f0 = 1
      · rw [if_pos h1]
      · rw [if_neg h1, (page_other (h p (by simp)) h1).2.1]
        unfold mx
        split <;> omega
    rw [List.foldl_cons, mostP_cons, e]
    exact stepNext_most ps _ (by unfold mx; split <;> omega) hr
def nextV (l : List S54) : Int := if flashOkB l = true then wrap64 (mostP 0 (l.flatMap (·.f0)) + 1) else 0
theorem implNext_ok (l : List S54) : impl_FindNext.f l = some (nextV l) := by
  unfold impl_FindNext.f nextV pagesL
  cases hf : flashOkB l with
  | false => rfl
  | true =>
    rw [if_pos rfl, if_pos rfl, pagesL_flat, stepNext_most _ _ (by omega) (fun p hp => by
      obtain ⟨b, hb, hp⟩ := List.mem_flatMap.1 hp
      exact flash_pages hf b hb p hp)]
def freeN : List S63 → Nat
  | [] => 0
  | p :: ps => (if p.f0 = 0 then 1 else 0) + freeN ps
theorem freeN_le : ∀ ps : List S63, freeN ps ≤ ps.length
  | [] => Nat.le_refl _
  | p :: ps => by
    have := freeN_le ps
    rw [freeN, List.length_cons]
    split <;> omega
theorem clean_loop (l : List S63) (b : Int) (hl : l.length ≤ 1048576) (K : Nat) : ∀ (n i m : Nat), i + n = l.length → m ≤ i →
    spec_l2Clean.l0 (K + n + 1) (m : Int) (i : Int) l b = some ((m + freeN (l.drop i) : Nat) : Int) ∧
    impl_freePages.l0 (K + n + 1) (m : Int) l (l.length : Int) (i : Int) = some ((m + freeN (l.drop i) : Nat) : Int)
  | 0, i, m, h, hm => by
    rw [spec_l2Clean.l0, impl_freePages.l0, if_neg (by omega), if_neg (by omega), List.drop_eq_nil_of_le (by omega)]
    exact ⟨rfl, rfl⟩
  | n + 1, i, m, h, hm => by
    have ih1 := clean_loop l b hl K n (i + 1) (m + 1) (by omega) (by omega)
    have ih2 := clean_loop l b hl K n (i + 1) m (by omega) (by omega)
    have e1 : wrap64 ((i : Int) + 1) = ((i + 1 : Nat) : Int) := by rw [wrap64_in _ (by omega)]; omega
    have e2 : wrap64 ((m : Int) + 1) = ((m + 1 : Nat) : Int) := by rw [wrap64_in _ (by omega)]; omega
    rw [dropP_cons (by omega : i < l.length), freeN]
    refine ⟨?_, ?_⟩
    · rw [spec_l2Clean.l0, if_pos (by omega), if_pos (by omega), e1, e2]
      by_cases hs : (rd_T63 l (i : Int)).f0 = 0
      · rw [if_pos hs, if_pos hs, show m + (1 + freeN (l.drop (i + 1))) = m + 1 + freeN (l.drop (i + 1)) by omega]
        exact ih1.1
      · rw [if_neg hs, if_neg hs, Nat.zero_add]
        exact ih2.1
    · rw [impl_freePages.l0, if_pos (by omega), if_pos (by omega), if_pos (by omega), e1, e2]
      by_cases hs : (rd_T63 l (i : Int)).f0 = 0
      · rw [if_pos hs, if_pos hs, show m + (1 + freeN (l.drop (i + 1))) = m + 1 + freeN (l.drop (i + 1)) by omega]
        exact ih1.2
      · rw [if_neg hs, if_neg hs, Nat.zero_add]
        exact ih2.2
theorem freePages_ok (l : List S63) (b : Int) (hl : l.length ≤ 1048576) (k : Nat) (hk : l.length < k) : impl_freePages.f k l b = some ((freeN l : Nat) : Int) := by
  have := (clean_loop l b hl (k - l.length - 1) l.length 0 0 (by omega) (by omega)).2
  rw [show k - l.length - 1 + l.length + 1 = k by omega, List.drop_zero, Nat.zero_add] at this
  exact this
def clN (l : List S54) (i : Nat) : Nat := freeN (rd_T54 l (i : Int)).f0
def partL (l : List S54) : Nat → Nat → Option Nat
  | 0, _ => none
  | n + 1, i => if 0 < clN l i ∧ clN l i < 4 then some i else partL l n (i + 1)
def bestL (l : List S54) : Nat → Nat → Int → Int
  | 0, _, o => o
  | n + 1, i, o => if clN l i = 4 ∧ (o < 0 ∨ (rd_T54 l (i : Int)).f1 < (rd_T54 l o).f1) then bestL l n (i + 1) (i : Int) else bestL l n (i + 1) o
def openE (o : Int) : Int × Bool := (mx o 0, decide (o ≥ 0))
def openV (l : List S54) (n i : Nat) (o : Int) : Int × Bool := match partL l n i with
  | some j => ((j : Int), true)
  | none => openE (bestL l n i o)
theorem cl_le (l : List S54) (hp : ∀ j : Nat, j < 4 → (rd_T54 l (j : Int)).f0.length = 4) {i : Nat} (hi : i < 4) : clN l i ≤ 4 := by
  have := freeN_le (rd_T54 l (i : Int)).f0
  have := hp i hi
  unfold clN
  omega
section
variable (l : List S54) (hl : l.length = 4) (hp : ∀ j : Nat, j < 4 → (rd_T54 l (j : Int)).f0.length = 4)
include hl hp
theorem implBest_loop (K : Nat) (hK : 4 < K) : ∀ (n i : Nat) (o : Int), i + n = 4 → -1 ≤ o → o < i → impl_FindOpen.l1 (K + n + 1) l (mx o 0) (decide (o ≥ 0)) l (l.length : Int) i = some (openE (bestL l n i o))
  | 0, i, o, h, _, _ => by
    rw [impl_FindOpen.l1, if_neg (by omega)]
    rfl
  | n + 1, i, o, h, ho, ho2 => by
    have hi : i < 4 := by omega
    have hc := cl_le l hp hi
    have e1 : wrap64 ((i : Int) + 1) = ((i + 1 : Nat) : Int) := by rw [wrap64_in _ (by omega)]; omega
    have hpi := hp i hi
    have ih1 := implBest_loop K hK n (i + 1) (i : Int) (by omega) (by omega) (by omega)
    have ih2 := implBest_loop K hK n (i + 1) o (by omega) (by omega) (by omega)
    rw [show mx (i : Int) 0 = (i : Int) from by unfold mx; omega, decide_eq_true (by omega : (i : Int) ≥ 0)] at ih1
    rw [impl_FindOpen.l1, if_pos (by omega), if_pos (by omega), if_pos (by omega), freePages_ok _ _ (by omega) _ (by omega), Option.bind_some, e1, bestL]
    show (if ((clN l i : Nat) : Int) = 4 then _ else _) = _
    by_cases h4 : clN l i = 4
    · rw [if_pos (by omega)]
      by_cases hn : o < 0
      · rw [decide_eq_false (by omega : ¬ o ≥ 0), if_neg (by simp), if_pos ⟨h4, Or.inl hn⟩]
        exact ih1
      · have em : mx o 0 = o := by unfold mx; omega
        rw [decide_eq_true (by omega : o ≥ 0), if_pos rfl, em, if_pos (by omega), if_pos (by omega)]
        rw [decide_eq_true (by omega : o ≥ 0), em] at ih2
        by_cases hw : (rd_T54 l (i : Int)).f1 < (rd_T54 l o).f1
        · rw [if_pos hw, if_pos ⟨h4, Or.inr hw⟩]
          exact ih1
        · rw [if_neg hw, if_neg (fun h => h.2.elim hn hw)]
          exact ih2
    · rw [if_neg (by omega), if_neg (fun h => h4 h.1)]
      exact ih2
theorem implOpen_loop (K : Nat) (hK : 10 < K) : ∀ (n i : Nat), i + n = 4 → impl_FindOpen.l0 (K + n + 1) l l (l.length : Int) i = some (match partL l n i with | some j => ((j : Int), true) | none => openE (bestL l 4 0 (-1)))
  | 0, i, h => by
    have hb := implBest_loop l hl hp (K - 5) (by omega) 4 0 (-1) (by omega) (by omega) (by omega)
    rw [show K - 5 + 4 + 1 = K by omega] at hb
    rw [impl_FindOpen.l0, if_neg (by omega), partL]
    exact hb
  | n + 1, i, h => by
    have hi : i < 4 := by omega
    have hc := cl_le l hp hi
    have e1 : wrap64 ((i : Int) + 1) = ((i + 1 : Nat) : Int) := by rw [wrap64_in _ (by omega)]; omega
    have hpi := hp i hi
    have ih := implOpen_loop K hK n (i + 1) (by omega)
    rw [impl_FindOpen.l0, if_pos (by omega), if_pos (by omega), if_pos (by omega), e1, partL]
    unfold impl_partlyUsed.f
    rw [freePages_ok _ _ (by omega) _ (by omega), Option.bind_some]
    show ((if ((clN l i : Nat) : Int) > 0 then some (decide (((clN l i : Nat) : Int) < 4)) else some false).bind _) = _
    by_cases h0 : 0 < clN l i
    · rw [if_pos (by omega), Option.bind_some]
      by_cases h4 : clN l i < 4
      · rw [decide_eq_true (by omega : ((clN l i : Nat) : Int) < 4), if_pos rfl, if_pos ⟨h0, h4⟩]
      · rw [decide_eq_false (by omega : ¬ ((clN l i : Nat) : Int) < 4), if_neg (by simp), if_neg (fun h => h4 h.2)]
        exact ih
    · rw [if_neg (by omega), Option.bind_some, if_neg (by simp), if_neg (fun h => h0 h.1)]
      exact ih
end
def openR (l : List S54) : Int × Bool := if flashOkB l = true then openV l 4 0 (-1) else (0, false)
theorem implFindOpen_ok (l : List S54) (k : Nat) (hk : 100 < k) : impl_FindOpen.f k l = some (openR l) := by
  unfold impl_FindOpen.f impl_FlashOk.f openR
  rw [Option.bind_some]
  cases hf : flashOkB l with
  | false => rw [if_neg (by simp), if_neg (by simp)]
  | true =>
    rw [if_pos rfl, if_pos rfl]
    have := implOpen_loop l (flash_len hf) (fun j hj => (flash_block hf j hj).1) (k - 5) (by omega) 4 0 (by omega)
    rw [show k - 5 + 4 + 1 = k by omega] at this
    exact this
theorem part_some (l : List S54) : ∀ (n i j : Nat), partL l n i = some j → i ≤ j ∧ j < i + n ∧ (0 < clN l j ∧ clN l j < 4) ∧ ∀ m, i ≤ m → m < j → ¬ (0 < clN l m ∧ clN l m < 4)
  | 0, i, j, h => by cases h
  | n + 1, i, j, h => by
    rw [partL] at h
    by_cases hc : 0 < clN l i ∧ clN l i < 4
    · rw [if_pos hc] at h
      cases h
      exact ⟨Nat.le_refl _, by omega, hc, fun m h1 h2 => by omega⟩
    · rw [if_neg hc] at h
      obtain ⟨h1, h2, h3, h4⟩ := part_some l n (i + 1) j h
      refine ⟨by omega, by omega, h3, fun m g1 g2 => ?_⟩
      by_cases hm : m = i
      · rw [hm]
        exact hc
      · exact h4 m (by omega) g2
theorem part_none (l : List S54) : ∀ (n i : Nat), partL l n i = none → ∀ m, i ≤ m → m < i + n → ¬ (0 < clN l m ∧ clN l m < 4)
  | 0, i, h, m, h1, h2 => by omega
  | n + 1, i, h, m, h1, h2 => by
    rw [partL] at h
    by_cases hc : 0 < clN l i ∧ clN l i < 4
    · rw [if_pos hc] at h
      cases h
    · rw [if_neg hc] at h
      by_cases hm : m = i
      · rw [hm]
        exact hc
      · exact part_none l n (i + 1) h m (by omega) (by omega)
def wornL (l : List S54) (o : Int) : Int := (rd_T54 l o).f1
def BestOf (l : List S54) (i : Nat) (o : Int) : Prop := -1 ≤ o ∧ o < 4 ∧ (0 ≤ o → clN l o.toNat = 4) ∧ (o < 0 → ∀ m, m < i → clN l m ≠ 4) ∧ (0 ≤ o → ∀ m : Nat, m < i → clN l m = 4 → wornL l o ≤ wornL l (m : Int) ∧ ((m : Int) < o → wornL l o < wornL l (m : Int)))
theorem best_of (l : List S54) : ∀ (n i : Nat) (o : Int), i + n = 4 → o < i → BestOf l i o → BestOf l 4 (bestL l n i o)
  | 0, i, o, h, _, hB => by
    obtain rfl : i = 4 := by omega
    exact hB
  | n + 1, i, o, h, ho, hB => by
    obtain ⟨b1, b2, b3, b4, b5⟩ := hB
    rw [bestL]
    by_cases hc : clN l i = 4 ∧ (o < 0 ∨ (rd_T54 l (i : Int)).f1 < (rd_T54 l o).f1)
    · rw [if_pos hc]
      refine best_of l n (i + 1) _ (by omega) (by omega) ⟨by omega, by omega, fun _ => by rw [Int.toNat_natCast]; exact hc.1, fun h => by omega, fun _ m hm hm4 => ?_⟩
      by_cases hmi : m = i
      · rw [hmi]
        exact ⟨Int.le_refl _, fun h => by omega⟩
      · rcases hc.2 with h1 | h1
        · exact absurd hm4 (b4 h1 m (by omega))
        · by_cases ho0 : 0 ≤ o
          · have := (b5 ho0 m (by omega) hm4).1
            unfold wornL at *
            exact ⟨by omega, fun _ => by omega⟩
          · exact absurd hm4 (b4 (by omega) m (by omega))
    · rw [if_neg hc]
      refine best_of l n (i + 1) o (by omega) (by omega) ⟨b1, b2, b3, fun h m hm hm4 => ?_, fun h m hm hm4 => ?_⟩
      · by_cases hmi : m = i
        · rw [hmi] at hm4
          exact hc ⟨hm4, .inl h⟩
        · exact b4 h m (by omega) hm4
      · by_cases hmi : m = i
        · rw [hmi] at hm4 ⊢
          have : ¬ (rd_T54 l (i : Int)).f1 < (rd_T54 l o).f1 := fun hq => hc ⟨hm4, .inr hq⟩
          unfold wornL
          exact ⟨by omega, fun h => by omega⟩
        · exact b5 h m (by omega) hm4
theorem open_fact {l : List S54} (h : (openV l 4 0 (-1)).2 = true) : 0 ≤ (openV l 4 0 (-1)).1 ∧ (openV l 4 0 (-1)).1 < 4 ∧ 0 < clN l (openV l 4 0 (-1)).1.toNat := by
  unfold openV at h ⊢
  cases hp : partL l 4 0 with
  | some j =>
    obtain ⟨_, h2, h3, _⟩ := part_some l 4 0 j hp
    rw [hp] at h
    show 0 ≤ (j : Int) ∧ (j : Int) < 4 ∧ 0 < clN l (j : Int).toNat
    rw [Int.toNat_natCast]
    exact ⟨by omega, by omega, h3.1⟩
  | none =>
    rw [hp] at h
    have hB := best_of l 4 0 (-1) rfl (by omega) ⟨by omega, by omega, fun h => by omega, fun _ m hm => by omega, fun h => by omega⟩
    have h : (openE (bestL l 4 0 (-1))).2 = true := h
    show 0 ≤ (openE (bestL l 4 0 (-1))).1 ∧ _ ∧ _
    generalize bestL l 4 0 (-1) = o at hB h
    obtain ⟨b1, b2, b3, b4, b5⟩ := hB
    unfold openE at h ⊢
    have ho : 0 ≤ o := of_decide_eq_true h
    have e : mx o 0 = o := by unfold mx; rw [if_neg (by omega)]
    show 0 ≤ mx o 0 ∧ mx o 0 < 4 ∧ 0 < clN l (mx o 0).toNat
    rw [e]
    have := b3 ho
    exact ⟨ho, b2, by omega⟩
theorem w64_up {i n : Nat} (h : i < n) (hn : n ≤ 9223372036854775807) : wrap64 ((i : Int) + 1) = ((i + 1 : Nat) : Int) := by
  rw [wrap64_in _ (by omega)]
  omega
def usedP : List S63 → Int → Bool
  | [], _ => false
  | p :: ps, s => if p.f0 = 1 ∧ p.f1.f1 = s then true else usedP ps s
def usedN : List S54 → Int → Bool
  | [], _ => false
  | b :: bs, s => if usedP b.f0 s = true then true else usedN bs s
theorem usedP_hit {p : S63} {ps : List S63} {s : Int} (h : p.f0 = 1 ∧ p.f1.f1 = s) : usedP (p :: ps) s = true := by rw [usedP, if_pos h]
theorem usedP_miss {p : S63} {ps : List S63} {s : Int} (h : ¬ (p.f0 = 1 ∧ p.f1.f1 = s)) : usedP (p :: ps) s = usedP ps s := by rw [usedP, if_neg h]
theorem dropB_rd {l : List S54} {i : Nat} (h : i < l.length) : l.drop i = rd_T54 l (i : Int) :: l.drop (i + 1) := by
  rw [List.drop_eq_getElem_cons h]
  simp [rd_T54, List.getD_eq_getElem?_getD, h]
theorem implSeq_in (l : List S54) (s : Int) (i : Nat) (hi : i < l.length) (hl : l.length ≤ 1048576) (hp : (rd_T54 l (i : Int)).f0.length ≤ 1048576) (K : Nat) : ∀ (n j : Nat), j + n = (rd_T54 l (i : Int)).f0.length →
    impl_seqUsed.l1 (K + n + 1) s l (l.length : Int) (i : Int) (rd_T54 l (i : Int)).f0 ((rd_T54 l (i : Int)).f0.length : Int) (j : Int) = if usedP ((rd_T54 l (i : Int)).f0.drop j) s = true then some true else impl_seqUsed.l0 K s l (l.length : Int) ((i + 1 : Nat) : Int)
  | 0, j, h => by
    rw [impl_seqUsed.l1, if_neg (by omega), List.drop_eq_nil_of_le (by omega), w64_up hi (by omega), usedP, if_neg (by decide)]
  | n + 1, j, h => by
    have ih := implSeq_in l s i hi hl hp K n (j + 1) (by omega)
    rw [impl_seqUsed.l1, if_pos (by omega), if_pos (by omega), if_pos (by omega), dropP_cons (by omega : j < _), w64_up (by omega : j < (rd_T54 l (i : Int)).f0.length) (by omega)]
    by_cases h1 : (rd_T63 (rd_T54 l (i : Int)).f0 (j : Int)).f0 = 1
    · rw [if_pos h1]
      by_cases h2 : (rd_T63 (rd_T54 l (i : Int)).f0 (j : Int)).f1.f1 = s
      · rw [if_pos h2, usedP_hit ⟨h1, h2⟩, if_pos rfl]
      · rw [if_neg h2, usedP_miss (fun h => h2 h.2)]
        exact ih
    · rw [if_neg h1, usedP_miss (fun h => h1 h.1)]
      exact ih
theorem implSeq_out (l : List S54) (s : Int) (hl : l.length ≤ 1048576) (P : Nat) (hP : P ≤ 1048576) (hp : ∀ i : Nat, i < l.length → (rd_T54 l (i : Int)).f0.length ≤ P) : ∀ (n i K : Nat), i + n = l.length →
    impl_seqUsed.l0 (K + n * (P + 2) + 1) s l (l.length : Int) (i : Int) = some (usedN (l.drop i) s)
  | 0, i, K, h => by
    rw [impl_seqUsed.l0, if_neg (by omega), List.drop_eq_nil_of_le (by omega), usedN]
  | n + 1, i, K, h => by
    have hpi := hp i (by omega)
    have ih := implSeq_out l s hl P hP hp n (i + 1) (K + (P - (rd_T54 l (i : Int)).f0.length)) (by omega)
    have e : K + (n + 1) * (P + 2) = (K + (P - (rd_T54 l (i : Int)).f0.length) + n * (P + 2) + 1) + (rd_T54 l (i : Int)).f0.length + 1 := by rw [Nat.add_mul]; omega
    have h1 := implSeq_in l s i (by omega) hl (by omega) (K + (P - (rd_T54 l (i : Int)).f0.length) + n * (P + 2) + 1) (rd_T54 l (i : Int)).f0.length 0 (by omega)
    rw [impl_seqUsed.l0, if_pos (by omega), if_pos (by omega), if_pos (by omega), e, dropB_rd (by omega : i < l.length), usedN]
    refine h1.trans ?_
    rw [List.drop_zero, ih]
    split <;> rfl
theorem flash_small {l : List S54} (h : flashOkB l = true) : ∀ i : Nat, i < l.length → (rd_T54 l (i : Int)).f0.length ≤ 4 := fun i hi => by
  have := flash_len h
  have := (flash_block h i (by omega)).1
  omega
theorem implSeq_ok {l : List S54} (h : flashOkB l = true) (s : Int) (k : Nat) (hk : 26 ≤ k) : impl_seqUsed.f k l s = some (usedN l s) := by
  have hl := flash_len h
  have h1 := implSeq_out l s (by omega) 4 (by decide) (flash_small h) 4 0 (k - 25) (by omega)
  rw [show k - 25 + 4 * (4 + 2) + 1 = k by omega, List.drop_zero] at h1
  exact h1
def fwN (l : List S54) (b : Int) : Int := ((freeN (rd_T54 l b).f0 : Nat) : Int)
theorem fwN_le {l : List S54} {b : Int} (h : (rd_T54 l b).f0.length = 4) : 0 ≤ fwN l b ∧ fwN l b ≤ 4 := by
  have := freeN_le (rd_T54 l b).f0
  unfold fwN
  omega
theorem pages_at {l : List S54} (hf : flashOkB l = true) {b : Int} (hb : 0 ≤ b ∧ b < 4) : (rd_T54 l b).f0.length = 4 := by
  obtain ⟨j, rfl⟩ := Int.eq_ofNat_of_zero_le hb.1
  exact (flash_block hf j (by omega)).1
def FwG (l : List S54) (b r0 r1 r2 r3 : Int) : Prop := flashOkB l = true ∧ (0 ≤ b ∧ b < 4) ∧ recOkB r0 r1 r2 r3 = true
instance (l : List S54) (b r0 r1 r2 r3 : Int) : Decidable (FwG l b r0 r1 r2 r3) := by unfold FwG; exact inferInstance
def fwV (l : List S54) (b r0 r1 r2 r3 : Int) (tn : Bool) : List S54 := if FwG l b r0 r1 r2 r3 then outFW l b (fwN l b) (usedN l r1) (pageFW r0 r1 r2 r3 tn) else []
def fwB (l : List S54) (b r0 r1 r2 r3 : Int) : Bool := if FwG l b r0 r1 r2 r3 then okFW (fwN l b) (usedN l r1) else false
theorem implFW_ok (l : List S54) (b r0 r1 r2 r3 : Int) (tn : Bool) (k : Nat) (hk : 40 ≤ k) : impl_FlashWrite.f k l b r0 r1 r2 r3 tn = some (fwV l b r0 r1 r2 r3 tn, fwB l b r0 r1 r2 r3) := by
  unfold impl_FlashWrite.f fwV fwB
  by_cases hg : FwG l b r0 r1 r2 r3
  · have hp := pages_at hg.1 hg.2.1
    have hle := fwN_le hp
    rw [if_pos hg, if_pos hg, if_pos (show flashOkB l = true ∧ (0 ≤ b ∧ b < 4) ∧ recOkB r0 r1 r2 r3 = true from hg), freePages_ok _ _ (by omega) k (by omega), Option.bind_some, implSeq_ok hg.1 r1 k (by omega), Option.bind_some]
    show (if 0 ≤ fwN l b ∧ fwN l b ≤ 4 then some (outFW l b (fwN l b) (usedN l r1) (pageFW r0 r1 r2 r3 tn), okFW (fwN l b) (usedN l r1)) else none) = _
    rw [if_pos hle]
  · rw [if_neg hg, if_neg hg, if_neg (show ¬ (flashOkB l = true ∧ (0 ≤ b ∧ b < 4) ∧ recOkB r0 r1 r2 r3 = true) from hg)]
theorem usedP_at : ∀ (ps : List S63) (s : Int), usedP ps s = true ↔ ∃ p ∈ ps, p.f0 = 1 ∧ p.f1.f1 = s
  | [], s => ⟨fun h => (by cases h), fun ⟨p, hp, _⟩ => (by cases hp)⟩
  | q :: ps, s => by
    by_cases hc : q.f0 = 1 ∧ q.f1.f1 = s
    · rw [usedP_hit hc]
      exact ⟨fun _ => ⟨q, List.mem_cons_self, hc⟩, fun _ => rfl⟩
    · rw [usedP_miss hc, usedP_at ps s]
      constructor
      · rintro ⟨p, hp, h⟩
        exact ⟨p, List.mem_cons_of_mem _ hp, h⟩
      · rintro ⟨p, hp, h⟩
        rcases List.mem_cons.1 hp with rfl | hp
        · exact absurd h hc
        · exact ⟨p, hp, h⟩
theorem usedN_at : ∀ (l : List S54) (s : Int), usedN l s = true ↔ ∃ p ∈ l.flatMap (·.f0), p.f0 = 1 ∧ p.f1.f1 = s
  | [], s => ⟨fun h => (by cases h), fun ⟨p, hp, _⟩ => (by cases hp)⟩
  | b :: bs, s => by
    rw [usedN, List.flatMap_cons]
    by_cases hc : usedP b.f0 s = true
    · rw [if_pos hc]
      obtain ⟨p, hp, h⟩ := (usedP_at _ _).1 hc
      exact ⟨fun _ => ⟨p, List.mem_append_left _ hp, h⟩, fun _ => rfl⟩
    · rw [if_neg hc, usedN_at bs s]
      constructor
      · rintro ⟨p, hp, h⟩
        exact ⟨p, List.mem_append_right _ hp, h⟩
      · rintro ⟨p, hp, h⟩
        rcases List.mem_append.1 hp with hp | hp
        · exact absurd ((usedP_at _ _).2 ⟨p, hp, h⟩) hc
        · exact ⟨p, hp, h⟩
def pg (l : List S54) (i j : Nat) : S63 := rd_T63 (rd_T54 l (i : Int)).f0 (j : Int)
theorem mem_pg {l : List S54} (hf : flashOkB l = true) {p : S63} : p ∈ l.flatMap (·.f0) ↔ ∃ i j, i < 4 ∧ j < 4 ∧ pg l i j = p := by
  have hl := flash_len hf
  rw [List.mem_flatMap]
  constructor
  · rintro ⟨b, hb, hp⟩
    obtain ⟨i, hi, rfl⟩ := List.getElem_of_mem hb
    obtain ⟨j, hj, rfl⟩ := List.getElem_of_mem hp
    have h4 := (flash_block hf i (by omega)).1
    have e : rd_T54 l (i : Int) = l[i] := by simp [rd_T54, List.getD_eq_getElem?_getD, hi]
    refine ⟨i, j, by omega, by rw [← h4, e]; exact hj, ?_⟩
    unfold pg
    rw [e]
    unfold rd_T63
    rw [Int.toNat_natCast, List.getD_eq_getElem?_getD, List.getElem?_eq_getElem hj]
    rfl
  · rintro ⟨i, j, hi, hj, rfl⟩
    have h4 := (flash_block hf i hi).1
    exact ⟨_, rdB_mem (by omega), rdP_mem (by omega)⟩
theorem pg_ok {l : List S54} (hf : flashOkB l = true) {i j : Nat} (hi : i < 4) (hj : j < 4) : pageB (pg l i j) = true := flash_pages hf _ (rdB_mem (by rw [flash_len hf]; exact hi)) _ (rdP_mem (by rw [(flash_block hf i hi).1]; exact hj))
theorem mostP_ge : ∀ (ps : List S63) (m : Int), m ≤ mostP m ps ∧ ∀ p ∈ ps, p.f1.f1 ≤ mostP m ps
  | [], m => ⟨Int.le_refl _, fun p hp => (by cases hp)⟩
  | q :: ps, m => by
    obtain ⟨h1, h2⟩ := mostP_ge ps (mx m q.f1.f1)
    rw [mostP_cons]
    have : m ≤ mx m q.f1.f1 ∧ q.f1.f1 ≤ mx m q.f1.f1 := by unfold mx; split <;> omega
    refine ⟨by omega, fun p hp => ?_⟩
    rcases List.mem_cons.1 hp with rfl | hp
    · omega
    · exact h2 p hp
theorem mostP_at : ∀ (ps : List S63) (m : Int), mostP m ps = m ∨ ∃ p ∈ ps, p.f1.f1 = mostP m ps
  | [], m => .inl rfl
  | q :: ps, m => by
    rw [mostP_cons]
    rcases mostP_at ps (mx m q.f1.f1) with h | ⟨p, hp, h⟩
    · rw [h]
      unfold mx
      split
      · exact .inr ⟨q, List.mem_cons_self, rfl⟩
      · exact .inl rfl
    · exact .inr ⟨p, List.mem_cons_of_mem _ hp, h⟩
theorem pg_small {l : List S54} (hf : flashOkB l = true) {i j : Nat} (hi : i < 4) (hj : j < 4) : 0 ≤ (pg l i j).f1.f1 ∧ (pg l i j).f1.f1 ≤ 600 := by
  have h := pg_ok hf hi hj
  unfold pageB at h
  by_cases h1 : (pg l i j).f0 = 1
  · rw [if_pos h1] at h
    unfold recOkB at h
    rw [decide_eq_true_eq] at h
    omega
  · rw [if_neg h1] at h
    by_cases h2 : (pg l i j).f0 = 0 ∨ (pg l i j).f0 = 2
    · rw [if_pos h2] at h
      simp only [Bool.and_eq_true, beq_iff_eq] at h
      omega
    · rw [if_neg h2] at h
      cases h
def most (l : List S54) : Int := mostP 0 (l.flatMap (·.f0))
theorem most_fact {l : List S54} (hf : flashOkB l = true) : 0 ≤ most l ∧ most l ≤ 600 ∧ (∀ i j, i < 4 → j < 4 → (pg l i j).f1.f1 ≤ most l) ∧ (most l = 0 ∨ ∃ i j, i < 4 ∧ j < 4 ∧ (pg l i j).f1.f1 = most l) := by
  have h1 := mostP_ge (l.flatMap (·.f0)) 0
  have h2 := mostP_at (l.flatMap (·.f0)) 0
  unfold most
  have h3 : ∀ i j, i < 4 → j < 4 → (pg l i j).f1.f1 ≤ mostP 0 (l.flatMap (·.f0)) := fun i j hi hj => h1.2 _ ((mem_pg hf).2 ⟨i, j, hi, hj, rfl⟩)
  rcases h2 with h2 | ⟨p, hp, h2⟩
  · exact ⟨h1.1, by omega, h3, .inl h2⟩
  · obtain ⟨i, j, hi, hj, rfl⟩ := (mem_pg hf).1 hp
    have := pg_small hf hi hj
    exact ⟨h1.1, by omega, h3, .inr ⟨i, j, hi, hj, h2⟩⟩
theorem nextV_eq {l : List S54} (hf : flashOkB l = true) : nextV l = most l + 1 := by
  have h := most_fact hf
  unfold nextV
  rw [if_pos hf]
  exact wrap64_in _ (by unfold most at h; omega)
def lastStep (a : Int) (r : S37) (p : S63) : S37 := if p.f0 = 1 ∧ p.f1.f2 = a ∧ p.f1.f1 > r.f1 then p.f1 else r
def lastA (l : List S54) (a : Int) : S37 := (pagesL l).foldl (lastStep a) ⟨0, 0, 0, 0⟩
theorem spec_last_loops (l : List S54) (a : Int) (hl : l.length ≤ 1048576) (K : Nat) (hb : ∀ b ∈ l, b.f0.length ≤ K) (hK : K ≤ 1048576) :
    ∀ (n i : Nat) (r : S37), i + n = l.length → spec_l3Last.l0 ((K + 2) * n + 1) l a (i : Int) r.f0 r.f1 r.f2 r.f3 = some (let q := ((l.drop i).flatMap (·.f0)).foldl (lastStep a) r; (q.f0, q.f1, q.f2, q.f3, decide (q.f1 > 0)))
  | 0, i, r, h => by
    rw [show (K + 2) * 0 + 1 = 0 + 1 by omega, spec_l3Last.l0, if_neg (by omega), List.drop_eq_nil_of_le (by omega)]
    rfl
  | n + 1, i, r, h => by
    have ih := fun r => spec_last_loops l a hl K hb hK n (i + 1) r (by omega)
    have e1 : wrap64 ((i : Int) + 1) = ((i + 1 : Nat) : Int) := by rw [wrap64_in _ (by omega)]; omega
    have hbi := hb _ (rdB_mem (by omega : i < l.length))
    have inner : ∀ (m j : Nat) (r : S37), j + m = (rd_T54 l (i : Int)).f0.length → spec_l3Last.l1 ((K + 2) * n + 1 + (m + 1)) l a (i : Int) (j : Int) r.f0 r.f1 r.f2 r.f3 =
        some (let q := (((rd_T54 l (i : Int)).f0.drop j) ++ ((l.drop (i + 1)).flatMap (·.f0))).foldl (lastStep a) r; (q.f0, q.f1, q.f2, q.f3, decide (q.f1 > 0))) := by
      intro m
      induction m with
      | zero =>
        intro j r hj
        rw [show (K + 2) * n + 1 + (0 + 1) = (K + 2) * n + 1 + 1 by omega, spec_l3Last.l1, if_pos (by omega), if_pos (by omega), if_neg (by omega), e1, List.drop_eq_nil_of_le (by omega), List.nil_append]
        exact ih r
      | succ m im =>
        intro j r hj
        have e2 : wrap64 ((j : Int) + 1) = ((j + 1 : Nat) : Int) := by rw [wrap64_in _ (by omega)]; omega
        rw [show (K + 2) * n + 1 + (m + 1 + 1) = (K + 2) * n + 1 + (m + 1) + 1 by omega, spec_l3Last.l1, if_pos (by omega), if_pos (by omega), if_pos (by omega), if_pos (by omega), e2, dropP_cons (by omega : j < (rd_T54 l (i : Int)).f0.length), List.cons_append, List.foldl_cons]
        unfold lastStep
        by_cases h1 : (rd_T63 (rd_T54 l (i : Int)).f0 (j : Int)).f0 = 1
        · rw [if_pos h1]
          by_cases h2 : (rd_T63 (rd_T54 l (i : Int)).f0 (j : Int)).f1.f2 = a
          · rw [if_pos h2]
            by_cases h3 : (rd_T63 (rd_T54 l (i : Int)).f0 (j : Int)).f1.f1 > r.f1
            · rw [if_pos h3, if_pos ⟨h1, h2, h3⟩]
              exact im (j + 1) _ (by omega)
            · rw [if_neg h3, if_neg (fun h => h3 h.2.2)]
              exact im (j + 1) r (by omega)
          · rw [if_neg h2, if_neg (fun h => h2 h.2.1)]
            exact im (j + 1) r (by omega)
        · rw [if_neg h1, if_neg (fun h => h1 h.1)]
          exact im (j + 1) r (by omega)
    have hlift := inner ((rd_T54 l (i : Int)).f0.length) 0 r (by omega)
    rw [dropB_cons (by omega : i < l.length), List.flatMap_cons]
    rw [List.drop_zero] at hlift
    refine at_rounds (g := fun k => spec_l3Last.l0 k l a (i : Int) r.f0 r.f1 r.f2 r.f3) (fun k => (spec_l3Last.mono_l k).1 _ _ _ _ _ _ _) (k := (K + 2) * n + 1 + ((rd_T54 l (i : Int)).f0.length + 1) + 1) (by rw [Nat.mul_add]; omega) ?_
    show spec_l3Last.l0 _ _ _ _ _ _ _ _ = _
    rw [spec_l3Last.l0, if_pos (by omega)]
    exact hlift
theorem l3Last_ok {l : List S54} (hf : flashOkB l = true) (a : Int) (k : Nat) (hk : 25 ≤ k) : spec_l3Last.f k l a = some ((lastA l a).f0, (lastA l a).f1, (lastA l a).f2, (lastA l a).f3, decide ((lastA l a).f1 > 0)) := by
  have hlen := flash_len hf
  have h4 : ∀ b ∈ l, b.f0.length ≤ 4 := fun b hb => by
    obtain ⟨i, hi, rfl⟩ := List.getElem_of_mem hb
    have := (flash_block hf i (by omega)).1
    rw [show rd_T54 l (i : Int) = l[i] by simp [rd_T54, List.getD_eq_getElem?_getD, hi]] at this
    omega
  have := spec_last_loops l a (by omega) 4 h4 (by omega) 4 0 ⟨0, 0, 0, 0⟩ (by omega)
  unfold spec_l3Last.f lastA pagesL
  rw [pagesL_flat]
  exact at_rounds (g := fun k => spec_l3Last.l0 k l a 0 0 0 0 0) (fun k => (spec_l3Last.mono_l k).1 _ _ _ _ _ _ _) (k := (4 + 2) * 4 + 1) (by omega) this
theorem lastStep_ge (a : Int) : ∀ (ps : List S63) (r : S37), r.f1 ≤ (ps.foldl (lastStep a) r).f1
  | [], r => Int.le_refl _
  | p :: ps, r => by
    rw [List.foldl_cons]
    refine Int.le_trans ?_ (lastStep_ge a ps _)
    unfold lastStep
    split <;> omega
theorem lastStep_mem (a : Int) : ∀ (ps : List S63) (r : S37) (p : S63), p ∈ ps → p.f0 = 1 → p.f1.f2 = a → p.f1.f1 ≤ (ps.foldl (lastStep a) r).f1
  | q :: ps, r, p, hp, h1, h2 => by
    rw [List.foldl_cons]
    rcases List.mem_cons.1 hp with rfl | hp
    · refine Int.le_trans ?_ (lastStep_ge a ps _)
      unfold lastStep
      split
      · exact Int.le_refl _
      · rename_i h
        by_cases h3 : p.f1.f1 > r.f1
        · exact absurd ⟨h1, h2, h3⟩ h
        · omega
    · exact lastStep_mem a ps _ p hp h1 h2
theorem lastStep_from (a : Int) : ∀ (ps : List S63) (r : S37), ps.foldl (lastStep a) r = r ∨ ∃ p ∈ ps, p.f0 = 1 ∧ p.f1.f2 = a ∧ ps.foldl (lastStep a) r = p.f1
  | [], r => .inl rfl
  | p :: ps, r => by
    rw [List.foldl_cons]
    rcases lastStep_from a ps (lastStep a r p) with h | ⟨q, hq, h1, h2, h3⟩
    · rw [h]
      unfold lastStep
      split
      · rename_i hc
        exact .inr ⟨p, List.mem_cons_self, hc.1, hc.2.1, rfl⟩
      · exact .inl rfl
    · exact .inr ⟨q, List.mem_cons_of_mem _ hq, h1, h2, h3⟩
def onP (l : List S54) (a : Int) (i j : Nat) : Prop := (pg l i j).f0 = 1 ∧ (pg l i j).f1.f2 = a
theorem lastA_le {l : List S54} (hf : flashOkB l = true) {a : Int} {i j : Nat} (hi : i < 4) (hj : j < 4) (h : onP l a i j) : (pg l i j).f1.f1 ≤ (lastA l a).f1 := by
  unfold lastA pagesL
  rw [pagesL_flat]
  exact lastStep_mem a _ _ _ ((mem_pg hf).2 ⟨i, j, hi, hj, rfl⟩) h.1 h.2
theorem lastA_at {l : List S54} (hf : flashOkB l = true) {a : Int} (h : (lastA l a).f1 > 0) : ∃ i j, i < 4 ∧ j < 4 ∧ onP l a i j ∧ (pg l i j).f1 = lastA l a := by
  have h0 := h
  unfold lastA pagesL at h ⊢
  rw [pagesL_flat] at h ⊢
  rcases lastStep_from a (l.flatMap (·.f0)) ⟨0, 0, 0, 0⟩ with e | ⟨p, hp, h1, h2, h3⟩
  · rw [e] at h
    exact absurd h (by decide)
  · obtain ⟨i, j, hi, hj, rfl⟩ := (mem_pg hf).1 hp
    exact ⟨i, j, hi, hj, ⟨h1, h2⟩, h3.symm⟩
theorem onP_seq {l : List S54} (hf : flashOkB l = true) {a : Int} {i j : Nat} (hi : i < 4) (hj : j < 4) (h : onP l a i j) : 1 ≤ (pg l i j).f1.f1 ∧ (pg l i j).f1.f1 ≤ 600 ∧ 1 ≤ a ∧ a ≤ 6 := by
  have h2 := pg_ok hf hi hj
  unfold pageB at h2
  rw [if_pos h.1] at h2
  unfold recOkB at h2
  rw [decide_eq_true_eq] at h2
  have h3 := h.2
  omega
theorem lastA_iff {l : List S54} (hf : flashOkB l = true) (a : Int) : (lastA l a).f1 > 0 ↔ ∃ i j, i < 4 ∧ j < 4 ∧ onP l a i j := by
  constructor
  · intro h
    obtain ⟨i, j, hi, hj, h1, _⟩ := lastA_at hf h
    exact ⟨i, j, hi, hj, h1⟩
  · rintro ⟨i, j, hi, hj, h⟩
    have := lastA_le hf hi hj h
    have := (onP_seq hf hi hj h).1
    omega
theorem rdP_cons {p : S63} {ps : List S63} (j : Nat) : rd_T63 (p :: ps) ((j + 1 : Nat) : Int) = rd_T63 ps (j : Int) := by
  unfold rd_T63
  rw [Int.toNat_natCast, Int.toNat_natCast]
  rfl
theorem shape_clean : ∀ ps : List S63, shapeB ps true = true → freeN ps = ps.length ∧ ∀ i : Nat, i < ps.length → (rd_T63 ps (i : Int)).f0 = 0
  | [], _ => ⟨rfl, fun i h => absurd h (Nat.not_lt_zero _)⟩
  | p :: ps, h => by
    rw [shapeB] at h
    by_cases h0 : p.f0 = 0
    · rw [if_neg (fun hq => hq.2 h0), h0] at h
      obtain ⟨h1, h2⟩ := shape_clean ps h
      refine ⟨by rw [freeN, if_pos h0, h1, List.length_cons]; omega, fun i hi => ?_⟩
      cases i with
      | zero => exact h0
      | succ i =>
        rw [rdP_cons]
        exact h2 i (by simpa using hi)
    · rw [if_pos ⟨rfl, h0⟩] at h
      cases h
theorem shape_at : ∀ ps : List S63, shapeB ps false = true → ∀ i : Nat, i < ps.length → ((rd_T63 ps (i : Int)).f0 = 0 ↔ ps.length ≤ i + freeN ps)
  | [], _, i, h => absurd h (Nat.not_lt_zero _)
  | p :: ps, h, i, hi => by
    rw [shapeB, if_neg (fun hq => absurd hq.1 (by decide))] at h
    by_cases h0 : p.f0 = 0
    · rw [h0] at h
      obtain ⟨h1, h2⟩ := shape_clean ps h
      rw [freeN, if_pos h0, h1, List.length_cons]
      refine ⟨fun _ => by omega, fun _ => ?_⟩
      cases i with
      | zero => exact h0
      | succ i =>
        rw [rdP_cons]
        exact h2 i (by simpa using hi)
    · rw [beq_eq_false_iff_ne.mpr h0] at h
      have hle := freeN_le ps
      rw [freeN, if_neg h0, List.length_cons]
      cases i with
      | zero => exact ⟨fun hq => absurd hq h0, fun hq => by omega⟩
      | succ i =>
        rw [rdP_cons, shape_at ps h i (by simpa using hi)]
        omega
theorem pagesB_sub : ∀ (ps : List S63) (S S' : List Int), pagesB ps S = some S' → (∀ x ∈ S, x ∈ S') ∧ ∀ j : Nat, j < ps.length → (rd_T63 ps (j : Int)).f0 = 1 → (rd_T63 ps (j : Int)).f1.f1 ∈ S' ∧ (rd_T63 ps (j : Int)).f1.f1 ∉ S
  | [], S, S', h => by
    cases h
    exact ⟨fun _ hx => hx, fun j hj => absurd hj (Nat.not_lt_zero _)⟩
  | p :: ps, S, S', h => by
    rw [pagesB] at h
    by_cases hp : pageB p = true
    · rw [if_pos hp] at h
      by_cases h1 : p.f0 = 1
      · rw [if_pos h1] at h
        by_cases hm : p.f1.f1 ∈ S
        · rw [if_pos hm] at h
          cases h
        · rw [if_neg hm] at h
          obtain ⟨s1, s2⟩ := pagesB_sub ps _ _ h
          refine ⟨fun x hx => s1 x (List.mem_cons_of_mem _ hx), fun j hj hw => ?_⟩
          cases j with
          | zero => exact ⟨s1 _ List.mem_cons_self, hm⟩
          | succ j =>
            rw [rdP_cons] at hw ⊢
            obtain ⟨q1, q2⟩ := s2 j (by simpa using hj) hw
            exact ⟨q1, fun hq => q2 (List.mem_cons_of_mem _ hq)⟩
      · rw [if_neg h1] at h
        obtain ⟨s1, s2⟩ := pagesB_sub ps _ _ h
        refine ⟨s1, fun j hj hw => ?_⟩
        cases j with
        | zero => exact absurd hw h1
        | succ j =>
          rw [rdP_cons] at hw ⊢
          exact s2 j (by simpa using hj) hw
    · rw [if_neg hp] at h
      cases h
theorem pagesB_ne : ∀ (ps : List S63) (S S' : List Int), pagesB ps S = some S' → ∀ j j' : Nat, j < j' → j' < ps.length → (rd_T63 ps (j : Int)).f0 = 1 → (rd_T63 ps (j' : Int)).f0 = 1 → (rd_T63 ps (j : Int)).f1.f1 ≠ (rd_T63 ps (j' : Int)).f1.f1
  | [], _, _, _, j, j', _, h2, _, _ => absurd h2 (Nat.not_lt_zero _)
  | p :: ps, S, S', h, j, j', h1, h2, w1, w2 => by
    rw [pagesB] at h
    obtain ⟨j', rfl⟩ : ∃ m, j' = m + 1 := ⟨j' - 1, by omega⟩
    have hj' : j' < ps.length := by simpa using h2
    rw [rdP_cons] at w2 ⊢
    by_cases hp : pageB p = true
    · rw [if_pos hp] at h
      by_cases hw : p.f0 = 1
      · rw [if_pos hw] at h
        by_cases hm : p.f1.f1 ∈ S
        · rw [if_pos hm] at h
          cases h
        · rw [if_neg hm] at h
          cases j with
          | zero =>
            have := ((pagesB_sub ps _ _ h).2 j' hj' w2).2
            intro e
            exact this (by rw [← e]; exact List.mem_cons_self)
          | succ j =>
            rw [rdP_cons] at w1 ⊢
            exact pagesB_ne ps _ _ h j j' (by omega) hj' w1 w2
      · rw [if_neg hw] at h
        cases j with
        | zero => exact absurd w1 hw
        | succ j =>
          rw [rdP_cons] at w1 ⊢
          exact pagesB_ne ps _ _ h j j' (by omega) hj' w1 w2
    · rw [if_neg hp] at h
      cases h
theorem blocksB_out : ∀ (bs : List S54) (S : List Int), blocksB bs S = true → ∀ i j : Nat, i < bs.length → j < (rd_T54 bs (i : Int)).f0.length → (pg bs i j).f0 = 1 → (pg bs i j).f1.f1 ∉ S
  | [], _, _, i, j, h, _, _ => absurd h (Nat.not_lt_zero _)
  | b :: bs, S, h, i, j, hi, hj, hw => by
    rw [blocksB, Bool.and_eq_true] at h
    cases hp : pagesB b.f0 S with
    | none => rw [hp] at h; exact absurd h.2 (by simp)
    | some S' =>
      rw [hp] at h
      cases i with
      | zero => exact ((pagesB_sub _ _ _ hp).2 j hj hw).2
      | succ i =>
        unfold pg at hw ⊢
        rw [rdB_cons] at hw hj ⊢
        exact fun hq => blocksB_out bs S' h.2 i j (by simpa using hi) hj hw ((pagesB_sub _ _ _ hp).1 _ hq)
theorem blocksB_ne : ∀ (bs : List S54) (S : List Int), blocksB bs S = true → ∀ i j i' j' : Nat, i < i' ∨ (i = i' ∧ j < j') → i' < bs.length → j < (rd_T54 bs (i : Int)).f0.length → j' < (rd_T54 bs (i' : Int)).f0.length → (pg bs i j).f0 = 1 → (pg bs i' j').f0 = 1 → (pg bs i j).f1.f1 ≠ (pg bs i' j').f1.f1
  | [], _, _, _, _, i', _, _, h, _, _, _, _ => absurd h (Nat.not_lt_zero _)
  | b :: bs, S, h, i, j, i', j', hlt, hi', hj, hj', w1, w2 => by
    rw [blocksB, Bool.and_eq_true] at h
    cases hp : pagesB b.f0 S with
    | none => rw [hp] at h; exact absurd h.2 (by simp)
    | some S' =>
      rw [hp] at h
      cases i' with
      | zero =>
        obtain ⟨rfl, hjj⟩ : i = 0 ∧ j < j' := by omega
        exact pagesB_ne _ _ _ hp j j' hjj hj' w1 w2
      | succ i' =>
        cases i with
        | zero =>
          have q1 := ((pagesB_sub _ _ _ hp).2 j hj w1).1
          unfold pg at w2 ⊢
          rw [rdB_cons] at w2 hj' ⊢
          have q2 := blocksB_out bs S' h.2 i' j' (by simpa using hi') hj' w2
          intro e
          exact q2 (by rw [show (pg bs i' j').f1.f1 = _ from e.symm]; exact q1)
        | succ i =>
          unfold pg at w1 w2 ⊢
          rw [rdB_cons] at w1 w2 hj' hj ⊢
          exact blocksB_ne bs S' h.2 i j i' j' (by omega) (by simpa using hi') hj hj' w1 w2
theorem seq_one {l : List S54} (hf : flashOkB l = true) {i j i' j' : Nat} (hi : i < 4) (hj : j < 4) (hi' : i' < 4) (hj' : j' < 4) (w1 : (pg l i j).f0 = 1) (w2 : (pg l i' j').f0 = 1) (e : (pg l i j).f1.f1 = (pg l i' j').f1.f1) : i = i' ∧ j = j' := by
  have hl := flash_len hf
  have b1 := (flash_block hf i hi).1
  have b2 := (flash_block hf i' hi').1
  have hB : blocksB l [] = true := by
    unfold flashOkB at hf
    rw [Bool.and_eq_true] at hf
    exact hf.2
  by_cases h1 : i < i' ∨ (i = i' ∧ j < j')
  · exact absurd e (blocksB_ne l [] hB i j i' j' h1 (by omega) (by omega) (by omega) w1 w2)
  by_cases h2 : i' < i ∨ (i' = i ∧ j' < j)
  · exact absurd e.symm (blocksB_ne l [] hB i' j' i j h2 (by omega) (by omega) (by omega) w2 w1)
  omega
theorem pagesB_mk : ∀ (ps : List S63) (S : List Int), (∀ j : Nat, j < ps.length → pageB (rd_T63 ps (j : Int)) = true) → (∀ j : Nat, j < ps.length → (rd_T63 ps (j : Int)).f0 = 1 → (rd_T63 ps (j : Int)).f1.f1 ∉ S) → (∀ j j' : Nat, j < j' → j' < ps.length → (rd_T63 ps (j : Int)).f0 = 1 → (rd_T63 ps (j' : Int)).f0 = 1 → (rd_T63 ps (j : Int)).f1.f1 ≠ (rd_T63 ps (j' : Int)).f1.f1) →
    ∃ S', pagesB ps S = some S' ∧ ∀ x ∈ S', x ∈ S ∨ ∃ j : Nat, j < ps.length ∧ (rd_T63 ps (j : Int)).f0 = 1 ∧ (rd_T63 ps (j : Int)).f1.f1 = x
  | [], S, _, _, _ => ⟨S, rfl, fun x hx => .inl hx⟩
  | p :: ps, S, hp, hS, hd => by
    have h0 : pageB p = true := hp 0 (by simp)
    have up : ∀ j : Nat, j < ps.length → j + 1 < (p :: ps).length := fun j hj => by simpa using hj
    have hp' : ∀ j : Nat, j < ps.length → pageB (rd_T63 ps (j : Int)) = true := fun j hj => by
      have := hp (j + 1) (up j hj)
      rwa [rdP_cons] at this
    have hd' : ∀ j j' : Nat, j < j' → j' < ps.length → (rd_T63 ps (j : Int)).f0 = 1 → (rd_T63 ps (j' : Int)).f0 = 1 → (rd_T63 ps (j : Int)).f1.f1 ≠ (rd_T63 ps (j' : Int)).f1.f1 := fun j j' h1 h2 => by
      have := hd (j + 1) (j' + 1) (by omega) (up j' h2)
      rwa [rdP_cons, rdP_cons] at this
    have hS' : ∀ j : Nat, j < ps.length → (rd_T63 ps (j : Int)).f0 = 1 → (rd_T63 ps (j : Int)).f1.f1 ∉ S := fun j hj hw => by
      have := hS (j + 1) (up j hj)
      rw [rdP_cons] at this
      exact this hw
    rw [pagesB, if_pos h0]
    by_cases hw : p.f0 = 1
    · have hn : p.f1.f1 ∉ S := hS 0 (by simp) hw
      rw [if_pos hw, if_neg hn]
      obtain ⟨S', e, hx⟩ := pagesB_mk ps (p.f1.f1 :: S) hp' (fun j hj hwj hq => by
        rcases List.mem_cons.1 hq with hq | hq
        · have := hd 0 (j + 1) (by omega) (up j hj) hw
          rw [rdP_cons] at this
          exact this hwj hq.symm
        · exact hS' j hj hwj hq) hd'
      refine ⟨S', e, fun x hm => ?_⟩
      rcases hx x hm with h | ⟨j, hj, h1, h2⟩
      · rcases List.mem_cons.1 h with h | h
        · exact .inr ⟨0, by simp, hw, h.symm⟩
        · exact .inl h
      · refine .inr ⟨j + 1, up j hj, ?_⟩
        rw [rdP_cons]
        exact ⟨h1, h2⟩
    · rw [if_neg hw]
      obtain ⟨S', e, hx⟩ := pagesB_mk ps S hp' hS' hd'
      refine ⟨S', e, fun x hm => ?_⟩
      rcases hx x hm with h | ⟨j, hj, h1, h2⟩
      · exact .inl h
      · refine .inr ⟨j + 1, up j hj, ?_⟩
        rw [rdP_cons]
        exact ⟨h1, h2⟩
theorem blocksB_mk : ∀ (bs : List S54) (S : List Int), (∀ i : Nat, i < bs.length → blockB (rd_T54 bs (i : Int)) = true) → (∀ i j : Nat, i < bs.length → j < (rd_T54 bs (i : Int)).f0.length → pageB (pg bs i j) = true) → (∀ i j : Nat, i < bs.length → j < (rd_T54 bs (i : Int)).f0.length → (pg bs i j).f0 = 1 → (pg bs i j).f1.f1 ∉ S) →
    (∀ i j i' j' : Nat, i < i' ∨ (i = i' ∧ j < j') → i' < bs.length → j < (rd_T54 bs (i : Int)).f0.length → j' < (rd_T54 bs (i' : Int)).f0.length → (pg bs i j).f0 = 1 → (pg bs i' j').f0 = 1 → (pg bs i j).f1.f1 ≠ (pg bs i' j').f1.f1) → blocksB bs S = true
  | [], _, _, _, _, _ => rfl
  | b :: bs, S, hb, hp, hS, hd => by
    have up : ∀ i : Nat, i < bs.length → i + 1 < (b :: bs).length := fun i hi => by simpa using hi
    have e : ∀ i j : Nat, pg (b :: bs) (i + 1) j = pg bs i j := fun i j => by unfold pg; rw [rdB_cons]
    obtain ⟨S', e1, hx⟩ := pagesB_mk b.f0 S (fun j hj => hp 0 j (by simp) hj) (fun j hj hw => hS 0 j (by simp) hj hw) (fun j j' h1 h2 w1 w2 => hd 0 j 0 j' (.inr ⟨rfl, h1⟩) (by simp) (Nat.lt_trans h1 h2) h2 w1 w2)
    rw [blocksB, Bool.and_eq_true, e1]
    refine ⟨hb 0 (by simp), blocksB_mk bs S' (fun i hi => ?_) (fun i j hi hj => ?_) (fun i j hi hj hw hm => ?_) (fun i j i' j' h1 h2 h3 h4 w1 w2 => ?_)⟩
    · have := hb (i + 1) (up i hi)
      rwa [rdB_cons] at this
    · have := hp (i + 1) j (up i hi) (by rw [rdB_cons]; exact hj)
      rwa [e] at this
    · rcases hx _ hm with h | ⟨j0, hj0, h1, h2⟩
      · have := hS (i + 1) j (up i hi) (by rw [rdB_cons]; exact hj)
        rw [e] at this
        exact this hw h
      · have := hd 0 j0 (i + 1) j (.inl (by omega)) (up i hi) hj0 (by rw [rdB_cons]; exact hj) h1
        rw [e] at this
        exact this hw h2
    · have := hd (i + 1) j (i' + 1) j' (by omega) (up i' h2) (by rw [rdB_cons]; exact h3) (by rw [rdB_cons]; exact h4)
      rw [e, e] at this
      exact this w1 w2
theorem flash_iff (l : List S54) : flashOkB l = true ↔ l.length = 4 ∧ (∀ i : Nat, i < 4 → blockB (rd_T54 l (i : Int)) = true) ∧ (∀ i j : Nat, i < 4 → j < 4 → pageB (pg l i j) = true) ∧ ∀ i j i' j' : Nat, i < 4 → j < 4 → i' < 4 → j' < 4 → (pg l i j).f0 = 1 → (pg l i' j').f0 = 1 → (pg l i j).f1.f1 = (pg l i' j').f1.f1 → i = i' ∧ j = j' := by
  constructor
  · intro hf
    have hl := flash_len hf
    have hB : blocksB l [] = true := by
      unfold flashOkB at hf
      rw [Bool.and_eq_true] at hf
      exact hf.2
    exact ⟨hl, fun i hi => blocksB_all l [] hB i (by omega), fun i j hi hj => pg_ok hf hi hj, fun i j i' j' hi hj hi' hj' w1 w2 e => seq_one hf hi hj hi' hj' w1 w2 e⟩
  · rintro ⟨hl, hb, hp, hd⟩
    have h4 : ∀ i : Nat, i < 4 → (rd_T54 l (i : Int)).f0.length = 4 := fun i hi => by
      have := hb i hi
      unfold blockB at this
      rw [Bool.and_eq_true, decide_eq_true_eq] at this
      omega
    unfold flashOkB
    rw [Bool.and_eq_true, decide_eq_true_eq]
    refine ⟨by omega, blocksB_mk l [] (fun i hi => hb i (by omega)) (fun i j hi hj => hp i j (by omega) (by rw [← h4 i (by omega)]; exact hj)) (fun i j hi hj hw hm => by cases hm) (fun i j i' j' h1 h2 h3 h4' w1 w2 he => ?_)⟩
    have hi : i < 4 := by omega
    have hi' : i' < 4 := by omega
    rw [h4 i hi] at h3
    rw [h4 i' hi'] at h4'
    have := hd i j i' j' hi h3 hi' h4' w1 w2 he
    omega
theorem rdB_set {l : List S54} {i : Nat} (hi : i < l.length) (b : S54) (k : Nat) : rd_T54 (l.set i b) (k : Int) = if k = i then b else rd_T54 l (k : Int) := by
  unfold rd_T54
  rw [Int.toNat_natCast, List.getD_eq_getElem?_getD, List.getD_eq_getElem?_getD]
  by_cases h : k = i
  · rw [if_pos h, h, List.getElem?_set_self hi]
    rfl
  · rw [if_neg h, List.getElem?_set_ne (fun e => h e.symm)]
theorem rdP_set {l : List S63} {i : Nat} (hi : i < l.length) (b : S63) (k : Nat) : rd_T63 (l.set i b) (k : Int) = if k = i then b else rd_T63 l (k : Int) := by
  unfold rd_T63
  rw [Int.toNat_natCast, List.getD_eq_getElem?_getD, List.getD_eq_getElem?_getD]
  by_cases h : k = i
  · rw [if_pos h, h, List.getElem?_set_self hi]
    rfl
  · rw [if_neg h, List.getElem?_set_ne (fun e => h e.symm)]
def setPg (l : List S54) (i j : Nat) (p : S63) : List S54 := l.set i ⟨(rd_T54 l (i : Int)).f0.set j p, (rd_T54 l (i : Int)).f1⟩
theorem pg_set {l : List S54} {i j : Nat} (hi : i < l.length) (hj : j < (rd_T54 l (i : Int)).f0.length) (p : S63) (a b : Nat) : pg (setPg l i j p) a b = if a = i ∧ b = j then p else pg l a b := by
  unfold pg setPg
  rw [rdB_set hi]
  by_cases ha : a = i
  · rw [if_pos ha]
    show rd_T63 ((rd_T54 l (i : Int)).f0.set j p) (b : Int) = _
    rw [rdP_set hj, ha]
    by_cases hb : b = j
    · rw [if_pos hb, if_pos ⟨rfl, hb⟩]
    · rw [if_neg hb, if_neg (fun h => hb h.2)]
  · rw [if_neg ha, if_neg (fun h => ha h.1)]
theorem shape_iff : ∀ (ps : List S63) (free : Bool), shapeB ps free = true ↔ (free = true → ∀ j : Nat, j < ps.length → (rd_T63 ps (j : Int)).f0 = 0) ∧ ∀ j : Nat, j + 1 < ps.length → (rd_T63 ps (j : Int)).f0 = 0 → (rd_T63 ps ((j + 1 : Nat) : Int)).f0 = 0
  | [], free => ⟨fun _ => ⟨fun _ j h => absurd h (Nat.not_lt_zero _), fun j h => absurd h (Nat.not_lt_zero _)⟩, fun _ => rfl⟩
  | p :: ps, free => by
    rw [shapeB]
    have ih := shape_iff ps (p.f0 == 0)
    have c0 : (rd_T63 (p :: ps) ((0 : Nat) : Int)) = p := rfl
    by_cases hc : free = true ∧ p.f0 ≠ 0
    · rw [if_pos hc]
      refine ⟨fun h => (by cases h), fun h => absurd (h.1 hc.1 0 (by simp)) ?_⟩
      rw [c0]
      exact hc.2
    · rw [if_neg hc, ih]
      constructor
      · rintro ⟨h1, h2⟩
        have h3 : ∀ j : Nat, j + 1 < (p :: ps).length → (rd_T63 (p :: ps) (j : Int)).f0 = 0 → (rd_T63 (p :: ps) ((j + 1 : Nat) : Int)).f0 = 0 := fun j hj h0 => by
          rw [rdP_cons]
          cases j with
          | zero => exact h1 (beq_iff_eq.2 h0) 0 (by simpa using hj)
          | succ j =>
            rw [rdP_cons] at h0
            exact h2 j (by simpa using hj) h0
        refine ⟨fun hfree j hj => ?_, h3⟩
        have hp0 : p.f0 = 0 := Decidable.byContradiction fun h => hc ⟨hfree, h⟩
        cases j with
        | zero => exact hp0
        | succ j =>
          rw [rdP_cons]
          exact h1 (beq_iff_eq.2 hp0) j (by simpa using hj)
      · rintro ⟨h1, h2⟩
        have step : ∀ j : Nat, j < ps.length → p.f0 = 0 → (rd_T63 ps (j : Int)).f0 = 0 := by
          intro j
          induction j with
          | zero =>
            intro hj h0
            have := h2 0 (by simpa using hj) h0
            rwa [rdP_cons] at this
          | succ j ij =>
            intro hj h0
            have := h2 (j + 1) (by simpa using hj) (by rw [rdP_cons]; exact ij (by omega) h0)
            rwa [rdP_cons] at this
        refine ⟨fun h0 j hj => step j hj (beq_iff_eq.1 h0), fun j hj h0 => ?_⟩
        have := h2 (j + 1) (by simpa using hj) (by rw [rdP_cons]; exact h0)
        rwa [rdP_cons] at this
theorem setPg_len (l : List S54) (i j : Nat) (p : S63) : (setPg l i j p).length = l.length := by
  unfold setPg
  exact List.length_set
theorem rdB_setPg {l : List S54} {i : Nat} (hi : i < l.length) (j : Nat) (p : S63) (a : Nat) : rd_T54 (setPg l i j p) (a : Int) = if a = i then ⟨(rd_T54 l (i : Int)).f0.set j p, (rd_T54 l (i : Int)).f1⟩ else rd_T54 l (a : Int) := rdB_set hi _ a
theorem free_at {l : List S54} (hf : flashOkB l = true) {i j : Nat} (hi : i < 4) (hj : j < 4) : (pg l i j).f0 = 0 ↔ 4 ≤ j + freeN (rd_T54 l (i : Int)).f0 := by
  have h := flash_block hf i hi
  have := shape_at _ h.2.2.2 j (by omega)
  rw [h.1] at this
  exact this
theorem wr_ok {l : List S54} (hf : flashOkB l = true) {i n : Nat} (hi : i < 4) (hn : freeN (rd_T54 l (i : Int)).f0 = n) (h0 : n ≠ 0) {p : S63} (hp : pageB p = true) (hp0 : p.f0 ≠ 0) (hu : p.f0 = 1 → usedN l p.f1.f1 = false) : flashOkB (setPg l i (4 - n) p) = true := by
  have hl := flash_len hf
  have hb := flash_block hf i hi
  have hi' : i < l.length := by omega
  have hj' : 4 - n < (rd_T54 l (i : Int)).f0.length := by omega
  have P := pg_set hi' hj' p
  have nu : ∀ a b : Nat, a < 4 → b < 4 → p.f0 = 1 → (pg l a b).f0 = 1 → (pg l a b).f1.f1 ≠ p.f1.f1 := fun a b ha hb w1 w2 e => by
    have := hu w1
    rw [(usedN_at l p.f1.f1).2 ⟨pg l a b, (mem_pg hf).2 ⟨a, b, ha, hb, rfl⟩, w2, e⟩] at this
    cases this
  rw [flash_iff, setPg_len]
  refine ⟨hl, fun a ha => ?_, fun a b ha hb => ?_, fun a b a' b' ha hb ha' hb' => ?_⟩
  · rw [rdB_setPg hi']
    by_cases hc : a = i
    · rw [if_pos hc]
      unfold blockB
      rw [Bool.and_eq_true, decide_eq_true_eq, shape_iff]
      refine ⟨⟨by rw [List.length_set]; omega, hb.2.1, hb.2.2.1⟩, fun h => (by cases h), fun j hj => ?_⟩
      rw [List.length_set] at hj
      rw [rdP_set hj', rdP_set hj']
      intro hz
      have F := fun (j : Nat) (hj : j < 4) => free_at hf hi hj
      unfold pg at F
      by_cases h1 : j = 4 - n
      · rw [if_pos h1] at hz
        exact absurd hz hp0
      · rw [if_neg h1] at hz
        have := (F j (by omega)).1 hz
        rw [if_neg (by omega)]
        exact (F (j + 1) (by omega)).2 (by omega)
    · rw [if_neg hc]
      exact ((flash_iff l).1 hf).2.1 a ha
  · rw [P]
    split
    · exact hp
    · exact pg_ok hf ha hb
  · rw [P, P]
    by_cases h1 : a = i ∧ b = 4 - n
    · rw [if_pos h1]
      by_cases h2 : a' = i ∧ b' = 4 - n
      · exact fun _ _ _ => by omega
      · rw [if_neg h2]
        exact fun w1 w2 e => absurd e.symm (nu a' b' ha' hb' w1 w2)
    · rw [if_neg h1]
      by_cases h2 : a' = i ∧ b' = 4 - n
      · rw [if_pos h2]
        exact fun w1 w2 e => absurd e (nu a b ha hb w2 w1)
      · rw [if_neg h2]
        exact fun w1 w2 e => seq_one hf ha hb ha' hb' w1 w2 e
theorem fw_yes {l : List S54} {b : Nat} {r0 r1 r2 r3 : Int} (h : fwB l (b : Int) r0 r1 r2 r3 = true) : FwG l (b : Int) r0 r1 r2 r3 ∧ freeN (rd_T54 l (b : Int)).f0 ≠ 0 ∧ usedN l r1 = false := by
  unfold fwB at h
  by_cases hg : FwG l (b : Int) r0 r1 r2 r3
  · rw [if_pos hg] at h
    unfold okFW fwN at h
    rw [Bool.and_eq_true, decide_eq_true_eq, Bool.not_eq_true'] at h
    exact ⟨hg, by omega, h.2⟩
  · rw [if_neg hg] at h
    cases h
theorem fw_put {l : List S54} {b : Nat} {r0 r1 r2 r3 : Int} (hg : FwG l (b : Int) r0 r1 r2 r3) (h0 : freeN (rd_T54 l (b : Int)).f0 ≠ 0) (hu : usedN l r1 = false) (tn : Bool) : fwV l (b : Int) r0 r1 r2 r3 tn = setPg l b (4 - freeN (rd_T54 l (b : Int)).f0) (pageFW r0 r1 r2 r3 tn) ∧ fwB l (b : Int) r0 r1 r2 r3 = true := by
  have hb : (b : Int) < 4 := hg.2.1.2
  have hle := freeN_le (rd_T54 l (b : Int)).f0
  rw [(flash_block hg.1 b (by omega)).1] at hle
  have hne : fwN l (b : Int) ≠ 0 := by unfold fwN; omega
  unfold fwV fwB
  rw [if_pos hg, if_pos hg, hu, (outFW_yes hne).1, (outFW_yes (l0 := l) (b := (b : Int)) (p := pageFW r0 r1 r2 r3 tn) hne).2]
  refine ⟨?_, rfl⟩
  unfold listFW setPg fwN
  rw [Int.toNat_natCast, show ((4 : Int) - ((freeN (rd_T54 l (b : Int)).f0 : Nat) : Int)).toNat = 4 - freeN (rd_T54 l (b : Int)).f0 by omega]
theorem pageFW_ok {r0 r1 r2 r3 : Int} (h : recOkB r0 r1 r2 r3 = true) (tn : Bool) : pageB (pageFW r0 r1 r2 r3 tn) = true ∧ (pageFW r0 r1 r2 r3 tn).f0 ≠ 0 := by
  cases tn
  · exact ⟨h, by show (1 : Int) ≠ 0; decide⟩
  · exact ⟨rfl, by show (2 : Int) ≠ 0; decide⟩
theorem pageFW_seq {r0 r1 r2 r3 s : Int} {tn : Bool} (h : (pageFW r0 r1 r2 r3 tn).f0 = 1 ∧ (pageFW r0 r1 r2 r3 tn).f1.f1 = s) : r1 = s := by
  cases tn
  · exact h.2
  · exact absurd h.1 (by show ¬ (2 : Int) = 1; decide)
theorem fw_ok {l : List S54} {b : Nat} {r0 r1 r2 r3 : Int} (h : fwB l (b : Int) r0 r1 r2 r3 = true) (tn : Bool) : flashOkB (fwV l (b : Int) r0 r1 r2 r3 tn) = true := by
  obtain ⟨hg, h0, hu⟩ := fw_yes h
  have hb : (b : Int) < 4 := hg.2.1.2
  have hp := pageFW_ok hg.2.2 tn
  rw [(fw_put hg h0 hu tn).1]
  refine wr_ok hg.1 (by omega) rfl h0 hp.1 hp.2 (fun w => ?_)
  have : r1 = (pageFW r0 r1 r2 r3 tn).f1.f1 := pageFW_seq ⟨w, rfl⟩
  rw [← this]
  exact hu
theorem used_no {l : List S54} (hf : flashOkB l = true) {s : Int} (h : most l < s) : usedN l s = false := by
  cases hc : usedN l s with
  | false => rfl
  | true =>
    obtain ⟨p, hp, h1, h2⟩ := (usedN_at l s).1 hc
    obtain ⟨i, j, hi, hj, rfl⟩ := (mem_pg hf).1 hp
    have := (most_fact hf).2.2.1 i j hi hj
    omega
theorem last_zero {l : List S54} (hf : flashOkB l = true) {a : Int} (h : ¬ (lastA l a).f1 > 0) : lastA l a = ⟨0, 0, 0, 0⟩ := by
  unfold lastA pagesL at h ⊢
  rw [pagesL_flat] at h ⊢
  rcases lastStep_from a (l.flatMap (·.f0)) ⟨0, 0, 0, 0⟩ with e | ⟨p, hp, h1, h2, h3⟩
  · exact e
  · obtain ⟨i, j, hi, hj, rfl⟩ := (mem_pg hf).1 hp
    have := (onP_seq hf hi hj ⟨h1, h2⟩).1
    rw [h3] at h
    exact absurd (by omega) h
theorem last_is {l : List S54} (hf : flashOkB l = true) {a : Int} {i j : Nat} (hi : i < 4) (hj : j < 4) (h : onP l a i j) (hm : ∀ i' j' : Nat, i' < 4 → j' < 4 → onP l a i' j' → (pg l i' j').f1.f1 ≤ (pg l i j).f1.f1) : lastA l a = (pg l i j).f1 := by
  have h1 := lastA_le hf hi hj h
  have h2 := (onP_seq hf hi hj h).1
  obtain ⟨i', j', hi', hj', h3, h4⟩ := lastA_at hf (show (lastA l a).f1 > 0 by omega)
  have h5 := hm i' j' hi' hj' h3
  rw [h4] at h5
  obtain ⟨rfl, rfl⟩ := seq_one hf hi' hj' hi hj h3.1 h.1 (by rw [h4]; omega)
  exact h4.symm
theorem last_same {l x : List S54} (hf : flashOkB l = true) (hx : flashOkB x = true) {a : Int} (h : ∀ i j : Nat, i < 4 → j < 4 → onP l a i j → onP x a i j ∧ (pg x i j).f1 = (pg l i j).f1) (h' : ∀ i j : Nat, i < 4 → j < 4 → onP x a i j → onP l a i j) : lastA x a = lastA l a := by
  by_cases h0 : (lastA l a).f1 > 0
  · obtain ⟨i, j, hi, hj, h3, h4⟩ := lastA_at hf h0
    obtain ⟨g1, g2⟩ := h i j hi hj h3
    rw [← h4, ← g2]
    refine last_is hx hi hj g1 (fun i' j' hi' hj' hq => ?_)
    have h5 := h' i' j' hi' hj' hq
    have h6 := lastA_le hf hi' hj' h5
    rw [(h i' j' hi' hj' h5).2, g2, h4]
    exact h6
  · have hn : ¬ (lastA x a).f1 > 0 := fun hq => by
      obtain ⟨i, j, hi, hj, h3, _⟩ := lastA_at hx hq
      exact h0 ((lastA_iff hf a).2 ⟨i, j, hi, hj, h' i j hi hj h3⟩)
    rw [last_zero hf h0, last_zero hx hn]
theorem spans_foldB (i : Nat) : ∀ (ps : List S63) (j : Nat) (s : Spans), (spotsB i j ps).foldl spansStep s = fun k => if k = i then ps.foldl stepSpan (s i) else s k
  | [], _, s => by
    funext k
    by_cases h : k = i
    · subst h
      rw [if_pos rfl]
      rfl
    · rw [if_neg h]
      rfl
  | p :: ps, j, s => by
    rw [spotsB, List.foldl_cons, spans_foldB i ps (j + 1)]
    funext k
    by_cases h : k = i
    · rw [if_pos h, if_pos h, List.foldl_cons]
      unfold spansStep
      rw [if_pos rfl]
    · rw [if_neg h, if_neg h]
      unfold spansStep
      rw [if_neg h]
theorem spans_foldF : ∀ (l : List S54) (i : Nat) (s : Spans) (k : Nat), (∀ j : Nat, j < l.length → k = i + j → (spotsF i l).foldl spansStep s k = (rd_T54 l (j : Int)).f0.foldl stepSpan (s k)) ∧ (k < i → (spotsF i l).foldl spansStep s k = s k)
  | [], i, s, k => ⟨fun j h => absurd h (by simp), fun _ => rfl⟩
  | b :: bs, i, s, k => by
    have ih := spans_foldF bs (i + 1) (fun k => if k = i then b.f0.foldl stepSpan (s i) else s k) k
    rw [spotsF, List.foldl_append, spans_foldB]
    refine ⟨fun j hj hk => ?_, fun hk => ?_⟩
    · cases j with
      | zero =>
        rw [ih.2 (by omega), if_pos (by omega), show k = i by omega]
        rfl
      | succ j =>
        have hr := ih.1 j (by simpa using hj) (by omega)
        rw [hr, if_neg (by omega), rdB_cons]
    · rw [ih.2 (by omega), if_neg (by omega)]
theorem spansF_at {l : List S54} (k : Nat) (hk : k < l.length) : spansF l k = (rd_T54 l (k : Int)).f0.foldl stepSpan (0, 0) := (spans_foldF l 0 (fun _ => (0, 0)) k).1 k hk (by omega)
theorem span_hi : ∀ (ps : List S63) (s : Int × Int), 0 ≤ s.2 → (∀ p ∈ ps, pageB p = true) → (ps.foldl stepSpan s).2 = mostP s.2 ps
  | [], _, _, _ => rfl
  | p :: ps, s, hs, h => by
    have hr : ∀ q ∈ ps, pageB q = true := fun q hq => h q (by simp [hq])
    have hq := page_seq (h p (by simp))
    have e : (stepSpan s p).2 = mx s.2 p.f1.f1 := by
      unfold stepSpan
      by_cases h1 : p.f0 = 1
      · rw [if_pos h1]
      · rw [if_neg h1, (page_other (h p (by simp)) h1).2.1]
        unfold mx
        rw [if_neg (by omega)]
    rw [List.foldl_cons, mostP_cons, span_hi ps _ (by rw [e]; unfold mx; split <;> omega) hr, e]
theorem spansF_hi {l : List S54} (hf : flashOkB l = true) (k : Nat) (hk : k < 4) : (spansF l k).2 = mostP 0 (rd_T54 l (k : Int)).f0 := by
  have hl := flash_len hf
  rw [spansF_at k (by omega), span_hi _ _ (by simp) (flash_pages hf _ (rdB_mem (by omega)))]
theorem pagesB_seqs : ∀ (ps : List S63) (S S' : List Int), pagesB ps S = some S' → (∀ x ∈ S, x ∈ S') ∧ ∀ p ∈ ps, p.f0 = 1 → p.f1.f1 ∈ S' ∧ p.f1.f1 ∉ S
  | [], S, S', h => by
    rw [pagesB] at h
    cases h
    exact ⟨fun x hx => hx, fun p hp => by cases hp⟩
  | p :: ps, S, S', h => by
    rw [pagesB] at h
    by_cases hp : pageB p = true
    · rw [if_pos hp] at h
      by_cases h1 : p.f0 = 1
      · rw [if_pos h1] at h
        by_cases hm : p.f1.f1 ∈ S
        · rw [if_pos hm] at h; cases h
        · rw [if_neg hm] at h
          obtain ⟨i1, i2⟩ := pagesB_seqs ps _ _ h
          refine ⟨fun x hx => i1 x (by simp [hx]), fun q hq hq1 => ?_⟩
          rcases List.mem_cons.1 hq with rfl | hq
          · exact ⟨i1 _ (by simp), hm⟩
          · exact ⟨(i2 q hq hq1).1, fun hs => (i2 q hq hq1).2 (by simp [hs])⟩
      · rw [if_neg h1] at h
        obtain ⟨i1, i2⟩ := pagesB_seqs ps _ _ h
        refine ⟨i1, fun q hq hq1 => ?_⟩
        rcases List.mem_cons.1 hq with rfl | hq
        · exact absurd hq1 h1
        · exact i2 q hq hq1
    · rw [if_neg hp] at h; cases h
theorem blocksB_new : ∀ (l : List S54) (S : List Int), blocksB l S = true → ∀ b ∈ l, ∀ q ∈ b.f0, q.f0 = 1 → q.f1.f1 ∉ S
  | [], _, _, _, h, _, _ => by cases h
  | b :: bs, S, h, c, hc, q, hq => by
    rw [blocksB, Bool.and_eq_true] at h
    cases he : pagesB b.f0 S with
    | none => rw [he] at h; exact absurd h.2 (by simp)
    | some S' =>
      rw [he] at h
      obtain ⟨i1, i2⟩ := pagesB_seqs _ _ _ he
      rcases List.mem_cons.1 hc with rfl | hc
      · exact fun h1 => (i2 q hq h1).2
      · exact fun h1 hs => blocksB_new bs S' h.2 c hc q hq h1 (i1 _ hs)
theorem blocksB_apart : ∀ (l : List S54) (S : List Int), blocksB l S = true → ∀ i j : Nat, i < j → j < l.length → ∀ p ∈ (rd_T54 l (i : Int)).f0, ∀ q ∈ (rd_T54 l (j : Int)).f0, p.f0 = 1 → q.f0 = 1 → p.f1.f1 ≠ q.f1.f1
  | [], _, _, _, j, _, hj, _, _, _, _ => by cases hj
  | b :: bs, S, h, i, j, hij, hj, p, hp, q, hq => by
    rw [blocksB, Bool.and_eq_true] at h
    cases he : pagesB b.f0 S with
    | none => rw [he] at h; exact absurd h.2 (by simp)
    | some S' =>
      rw [he] at h
      obtain ⟨i1, i2⟩ := pagesB_seqs _ _ _ he
      obtain ⟨j, rfl⟩ : ∃ m, j = m + 1 := ⟨j - 1, by omega⟩
      rw [List.length_cons] at hj
      rw [rdB_cons] at hq
      cases i with
      | zero => exact fun h1 h2 e => blocksB_new bs S' h.2 _ (rdB_mem (by omega)) q hq h2 (e ▸ (i2 p hp h1).1)
      | succ i =>
        rw [rdB_cons] at hp
        exact blocksB_apart bs S' h.2 i j (by omega) (by omega) p hp q hq
theorem flash_apart {l : List S54} (hf : flashOkB l = true) {i j : Nat} (hi : i < 4) (hj : j < 4) (hne : i ≠ j) {p q : S63} (hp : p ∈ (rd_T54 l (i : Int)).f0) (hq : q ∈ (rd_T54 l (j : Int)).f0) (h1 : p.f1.f1 > 0) (h2 : q.f1.f1 > 0) : p.f1.f1 ≠ q.f1.f1 := by
  have hl := flash_len hf
  have hw : ∀ (m : Nat), m < 4 → ∀ r ∈ (rd_T54 l (m : Int)).f0, r.f1.f1 > 0 → r.f0 = 1 := fun m hm r hr h => by
    by_cases h0 : r.f0 = 1
    · exact h0
    · have := (page_other (flash_pages hf _ (rdB_mem (by omega)) r hr) h0).2.1
      omega
  have h1' := hw i hi p hp h1
  have h2' := hw j hj q hq h2
  unfold flashOkB at hf
  rw [Bool.and_eq_true] at hf
  rcases Nat.lt_or_ge i j with h | h
  · exact blocksB_apart l [] hf.2 i j h (by omega) p hp q hq h1' h2'
  · exact fun e => blocksB_apart l [] hf.2 j i (by omega) (by omega) q hq p hp h2' h1' e.symm
theorem mostP_is : ∀ (ps : List S63) (m : Int), mostP m ps = m ∨ ∃ p ∈ ps, p.f1.f1 = mostP m ps
  | [], m => .inl rfl
  | p :: ps, m => by
    rw [mostP_cons]
    rcases mostP_is ps (mx m p.f1.f1) with h | ⟨q, hq, h⟩
    · rw [h]
      unfold mx
      split
      · exact .inr ⟨p, by simp, rfl⟩
      · exact .inl rfl
    · exact .inr ⟨q, by simp [hq], h⟩
theorem leastQ_is : ∀ (ps : List S63) (m : Int), leastQ m ps = m ∨ ∃ p ∈ ps, p.f1.f1 > 0 ∧ p.f1.f1 = leastQ m ps
  | [], m => .inl rfl
  | p :: ps, m => by
    have e : leastQ m (p :: ps) = leastQ (leastStep m p) ps := rfl
    rw [e]
    rcases leastQ_is ps (leastStep m p) with h | ⟨q, hq, h⟩
    · rw [h]
      unfold leastStep
      split
      · rename_i h0
        exact .inr ⟨p, by simp, h0.1, rfl⟩
      · exact .inl rfl
    · exact .inr ⟨q, by simp [hq], h⟩
theorem leastQ_pos : ∀ (ps : List S63) (m : Int), 0 ≤ m → (0 < m ∨ ∃ p ∈ ps, p.f1.f1 > 0) → 0 < leastQ m ps
  | [], m, _, h => by
    rcases h with h | ⟨p, hp, _⟩
    · exact h
    · cases hp
  | p :: ps, m, hm, h => by
    show 0 < leastQ (leastStep m p) ps
    refine leastQ_pos ps _ (by unfold leastStep; split <;> omega) ?_
    unfold leastStep
    by_cases h1 : p.f1.f1 > 0
    · left
      split
      · omega
      · rename_i h2
        by_cases h3 : m = 0
        · exact absurd ⟨h1, Or.inl h3⟩ h2
        · omega
    · rw [if_neg (fun h => h1 h.1)]
      rcases h with h | ⟨q, hq, hq1⟩
      · exact .inl h
      · rcases List.mem_cons.1 hq with rfl | hq
        · exact absurd hq1 h1
        · exact .inr ⟨q, hq, hq1⟩
theorem span_lo : ∀ (ps : List S63) (s : Int × Int), (∀ p ∈ ps, pageB p = true) → (ps.foldl stepSpan s).1 = leastQ s.1 ps
  | [], _, _ => rfl
  | p :: ps, s, h => by
    have hr : ∀ q ∈ ps, pageB q = true := fun q hq => h q (by simp [hq])
    have e : (stepSpan s p).1 = leastStep s.1 p := by
      unfold stepSpan leastStep
      by_cases h1 : p.f0 = 1
      · have hw := page_written (h p (by simp)) h1
        rw [if_pos h1]
        by_cases h2 : s.1 = 0 ∨ p.f1.f1 < s.1
        · rw [if_pos h2, if_pos ⟨by omega, h2⟩]
        · rw [if_neg h2, if_neg (fun h => h2 h.2)]
      · rw [if_neg h1, if_neg (fun q => by have := (page_other (h p (by simp)) h1).2.1; omega)]
    rw [List.foldl_cons, span_lo ps _ hr, e]
    rfl
theorem spansF_lo {l : List S54} (hf : flashOkB l = true) (k : Nat) (hk : k < 4) : (spansF l k).1 = leastQ 0 (rd_T54 l (k : Int)).f0 := by
  have hl := flash_len hf
  rw [spansF_at k (by omega), span_lo _ _ (flash_pages hf _ (rdB_mem (by omega)))]
theorem cross_apart {l : List S54} (hf : flashOkB l = true) {i j : Nat} (hi : i < 4) (hj : j < 4) (hne : i ≠ j) (h1 : 0 < (spansF l i).2) (h2 : 0 < (spansF l j).2) : (spansF l i).2 ≠ (spansF l j).1 := by
  rw [spansF_hi hf i hi] at h1 ⊢
  rw [spansF_hi hf j hj] at h2
  rw [spansF_lo hf j hj]
  obtain ⟨p, hp, ep⟩ := (mostP_is (rd_T54 l (i : Int)).f0 0).resolve_left (by omega)
  obtain ⟨q0, hq0, eq0⟩ := (mostP_is (rd_T54 l (j : Int)).f0 0).resolve_left (by omega)
  have hpos := leastQ_pos (rd_T54 l (j : Int)).f0 0 (by omega) (.inr ⟨q0, hq0, by omega⟩)
  obtain ⟨q, hq, hq1, eq1⟩ := (leastQ_is (rd_T54 l (j : Int)).f0 0).resolve_left (by omega)
  have := flash_apart hf hi hj hne hp hq (by omega) hq1
  omega
theorem overI_iff (s : Spans) (i : Nat) : ∀ n, overI s i n = true ↔ ∃ j, j < n ∧ crossB (s i) (s j) = true
  | 0 => ⟨fun h => (by cases h), fun ⟨j, h, _⟩ => (by omega)⟩
  | n + 1 => by
    rw [overI, Bool.or_eq_true, overI_iff s i n]
    constructor
    · rintro (⟨j, h, h2⟩ | h)
      · exact ⟨j, by omega, h2⟩
      · exact ⟨n, by omega, h⟩
    · rintro ⟨j, h, h2⟩
      by_cases e : j = n
      · subst e; exact .inr h2
      · exact .inl ⟨j, by omega, h2⟩
theorem overN_iff (s : Spans) : ∀ n, overN s n = true ↔ ∃ i j, j < i ∧ i < n ∧ crossB (s i) (s j) = true
  | 0 => ⟨fun h => (by cases h), fun ⟨i, j, _, h, _⟩ => (by omega)⟩
  | n + 1 => by
    rw [overN, Bool.or_eq_true, overN_iff s n, overI_iff]
    constructor
    · rintro (⟨i, j, h, h1, h2⟩ | ⟨j, h, h2⟩)
      · exact ⟨i, j, h, by omega, h2⟩
      · exact ⟨n, j, h, by omega, h2⟩
    · rintro ⟨i, j, h, h1, h2⟩
      by_cases e : i = n
      · subst e; exact .inr ⟨j, h, h2⟩
      · exact .inl ⟨i, j, h, by omega, h2⟩
theorem badN_iff (l : List S54) (s : Spans) (m : Int) : ∀ n, badN l s m n = true ↔ ∃ i, i < n ∧ partB (rd_T54 l (i : Int)) = true ∧ 0 < (s i).2 ∧ (s i).2 < m
  | 0 => ⟨fun h => (by cases h), fun ⟨j, h, _⟩ => (by omega)⟩
  | n + 1 => by
    rw [badN, Bool.or_eq_true, badN_iff l s m n, Bool.and_eq_true, decide_eq_true_eq]
    constructor
    · rintro (⟨j, h, h2⟩ | ⟨h, h2, h3⟩)
      · exact ⟨j, by omega, h2⟩
      · exact ⟨n, by omega, h, h2, h3⟩
    · rintro ⟨j, h, h2, h3⟩
      by_cases e : j = n
      · subst e; exact .inr ⟨h2, h3⟩
      · exact .inl ⟨j, by omega, h2, h3⟩
theorem newestN_lt (s : Spans) (x : Int) (hx : 0 ≤ x) : ∀ n, x < newestN s n ↔ ∃ k, k < n ∧ x < (s k).2
  | 0 => ⟨fun h => (by rw [newestN] at h; omega), fun ⟨j, h, _⟩ => (by omega)⟩
  | n + 1 => by
    have ih := newestN_lt s x hx n
    have e : x < mx (newestN s n) (s n).2 ↔ x < newestN s n ∨ x < (s n).2 := by
      unfold mx
      split <;> omega
    rw [newestN, e, ih]
    constructor
    · rintro (⟨j, h, h2⟩ | h)
      · exact ⟨j, by omega, h2⟩
      · exact ⟨n, by omega, h⟩
    · rintro ⟨j, h, h2⟩
      by_cases e : j = n
      · subst e; exact .inr h2
      · exact .inl ⟨j, by omega, h2⟩
theorem partN_one (l : List S54) : ∀ n, 1 ≤ partN l n ↔ ∃ i, i < n ∧ partB (rd_T54 l (i : Int)) = true
  | 0 => ⟨fun h => (by rw [partN] at h; omega), fun ⟨j, h, _⟩ => (by omega)⟩
  | n + 1 => by
    have ih := partN_one l n
    rw [partN]
    constructor
    · intro h
      by_cases hp : partB (rd_T54 l (n : Int)) = true
      · exact ⟨n, by omega, hp⟩
      · rw [if_neg hp] at h
        obtain ⟨i, h1, h2⟩ := ih.1 (by omega)
        exact ⟨i, by omega, h2⟩
    · rintro ⟨j, h, h2⟩
      by_cases e : j = n
      · subst e; rw [if_pos h2]; omega
      · have := ih.2 ⟨j, by omega, h2⟩
        omega
theorem partN_two (l : List S54) : ∀ n, 2 ≤ partN l n ↔ ∃ i j, j < i ∧ i < n ∧ partB (rd_T54 l (i : Int)) = true ∧ partB (rd_T54 l (j : Int)) = true
  | 0 => ⟨fun h => (by rw [partN] at h; omega), fun ⟨i, j, _, h, _⟩ => (by omega)⟩
  | n + 1 => by
    have ih := partN_two l n
    have i1 := partN_one l n
    rw [partN]
    constructor
    · intro h
      by_cases hp : partB (rd_T54 l (n : Int)) = true
      · rw [if_pos hp] at h
        obtain ⟨j, h1, h2⟩ := i1.1 (by omega)
        exact ⟨n, j, h1, by omega, hp, h2⟩
      · rw [if_neg hp] at h
        obtain ⟨i, j, h1, h2, h3⟩ := ih.1 (by omega)
        exact ⟨i, j, h1, by omega, h3⟩
    · rintro ⟨i, j, h, h1, h2, h3⟩
      by_cases e : i = n
      · subst e
        have := i1.2 ⟨j, h, h3⟩
        rw [if_pos h2]
        omega
      · have := ih.2 ⟨i, j, h, by omega, h2, h3⟩
        omega
theorem rowB_iff (l : List S54) (i : Nat) : ∀ n, rowB l i n = true ↔ ∃ j, j < n ∧ pairB l i j = true
  | 0 => ⟨fun h => (by cases h), fun ⟨j, h, _⟩ => (by omega)⟩
  | n + 1 => by
    rw [rowB, Bool.or_eq_true, rowB_iff l i n]
    constructor
    · rintro (⟨j, h, h2⟩ | h)
      · exact ⟨j, by omega, h2⟩
      · exact ⟨n, by omega, h⟩
    · rintro ⟨j, h, h2⟩
      by_cases e : j = n
      · subst e; exact .inr h2
      · exact .inl ⟨j, by omega, h2⟩
theorem allB_iff (l : List S54) : ∀ n, allB l n = true ↔ ∃ i j, i < n ∧ j < 4 ∧ pairB l i j = true
  | 0 => ⟨fun h => (by cases h), fun ⟨j, _, h, _⟩ => (by omega)⟩
  | n + 1 => by
    rw [allB, Bool.or_eq_true, allB_iff l n, rowB_iff]
    constructor
    · rintro (⟨i, j, h, h1, h2⟩ | ⟨j, h, h2⟩)
      · exact ⟨i, j, by omega, h1, h2⟩
      · exact ⟨n, j, by omega, h, h2⟩
    · rintro ⟨i, j, h, h1, h2⟩
      by_cases e : i = n
      · subst e; exact .inr ⟨j, h1, h2⟩
      · exact .inl ⟨i, j, by omega, h1, h2⟩
theorem order_same (l : List S54) : specOrderB l = orderI l := by
  unfold specOrderB orderI
  cases hf : flashOkB l with
  | false => rfl
  | true =>
    rw [Bool.true_and, Bool.true_and]
    have hM : ∀ j : Nat, j < 4 → mostQ 0 (rd_T54 l (j : Int)).f0 = (spansF l j).2 := fun j hj => (spansF_hi hf j hj).symm
    have hL : ∀ j : Nat, j < 4 → leastQ 0 (rd_T54 l (j : Int)).f0 = (spansF l j).1 := fun j hj => (spansF_lo hf j hj).symm
    have hP : ∀ i k : Nat, i < 4 → k < 4 → (pairB l i k = true ↔ i ≠ k ∧ ((0 < (spansF l i).2 ∧ 0 < (spansF l k).2 ∧ (spansF l i).1 < (spansF l k).2 ∧ (spansF l k).1 < (spansF l i).2) ∨ (partB (rd_T54 l (i : Int)) = true ∧ (partB (rd_T54 l (k : Int)) = true ∨ (0 < (spansF l i).2 ∧ (spansF l i).2 < (spansF l k).2))))) := fun i k hi hk => by
      unfold pairB c11B c13B partB
      rw [Bool.or_eq_true, hM i hi, hM k hk, hL i hi, hL k hk]
      simp only [decide_eq_true_eq]
      omega
    have key : allB l 4 = true ↔ (overN (spansF l) 4 = true ∨ badN l (spansF l) (newestN (spansF l) 4) 4 = true ∨ 2 ≤ partN l 4) := by
      rw [allB_iff, overN_iff, badN_iff, partN_two]
      constructor
      · rintro ⟨i, k, hi, hk, h⟩
        obtain ⟨hne, h | ⟨h1, h2 | ⟨h2, h3⟩⟩⟩ := (hP i k hi hk).1 h
        · left
          rcases Nat.lt_or_ge k i with hc | hc
          · exact ⟨i, k, hc, hi, by unfold crossB; simp only [decide_eq_true_eq]; omega⟩
          · exact ⟨k, i, by omega, hk, by unfold crossB; simp only [decide_eq_true_eq]; omega⟩
        · right; right
          rcases Nat.lt_or_ge k i with hc | hc
          · exact ⟨i, k, hc, hi, h1, h2⟩
          · exact ⟨k, i, by omega, hk, h2, h1⟩
        · right; left
          exact ⟨i, hi, h1, h2, (newestN_lt (spansF l) _ (by omega) 4).2 ⟨k, hk, h3⟩⟩
      · rintro (⟨i, j, hji, hi, h⟩ | ⟨i, hi, h1, h2, h3⟩ | ⟨i, j, hji, hi, h1, h2⟩)
        · unfold crossB at h
          simp only [decide_eq_true_eq] at h
          have a1 := cross_apart hf hi (by omega : j < 4) (by omega) h.1 h.2.1
          have a2 := cross_apart hf (by omega : j < 4) hi (by omega) h.2.1 h.1
          exact ⟨i, j, hi, by omega, (hP i j hi (by omega)).2 ⟨by omega, .inl (by omega)⟩⟩
        · obtain ⟨k, hk, h4⟩ := (newestN_lt (spansF l) _ (by omega) 4).1 h3
          exact ⟨i, k, hi, hk, (hP i k hi hk).2 ⟨fun e => by subst e; omega, .inr ⟨h1, .inr ⟨h2, h4⟩⟩⟩⟩
        · exact ⟨i, j, hi, by omega, (hP i j hi (by omega)).2 ⟨by omega, .inr ⟨h1, .inl h2⟩⟩⟩
    have hd : decide (partN l 4 ≤ 1) = !decide (2 ≤ partN l 4) := by
      by_cases h : partN l 4 ≤ 1
      · rw [decide_eq_true h, decide_eq_false (by omega)]; rfl
      · rw [decide_eq_false h, decide_eq_true (by omega)]; rfl
    rw [hd]
    cases ha : allB l 4 with
    | false =>
      have hn : ¬ (overN (spansF l) 4 = true ∨ badN l (spansF l) (newestN (spansF l) 4) 4 = true ∨ 2 ≤ partN l 4) := fun h => by rw [key.2 h] at ha; cases ha
      cases ho : overN (spansF l) 4 with
      | true => exact absurd (.inl ho) hn
      | false =>
        cases hb : badN l (spansF l) (newestN (spansF l) 4) 4 with
        | true => exact absurd (.inr (.inl hb)) hn
        | false => rw [decide_eq_false (fun h => hn (.inr (.inr h)))]; rfl
    | true =>
      rcases key.1 ha with h | h | h
      · rw [h]; rfl
      · rw [h]; simp
      · rw [decide_eq_true h]; simp
theorem leastQ_le : ∀ (ps : List S63) (m : Int), 0 ≤ m → (0 < m → leastQ m ps ≤ m) ∧ ∀ p ∈ ps, p.f1.f1 > 0 → leastQ m ps ≤ p.f1.f1
  | [], m, _ => ⟨fun _ => Int.le_refl _, fun p hp => (by cases hp)⟩
  | q :: ps, m, hm => by
    have e : leastQ m (q :: ps) = leastQ (leastStep m q) ps := rfl
    have hs : 0 ≤ leastStep m q ∧ (0 < m → leastStep m q ≤ m ∧ 0 < leastStep m q) ∧ (q.f1.f1 > 0 → leastStep m q ≤ q.f1.f1 ∧ 0 < leastStep m q) := by
      unfold leastStep
      split <;> omega
    obtain ⟨g1, g2⟩ := leastQ_le ps (leastStep m q) hs.1
    rw [e]
    refine ⟨fun h => ?_, fun p hp h => ?_⟩
    · have := g1 (hs.2.1 h).2
      have := (hs.2.1 h).1
      omega
    · rcases List.mem_cons.1 hp with rfl | hp
      · have := g1 (hs.2.2 h).2
        have := (hs.2.2 h).1
        omega
      · exact g2 p hp h
theorem map_last : ∀ (ps : List S63) (M : RecMap) (r : Int → S37), (∀ p ∈ ps, pageB p = true) → (∀ a, M a = (if 0 < (r a).f1 then some (recOf (r a)) else none) ∧ 0 ≤ (r a).f1) →
    ∀ a, ps.foldl mapStep M a = (if 0 < (ps.foldl (lastStep a) (r a)).f1 then some (recOf (ps.foldl (lastStep a) (r a))) else none)
  | [], M, r, _, h, a => (h a).1
  | p :: ps, M, r, hp, h, a => by
    have hr : ∀ q ∈ ps, pageB q = true := fun q hq => hp q (by simp [hq])
    rw [List.foldl_cons, List.foldl_cons]
    refine map_last ps (mapStep M p) (fun a => lastStep a (r a) p) hr (fun a => ?_) a
    have h0 : ((M p.f1.f2).getD (0, 0, 0, 0)).2.1 = (r p.f1.f2).f1 := by
      obtain ⟨e, g⟩ := h p.f1.f2
      rw [e]
      by_cases k : 0 < (r p.f1.f2).f1
      · rw [if_pos k]; rfl
      · rw [if_neg k]
        show (0 : Int) = _
        omega
    unfold mapStep
    rw [h0]
    show _ = (if 0 < (lastStep a (r a) p).f1 then some (recOf (lastStep a (r a) p)) else none) ∧ 0 ≤ (lastStep a (r a) p).f1
    obtain ⟨e, g⟩ := h a
    by_cases c1 : p.f0 = 1
    · have hw := page_written (hp p (by simp)) c1
      by_cases c2 : p.f1.f2 = a
      · subst c2
        by_cases c3 : p.f1.f1 > (r p.f1.f2).f1
        · have hq : lastStep p.f1.f2 (r p.f1.f2) p = p.f1 := by unfold lastStep; rw [if_pos ⟨c1, rfl, c3⟩]
          rw [hq, if_pos (show p.f0 = 1 ∧ p.f1.f1 > (r p.f1.f2).f1 from ⟨c1, c3⟩), if_pos (show 0 < p.f1.f1 by omega)]
          unfold putM
          rw [if_pos rfl]
          exact ⟨rfl, by omega⟩
        · have hq : lastStep p.f1.f2 (r p.f1.f2) p = r p.f1.f2 := by unfold lastStep; rw [if_neg (fun q => c3 q.2.2)]
          rw [hq, if_neg (show ¬ (p.f0 = 1 ∧ p.f1.f1 > (r p.f1.f2).f1) from fun q => c3 q.2)]
          exact ⟨e, g⟩
      · have hq : lastStep a (r a) p = r a := by unfold lastStep; rw [if_neg (fun q => c2 q.2.1)]
        rw [hq]
        refine ⟨?_, g⟩
        split
        · unfold putM
          rw [if_neg (fun q => c2 q.symm)]
          exact e
        · exact e
    · have hq : lastStep a (r a) p = r a := by unfold lastStep; rw [if_neg (fun q => c1 q.1)]
      rw [hq, if_neg (show ¬ (p.f0 = 1 ∧ p.f1.f1 > (r p.f1.f2).f1) from fun q => c1 q.1)]
      exact ⟨e, g⟩
theorem lastMap_at {l : List S54} (hf : flashOkB l = true) (a : Int) : lastMap l a = if 0 < (lastA l a).f1 then some (recOf (lastA l a)) else none := by
  unfold lastMap lastA pagesL
  rw [pagesL_flat]
  refine map_last _ _ (fun _ => ⟨0, 0, 0, 0⟩) (fun p hp => ?_) (fun a => ⟨by rw [if_neg (by simp)], by simp⟩) a
  obtain ⟨b, hb, hp⟩ := List.mem_flatMap.1 hp
  exact flash_pages hf b hb p hp
theorem last_kind (a : Int) : ∀ (ps : List S63) (r : S37), (∀ p ∈ ps, pageB p = true) → (0 < r.f1 → r.f0 = 1 ∨ r.f0 = 2) → 0 < (ps.foldl (lastStep a) r).f1 → (ps.foldl (lastStep a) r).f0 = 1 ∨ (ps.foldl (lastStep a) r).f0 = 2
  | [], r, _, h => h
  | p :: ps, r, hp, h => by
    rw [List.foldl_cons]
    refine last_kind a ps _ (fun q hq => hp q (by simp [hq])) ?_
    unfold lastStep
    split
    · rename_i c
      exact fun _ => (page_written (hp p (by simp)) c.1).1
    · exact h
theorem lastA_kind {l : List S54} (hf : flashOkB l = true) (a : Int) (h : 0 < (lastA l a).f1) : (lastA l a).f0 = 1 ∨ (lastA l a).f0 = 2 := by
  unfold lastA pagesL at h ⊢
  rw [pagesL_flat] at h ⊢
  refine last_kind a _ _ (fun p hp => ?_) (fun h => absurd h (by simp)) h
  obtain ⟨b, hb, hp⟩ := List.mem_flatMap.1 hp
  exact flash_pages hf b hb p hp
def tailOk (M : RecMap) (l1 : List Int) : Nat → Nat → Bool
  | 0, _ => true
  | n + 1, i => okAt M (rd l1 (i : Int)) i && tailOk M l1 n (i + 1)
theorem tail_disk (M : RecMap) (l1 : List Int) : tailOk M l1 6 0 = diskN M l1 6 := by
  simp [tailOk, diskN, Bool.and_assoc]
theorem storeOk_loop (l0 : List S54) (l1 : List Int) (hf : flashOkB l0 = true) (h6 : (l1.length : Int) = 6) (K : Nat) (hK : 25 ≤ K) : ∀ (n i : Nat), i + n = 6 → spec_StoreOk.l0 (K + n + 1) (i : Int) l0 l1 = some (tailOk (lastMap l0) l1 n i)
  | 0, i, h => by
    rw [spec_StoreOk.l0, if_neg (by omega)]
    rfl
  | n + 1, i, h => by
    have e1 : wrap64 ((i : Int) + 1) = ((i + 1 : Nat) : Int) := by rw [wrap64_in _ (by omega)]; omega
    have ih := storeOk_loop l0 l1 hf h6 K hK n (i + 1) (by omega)
    have hM := lastMap_at hf ((i : Int) + 1)
    have hk := lastA_kind hf ((i : Int) + 1)
    rw [spec_StoreOk.l0, if_pos (by omega), e1, l3Last_ok hf _ _ (by omega), Option.bind_some, if_pos (by omega), if_pos (by omega), tailOk]
    rw [show ((i + 1 : Nat) : Int) = (i : Int) + 1 by omega] at *
    unfold okAt spec_l6In.f valB
    rw [hM]
    generalize rd l1 (i : Int) = d
    generalize lastA l0 ((i : Int) + 1) = q at hk ⊢
    show _ = some ((decide (0 ≤ d ∧ d ≤ 9) && _) && _)
    rw [show K + (n + 1) = K + n + 1 by omega]
    by_cases d0 : d ≥ 0
    · rw [if_pos d0, Option.bind_some]
      by_cases d9 : d ≤ 9
      · rw [decide_eq_true d9, if_pos rfl, decide_eq_true (show 0 ≤ d ∧ d ≤ 9 from ⟨d0, d9⟩), Bool.true_and]
        by_cases k0 : 0 < q.f1
        · rw [if_pos (decide_eq_true (by omega : q.f1 > 0)), if_pos k0]
          show _ = some (decide (q.f0 = 1 ∨ q.f3 = d) && _)
          by_cases k1 : q.f0 = 2
          · rw [if_pos k1]
            by_cases k2 : q.f3 = d
            · rw [if_pos k2, decide_eq_true (Or.inr k2), Bool.true_and]
              exact ih
            · rw [if_neg k2, decide_eq_false (fun h => h.elim (by omega) k2), Bool.false_and]
          · rw [if_neg k1, decide_eq_true (Or.inl ((hk k0).resolve_right k1)), Bool.true_and]
            exact ih
        · rw [if_neg (by simp; omega), if_neg k0]
          show _ = some (true && _)
          rw [Bool.true_and]
          exact ih
      · rw [decide_eq_false d9, if_neg (by simp), decide_eq_false (fun h => d9 h.2), Bool.false_and, Bool.false_and]
    · rw [if_neg d0, Option.bind_some, if_neg (by simp), decide_eq_false (fun h => d0 h.1), Bool.false_and, Bool.false_and]
theorem specStoreOk_ok (l0 : List S54) (l1 : List Int) (k : Nat) (hk : 100 < k) : spec_StoreOk.f k l0 l1 = some (storeOkB l0 l1) := by
  obtain ⟨k, rfl⟩ : ∃ m, k = m + 1 := ⟨k - 1, by omega⟩
  unfold spec_StoreOk.f spec_FindOrder.f storeOkB
  rw [Option.bind_some, order_same]
  cases ho : orderI l0 with
  | false => rw [if_neg (by simp), spec_StoreOk.j0, if_pos rfl, Bool.false_and, Bool.and_false]
  | true =>
    rw [if_pos rfl, spec_StoreOk.j0]
    by_cases h6 : (l1.length : Int) = 6
    · rw [if_neg (by simp [h6]), decide_eq_true h6, Bool.true_and, Bool.true_and, ← tail_disk]
      have := storeOk_loop l0 l1 (order_flash ho) h6 (k - 7) (by omega) 6 0 (by omega)
      rw [show k - 7 + 6 + 1 = k by omega] at this
      exact this
    · rw [if_pos (by simp [h6]), decide_eq_false h6, Bool.false_and]
theorem store_fact {fl : List S54} {d : List Int} (hs : storeOkB fl d = true) : d.length = 6 ∧ orderI fl = true ∧ diskN (lastMap fl) d 6 = true := by
  unfold storeOkB at hs
  rw [Bool.and_eq_true, Bool.and_eq_true, decide_eq_true_eq] at hs
  exact ⟨by omega, hs.2.1, hs.2.2⟩
theorem tail_at (M : RecMap) (l1 : List Int) : ∀ (n i : Nat), tailOk M l1 n i = true → ∀ j : Nat, i ≤ j → j < i + n → okAt M (rd l1 (j : Int)) j = true
  | 0, i, _, j, h1, h2 => by omega
  | n + 1, i, h, j, h1, h2 => by
    rw [tailOk, Bool.and_eq_true] at h
    by_cases hj : j = i
    · rw [hj]
      exact h.1
    · exact tail_at M l1 n (i + 1) h.2 j (by omega) (by omega)
theorem l11Read_ok {l0 : List S54} {l1 : List Int} (hf : flashOkB l0 = true) (h6 : l1.length = 6) (a : Int) (h1 : 1 ≤ a) (h2 : a ≤ 6) (k : Nat) (hk : 25 ≤ k) : spec_l11Read.f k l0 l1 a = some (match lastMap l0 a with
  | some r => r.2.2.2
  | none => rd l1 (a - 1)) := by
  unfold spec_l11Read.f
  rw [l3Last_ok hf a k hk, Option.bind_some, lastMap_at hf a, wrap64_in _ (by omega)]
  by_cases k0 : 0 < (lastA l0 a).f1
  · rw [if_pos (decide_eq_true (by omega : (lastA l0 a).f1 > 0)), if_pos k0]
    rfl
  · rw [if_neg (by simp; omega), if_neg k0, if_pos (by omega), if_pos (by omega)]
theorem specRead_ok (l0 : List S54) (l1 : List Int) (a : Int) (k : Nat) (hk : 100 < k) : spec_StoreRead.f k l0 l1 a = some (readV l0 l1 a) := by
  unfold spec_StoreRead.f spec_l6In.f readV addrB
  rw [specStoreOk_ok l0 l1 k hk, Option.bind_some]
  cases hs : storeOkB l0 l1 with
  | false => rw [if_neg (by simp), if_neg (by simp)]
  | true =>
    have hl : l1.length = 6 ∧ orderI l0 = true := by
      unfold storeOkB at hs
      rw [Bool.and_eq_true, Bool.and_eq_true, decide_eq_true_eq] at hs
      exact ⟨by omega, hs.2.1⟩
    rw [if_pos rfl]
    by_cases h1 : a ≥ 1
    · rw [if_pos h1, Option.bind_some]
      by_cases h6 : a ≤ 6
      · rw [decide_eq_true h6, if_pos rfl, l11Read_ok (order_flash hl.2) hl.1 a h1 h6 k (by omega), decide_eq_true (by omega : 1 ≤ a ∧ a ≤ 6), if_pos ⟨rfl, rfl⟩]
        rfl
      · rw [decide_eq_false h6, if_neg (by simp), decide_eq_false (by omega : ¬ (1 ≤ a ∧ a ≤ 6)), if_neg (by simp)]
    · rw [if_neg h1, Option.bind_some, if_neg (by simp), decide_eq_false (by omega : ¬ (1 ≤ a ∧ a ≤ 6)), if_neg (by simp)]
theorem lw_facts {l : List S54} (hf : flashOkB l = true) {a v : Int} (ha : 1 ≤ a ∧ a ≤ 6) (hv : 0 ≤ v ∧ v ≤ 9) {b : Nat} (hb : b < 4) (h0 : freeN (rd_T54 l (b : Int)).f0 ≠ 0) (hm : most l + 1 ≤ 600) :
    ∃ X Y, fwV l (b : Int) 1 (most l + 1) a v false = X ∧ fwV l (b : Int) 1 (most l + 1) a v true = Y ∧ fwB l (b : Int) 1 (most l + 1) a v = true ∧ flashOkB X = true ∧ flashOkB Y = true ∧ lastA X a = ⟨1, most l + 1, a, v⟩ ∧ (∀ c, c ≠ a → lastA X c = lastA l c) ∧ (∀ c, lastA Y c = lastA l c) ∧ most X = most l + 1 := by
  have hmf := most_fact hf
  have hl := flash_len hf
  have hbl := flash_block hf b hb
  have hle := freeN_le (rd_T54 l (b : Int)).f0
  rw [hbl.1] at hle
  have hr : recOkB 1 (most l + 1) a v = true := by
    unfold recOkB
    rw [decide_eq_true_eq]
    omega
  have hg : FwG l (b : Int) 1 (most l + 1) a v := ⟨hf, by omega, hr⟩
  have hu := used_no hf (show most l < most l + 1 by omega)
  have pX := fw_put hg h0 hu false
  have pY := fw_put hg h0 hu true
  have hX := fw_ok pX.2 false
  have hY := fw_ok pX.2 true
  refine ⟨_, _, rfl, rfl, pX.2, hX, hY, ?_⟩
  rw [pX.1] at hX ⊢
  rw [pY.1] at hY ⊢
  generalize hn : freeN (rd_T54 l (b : Int)).f0 = n at *
  have PX := pg_set (l := l) (i := b) (j := 4 - n) (by omega) (by omega) (pageFW 1 (most l + 1) a v false)
  have PY := pg_set (l := l) (i := b) (j := 4 - n) (by omega) (by omega) (pageFW 1 (most l + 1) a v true)
  have z0 : (pg l b (4 - n)).f0 = 0 := (free_at hf hb (show 4 - n < 4 by omega)).2 (by omega)
  have hp : pg (setPg l b (4 - n) (pageFW 1 (most l + 1) a v false)) b (4 - n) = pageFW 1 (most l + 1) a v false := by rw [PX, if_pos ⟨rfl, rfl⟩]
  have old : ∀ (c : Int) (i j : Nat) (p : S63), onP l c i j → pg (setPg l b (4 - n) p) i j = (if i = b ∧ j = 4 - n then p else pg l i j) → pg (setPg l b (4 - n) p) i j = pg l i j := fun c i j p h e => by
    rw [e]
    by_cases hc : i = b ∧ j = 4 - n
    · have := h.1
      rw [hc.1, hc.2, z0] at this
      exact absurd this (by decide)
    · exact if_neg hc
  have bound : ∀ i j : Nat, i < 4 → j < 4 → (pg (setPg l b (4 - n) (pageFW 1 (most l + 1) a v false)) i j).f1.f1 ≤ most l + 1 := fun i j hi hj => by
    rw [PX]
    split
    · exact Int.le_refl _
    · have := hmf.2.2.1 i j hi hj
      omega
  refine ⟨?_, fun c hc => ?_, fun c => ?_, ?_⟩
  · have := last_is (a := a) hX hb (show 4 - n < 4 by omega) (by unfold onP; rw [hp]; exact ⟨rfl, rfl⟩) (fun i' j' hi' hj' hq => by rw [hp]; exact bound i' j' hi' hj')
    rw [this, hp]
    rfl
  · refine last_same hf hX (fun i j hi hj h => ?_) (fun i j hi hj h => ?_)
    · have := old c i j _ h (PX i j)
      unfold onP
      rw [this]
      exact ⟨h, rfl⟩
    · unfold onP at h
      rw [PX] at h
      split at h
      · exact absurd h.2.symm hc
      · exact h
  · refine last_same hf hY (fun i j hi hj h => ?_) (fun i j hi hj h => ?_)
    · have := old c i j _ h (PY i j)
      unfold onP
      rw [this]
      exact ⟨h, rfl⟩
    · unfold onP at h
      rw [PY] at h
      split at h
      · exact absurd h.1 (by show ¬ (2 : Int) = 1; decide)
      · exact h
  · have f1 := most_fact hX
    have g1 := f1.2.2.1 b (4 - n) hb (by omega)
    rw [hp] at g1
    have g2 : most l + 1 ≤ most (setPg l b (4 - n) (pageFW 1 (most l + 1) a v false)) := g1
    rcases f1.2.2.2 with h | ⟨i, j, hi, hj, h⟩
    · omega
    · have := bound i j hi hj
      omega
theorem freeQN : ∀ ps : List S63, freeQ ps = freeN ps
  | [] => rfl
  | p :: ps => by rw [freeQ, freeN, freeQN ps]
theorem open_part {l : List S54} (hn : partN l 4 ≤ 1) {i : Nat} (hi : i < 4) (hp : partB (rd_T54 l (i : Int)) = true) : (openV l 4 0 (-1)).1 = (i : Int) := by
  have hc : ∀ j : Nat, partB (rd_T54 l (j : Int)) = true ↔ (0 < clN l j ∧ clN l j < 4) := fun j => by
    unfold partB clN
    rw [freeQN, decide_eq_true_eq]
  unfold openV
  cases h : partL l 4 0 with
  | none => exact absurd ((hc i).1 hp) (part_none l 4 0 h i (by omega) (by omega))
  | some j =>
    obtain ⟨-, h2, h3, -⟩ := part_some l 4 0 j h
    show (j : Int) = (i : Int)
    rcases Nat.lt_trichotomy i j with h4 | h4 | h4
    · have := (partN_two l 4).2 ⟨j, i, h4, by omega, (hc j).2 h3, hp⟩
      omega
    · rw [h4]
    · have := (partN_two l 4).2 ⟨i, j, h4, hi, hp, (hc j).2 h3⟩
      omega
theorem mem_at {l : List S54} (hf : flashOkB l = true) {i : Nat} (hi : i < 4) {p : S63} (h : p ∈ (rd_T54 l (i : Int)).f0) : ∃ j, j < 4 ∧ pg l i j = p := by
  obtain ⟨j, hj, e⟩ := List.getElem_of_mem h
  have := (flash_block hf i hi).1
  exact ⟨j, by omega, flP_at (by rw [List.getElem?_eq_getElem hj, e])⟩
theorem at_mem {l : List S54} (hf : flashOkB l = true) {i j : Nat} (hi : i < 4) (hj : j < 4) : pg l i j ∈ (rd_T54 l (i : Int)).f0 := rdP_mem (by have := (flash_block hf i hi).1; omega)
theorem span_facts {l : List S54} (hf : flashOkB l = true) {i : Nat} (hi : i < 4) : 0 ≤ (spansF l i).2 ∧ (∀ j, j < 4 → (pg l i j).f1.f1 ≤ (spansF l i).2) ∧ ((spansF l i).2 = 0 ∨ ∃ j, j < 4 ∧ (pg l i j).f1.f1 = (spansF l i).2) ∧
    (∀ j, j < 4 → 0 < (pg l i j).f1.f1 → 0 < (spansF l i).1 ∧ (spansF l i).1 ≤ (pg l i j).f1.f1) ∧ (0 < (spansF l i).1 → ∃ j, j < 4 ∧ 0 < (pg l i j).f1.f1 ∧ (pg l i j).f1.f1 = (spansF l i).1) := by
  rw [spansF_hi hf i hi, spansF_lo hf i hi]
  have hg := mostP_ge (rd_T54 l (i : Int)).f0 0
  refine ⟨hg.1, fun j hj => hg.2 _ (at_mem hf hi hj), ?_, fun j hj h => ?_, fun h => ?_⟩
  · rcases mostP_at (rd_T54 l (i : Int)).f0 0 with h | ⟨p, hp, h⟩
    · exact .inl h
    · obtain ⟨j, hj, e⟩ := mem_at hf hi hp
      exact .inr ⟨j, hj, by rw [e]; exact h⟩
  · exact ⟨leastQ_pos _ 0 (Int.le_refl _) (.inr ⟨_, at_mem hf hi hj, h⟩), (leastQ_le _ 0 (Int.le_refl _)).2 _ (at_mem hf hi hj) h⟩
  · rcases leastQ_is (rd_T54 l (i : Int)).f0 0 with h1 | ⟨p, hp, h1, h2⟩
    · omega
    · obtain ⟨j, hj, e⟩ := mem_at hf hi hp
      exact ⟨j, hj, by rw [e]; exact h1, by rw [e]; exact h2⟩
theorem order_wr {l : List S54} (hO : orderI l = true) {b n : Nat} (hb : b < 4) (hn : freeN (rd_T54 l (b : Int)).f0 = n) (h0 : n ≠ 0) (hp : ∀ i : Nat, i < 4 → partB (rd_T54 l (i : Int)) = true → i = b)
    {p : S63} (hX : flashOkB (setPg l b (4 - n) p) = true) (hs : p.f1.f1 = most l + 1) : orderI (setPg l b (4 - n) p) = true := by
  have hf := order_flash hO
  have HM := Aside0.mk (most_fact hf)
  have hm0 : 0 ≤ most l := HM.out.1
  have hlen := flash_len hf
  have hbl := flash_block hf b hb
  have PX := pg_set (l := l) (i := b) (j := 4 - n) (by omega) (by omega) p
  have RX := fun a => rdB_setPg (l := l) (i := b) (by omega) (4 - n) p a
  have hT : ∀ i, i < 4 → i ≠ b → spansF (setPg l b (4 - n) p) i = spansF l i := fun i hi hne => by
    rw [spansF_at i (by rw [setPg_len]; omega), spansF_at i (by omega), RX, if_neg hne]
  generalize hXX : setPg l b (4 - n) p = X at *
  have hnew : (pg X b (4 - n)).f1.f1 = most l + 1 := by rw [PX, if_pos ⟨rfl, rfl⟩, hs]
  have HT := Aside0.mk (span_facts hX hb)
  have hTb : (spansF X b).2 = most l + 1 := by
    have h1 := HT.out.2.1 (4 - n) (by omega)
    rcases HT.out.2.2.1 with h | ⟨j, hj, h⟩
    · omega
    · rw [PX] at h
      split at h
      · omega
      · have := HM.out.2.2.1 b j hb hj
        omega
  have hSle : ∀ i, i < 4 → (spansF l i).2 ≤ most l := fun i hi => by
    rcases (span_facts hf hi).2.2.1 with h | ⟨j, hj, h⟩
    · omega
    · have := HM.out.2.2.1 i j hi hj
      omega
  unfold orderI at hO ⊢
  rw [Bool.and_eq_true, Bool.and_eq_true, Bool.and_eq_true, Bool.not_eq_true', Bool.not_eq_true', decide_eq_true_eq] at hO ⊢
  obtain ⟨-, ho, hbad, hpn⟩ := hO
  have key : ∀ k, k < 4 → k ≠ b → 0 < (spansF l k).2 → (spansF l k).2 ≥ (spansF X b).1 → False := fun k hk hkb h1 h2 => by
    have hpos := (HT.out.2.2.2.1 (4 - n) (by omega) (by omega)).1
    obtain ⟨j, hj, h3, h4⟩ := HT.out.2.2.2.2 hpos
    have hkl := hSle k hk
    rw [PX] at h3 h4
    split at h4
    · omega
    rename_i hjn
    rw [if_neg hjn] at h3
    have hq := (span_facts hf hb).2.1 j hj
    have hq2 := ((span_facts hf hb).2.2.2.1 j hj h3).2
    have hnc : ¬ ((spansF l b).2 ≥ (spansF l k).1 ∧ (spansF l k).2 ≥ (spansF l b).1) := fun hc => by
      rw [Bool.eq_false_iff] at ho
      rcases Nat.lt_trichotomy k b with h | h | h
      · exact ho ((overN_iff _ 4).2 ⟨b, k, h, hb, by unfold crossB; rw [decide_eq_true_eq]; omega⟩)
      · exact hkb h
      · exact ho ((overN_iff _ 4).2 ⟨k, b, h, hk, by unfold crossB; rw [decide_eq_true_eq]; omega⟩)
    have hkk : (spansF l k).1 ≤ (spansF l k).2 := by
      rcases (span_facts hf hk).2.2.1 with h | ⟨i, hi, h⟩
      · omega
      · have := ((span_facts hf hk).2.2.2.1 i hi (by omega)).2
        omega
    rw [Bool.eq_false_iff] at hbad
    refine hbad ((badN_iff l _ _ 4).2 ⟨b, hb, ?_, by omega, (newestN_lt _ _ (by omega) 4).2 ⟨k, hk, by omega⟩⟩)
    unfold partB
    rw [freeQN, hn, decide_eq_true_eq]
    have hle := freeN_le (rd_T54 l (b : Int)).f0
    refine ⟨by omega, Nat.lt_of_le_of_ne (by omega) fun h => ?_⟩
    have hz := (free_at hf hb hj).2 (by omega)
    have hpk := pg_ok hf hb hj
    unfold pageB at hpk
    rw [if_neg (by rw [hz]; decide), if_pos (.inl hz)] at hpk
    simp only [Bool.and_eq_true, beq_iff_eq] at hpk
    omega
  have hpX : ∀ i, i < 4 → i ≠ b → partB (rd_T54 X (i : Int)) = true → False := fun i hi hne h => by
    rw [RX, if_neg hne] at h
    exact hne (hp i hi h)
  refine ⟨hX, ?_, ?_, ?_⟩
  · rw [Bool.eq_false_iff] at ho ⊢
    intro h
    obtain ⟨i, j, h1, h2, hc⟩ := (overN_iff _ 4).1 h
    unfold crossB at hc
    rw [decide_eq_true_eq] at hc
    by_cases hi : i = b
    · rw [hi] at hc h1
      rw [hT j (by omega) (by omega)] at hc
      exact key j (by omega) (by omega) hc.2.1 hc.2.2.2
    by_cases hj : j = b
    · rw [hj] at hc
      rw [hT i h2 hi] at hc
      exact key i h2 hi hc.1 hc.2.2.1
    · rw [hT i h2 hi, hT j (by omega) hj] at hc
      exact ho ((overN_iff _ 4).2 ⟨i, j, h1, h2, by unfold crossB; rw [decide_eq_true_eq]; exact hc⟩)
  · rw [Bool.eq_false_iff]
    intro h
    obtain ⟨i, h1, h2, h3, h4⟩ := (badN_iff X _ _ 4).1 h
    by_cases hi : i = b
    · obtain ⟨k, k1, k2⟩ := (newestN_lt _ _ (by omega) 4).1 h4
      rw [hi, hTb] at k2
      by_cases hk : k = b
      · rw [hk] at k2
        omega
      · rw [hT k k1 hk] at k2
        have := hSle k k1
        omega
    · exact hpX i h1 hi h2
  · refine Nat.le_of_not_lt fun h => ?_
    obtain ⟨i, j, h1, h2, h3, h4⟩ := (partN_two X 4).1 h
    by_cases hi : i = b
    · exact hpX j (by omega) (by omega) h4
    · exact hpX i h2 hi h3
theorem disk_all {M : RecMap} {l1 : List Int} : ∀ n : Nat, (∀ i, i < n → okAt M (rd l1 (i : Int)) i = true) → diskN M l1 n = true
  | 0, _ => rfl
  | n + 1, h => by
    rw [diskN, disk_all n (fun i hi => h i (by omega)), h n (by omega)]
    rfl
theorem store_wr {fl X : List S54} {d : List Int} (hs : storeOkB fl d = true) (hX : orderI X = true) {a n v : Int} (hn : 0 < n) (hA : lastA X a = ⟨1, n, a, v⟩) (hC : ∀ c, c ≠ a → lastA X c = lastA fl c) :
    storeOkB X d = true ∧ ∀ i : Nat, valAt (lastMap X) d i = if (i : Int) + 1 = a then v else valAt (lastMap fl) d i := by
  obtain ⟨h6, ho, hd⟩ := store_fact hs
  have hfX := order_flash hX
  have hf := order_flash ho
  have hM : ∀ c, lastMap X c = if c = a then some (1, n, a, v) else lastMap fl c := fun c => by
    by_cases hc : c = a
    · rw [if_pos hc, hc, lastMap_at hfX, hA, if_pos hn]
      rfl
    · rw [if_neg hc, lastMap_at hfX, lastMap_at hf, hC c hc]
  refine ⟨?_, fun i => ?_⟩
  · unfold storeOkB
    rw [decide_eq_true (by omega : (d.length : Int) = 6), hX, Bool.true_and, Bool.true_and]
    refine disk_all 6 fun i hi => ?_
    have h := tail_at (lastMap fl) d 6 0 (by rw [tail_disk]; exact hd) i (by omega) (by omega)
    unfold okAt at h ⊢
    rw [hM]
    by_cases hc : (i : Int) + 1 = a
    · rw [if_pos hc]
      rw [Bool.and_eq_true] at h ⊢
      exact ⟨h.1, rfl⟩
    · rw [if_neg hc]
      exact h
  · unfold valAt
    rw [hM]
    by_cases hc : (i : Int) + 1 = a
    · rw [if_pos hc, if_pos hc]
    · rw [if_neg hc, if_neg hc]
theorem all_wr {fl X : List S54} {d : List Int} (hs : storeOkB fl d = true) (hx : storeOkB X d = true) {a v : Int} (ha : 1 ≤ a ∧ a ≤ 6) (h : ∀ i : Nat, valAt (lastMap X) d i = if (i : Int) + 1 = a then v else valAt (lastMap fl) d i) : (allV fl d).length = 6 ∧ allV X d = (allV fl d).set (a - 1).toNat v := by
  unfold allV
  rw [if_pos hs, if_pos hx, h 0, h 1, h 2, h 3, h 4, h 5]
  refine ⟨rfl, ?_⟩
  obtain rfl | rfl | rfl | rfl | rfl | rfl : a = 1 ∨ a = 2 ∨ a = 3 ∨ a = 4 ∨ a = 5 ∨ a = 6 := by omega
  all_goals rfl
theorem lqI_loop (l : List Int) (hl : l.length ≤ 1048576) (K : Nat) : ∀ (n i : Nat), i + n = l.length → laws_lqInts.l0 (K + n + 1) l l (i : Int) = some true
  | 0, i, h => by rw [laws_lqInts.l0, if_neg (by omega)]
  | n + 1, i, h => by
    rw [laws_lqInts.l0, if_pos (by omega), if_pos (by omega), if_pos (by omega), if_pos rfl, show wrap64 ((i : Int) + 1) = ((i + 1 : Nat) : Int) by rw [wrap64_in _ (by omega)]; omega]
    exact lqI_loop l hl K n (i + 1) (by omega)
theorem lqI_ok (l : List Int) (hl : l.length ≤ 1048576) (k : Nat) (hk : l.length < k) : laws_lqInts.f k l l = some true := by
  unfold laws_lqInts.f
  rw [if_pos rfl]
  have := lqI_loop l hl (k - l.length - 1) l.length 0 (by omega)
  rw [show k - l.length - 1 + l.length + 1 = k by omega] at this
  exact this
theorem FnReadWrite : laws_FnReadWrite.Pure := by
  intro l0 l1 _ _ hw _ _ _
  refine ⟨1003, ?_⟩
  obtain ⟨fl, d, a, eD⟩ := draw_ok (bytes_of hw)
  have eD : spec_DrawStoreRead.f 1002 l0 = some (fl, d, a) := spec_DrawStoreRead.mono _ _ _ (spec_DrawStoreRead.mono _ _ _ eD)
  have J : laws_FnReadWrite.j0 1003 l0 l1 true = some true := by rw [laws_FnReadWrite.j0, if_pos rfl]
  unfold laws_FnReadWrite.f
  split
  · exact J
  by_cases hl1 : (l1.length : Int) > 1048576
  · rw [decide_eq_true hl1]
    exact J
  rw [decide_eq_false hl1, laws_FnReadWrite.j0, if_neg (by decide), eD]
  simp only [Option.bind_some]
  unfold impl_StoreRead.f
  rw [Option.bind_some, specRead_ok fl d a _ (by omega), Option.bind_some, if_pos rfl, specStoreOk_ok fl d _ (by omega), Option.bind_some]
  have J1 : laws_FnReadWrite.j1 1002 l1 a (readV fl d a) true fl d = some true := by
    rw [laws_FnReadWrite.j1, if_pos rfl, specRead_ok fl d a _ (by omega), Option.bind_some, beq_self_eq_true]
  cases hs : storeOkB fl d with
  | false =>
    rw [if_neg (by decide)]
    exact J1
  | true =>
    obtain ⟨h6, ho, hd⟩ := store_fact hs
    have hf := order_flash ho
    rw [if_pos rfl]
    by_cases h1 : a < 1
    · rw [if_pos h1]
      exact J1
    rw [if_neg h1]
    by_cases ha6 : a > 6
    · rw [decide_eq_true ha6]
      exact J1
    have J2 : ∀ b n, laws_FnReadWrite.j2 1001 l1 a b n true fl d = some true := fun b n => by rw [laws_FnReadWrite.j2, if_pos rfl]
    rw [decide_eq_false ha6, laws_FnReadWrite.j1, if_neg (by decide), implFindOpen_ok fl _ (by omega), Option.bind_some, implNext_ok, Option.bind_some, nextV_eq hf]
    have hR : openR fl = openV fl 4 0 (-1) := by
      unfold openR
      rw [if_pos hf]
    rw [hR]
    cases hop : (openV fl 4 0 (-1)).2 with
    | false =>
      rw [if_neg (by decide)]
      exact J2 _ _
    | true =>
      rw [if_pos rfl]
      by_cases hm : most fl + 1 > 600
      · rw [decide_eq_true hm]
        exact J2 _ _
      obtain ⟨b0, b4, hcl⟩ := open_fact hop
      obtain ⟨b, hbe⟩ : ∃ b : Nat, (openV fl 4 0 (-1)).1 = (b : Int) := ⟨_, (Int.toNat_of_nonneg b0).symm⟩
      rw [hbe] at b4 hcl
      have hb : b < 4 := by omega
      have hcl : freeN (rd_T54 fl (b : Int)).f0 ≠ 0 := by
        have : 0 < clN fl b := hcl
        unfold clN at this
        omega
      obtain ⟨v, hve⟩ : ∃ v, v = (l1.length : Int) % 10 := ⟨_, rfl⟩
      have hv : 0 ≤ v ∧ v ≤ 9 := by omega
      obtain ⟨X, Y, eX, -, eB, hX, -, hA, hC, -⟩ := lw_facts hf (a := a) (v := v) (by omega) hv hb hcl (by omega)
      have hr : recOkB 1 (most fl + 1) a v = true := by
        have := (most_fact hf).1
        unfold recOkB
        rw [decide_eq_true_eq]
        omega
      have hput := (fw_put (l := fl) (b := b) (r0 := 1) (r1 := most fl + 1) (r2 := a) (r3 := v) ⟨hf, by omega, hr⟩ hcl (used_no hf (by omega)) false).1
      rw [eX] at hput
      have hpn : partN fl 4 ≤ 1 := by
        unfold orderI at ho
        rw [Bool.and_eq_true, Bool.and_eq_true, Bool.and_eq_true, decide_eq_true_eq] at ho
        exact ho.2.2.2
      have hoX : orderI X = true := by
        rw [hput] at hX ⊢
        exact order_wr ho hb rfl hcl (fun i hi hp => by have := open_part hpn hi hp; omega) hX rfl
      obtain ⟨hsX, hval⟩ := store_wr hs hoX (by have := (most_fact hf).1; omega) hA hC
      obtain ⟨hlen, hall⟩ := all_wr hs hsX (by omega) hval
      rw [decide_eq_false hm, laws_FnReadWrite.j2, if_neg (by decide), ← hve, hbe, implFW_ok _ _ _ _ _ _ _ _ (by omega), Option.bind_some, eX, eB]
      unfold impl_StoreAll.f impl_StoreOk.f
      rw [Option.bind_some, wrap64_in _ (by omega), if_pos (by omega), if_pos (by rw [hlen]; omega), if_pos rfl, Option.bind_some, if_pos hsX, Option.bind_some, hall, lqI_ok _ (by rw [List.length_set, hlen]; decide) _ (by rw [List.length_set, hlen]; omega)]
      rfl
end Go.Proofs.Ytghmnlcmhpdcaaa.Pure
