/- No number is there twice, in plain Lean: of blocks that are drawn. -/
import Derived.Test.YtfijfkbdedcnfaaR411
import Derived.IntWalk
import Derived.Laws.BitsAllLaws
namespace Go.Proofs.Ytfijfkbdedcnfaa.Pure
open Go.RowKit Go.IntWalk Go.Proofs.Ytfijfkbdedcnfaa.R4 Go.Proofs.YtfijfkbdedcnfaaW Go.Proofs.YtfijfkbdedcnfaaW.PrintWords Go.Proofs.YtfijfkbdedcnfaaW.PrintLast Go.Proofs.YtfijfkbdedcnfaaW.PrintMore
abbrev DB := S33
abbrev DP := S30
abbrev DS := S75
def okPg (p : DP) : Prop := p.f0 = 1 → 1 ≤ p.f1.f2 ∧ p.f1.f2 ≤ 6
def okBl (b : DB) : Prop := b.f0.length = 4 ∧ ∀ p ∈ b.f0, okPg p
def okFl (fl : List DB) : Prop := fl.length = 4 ∧ ∀ b ∈ fl, okBl b
def okSt (x : DS) : Prop := (x.f0 = 1 → 1 ≤ x.f1 ∧ x.f1 ≤ 6) ∧ (x.f0 = 2 ∨ x.f0 = 3 → 0 ≤ x.f3 ∧ x.f3 < 4) ∧ (x.f0 = 3 → 1 ≤ x.f4.f2 ∧ x.f4.f2 ≤ 6)
theorem rdB_in {fl : List DB} {i : Int} (h0 : 0 ≤ i) (h : i < (fl.length : Int)) : rd_T33 fl i ∈ fl := by
  unfold rd_T33
  rw [List.getD_eq_getElem?_getD, List.getElem?_eq_getElem (by omega : i.toNat < fl.length)]
  exact List.getElem_mem _
theorem rdP_in {ps : List DP} {i : Int} (h0 : 0 ≤ i) (h : i < (ps.length : Int)) : rd_T30 ps i ∈ ps := by
  unfold rd_T30
  rw [List.getD_eq_getElem?_getD, List.getElem?_eq_getElem (by omega : i.toNat < ps.length)]
  exact List.getElem_mem _
theorem rdS_in {xs : List DS} {i : Int} (h0 : 0 ≤ i) (h : i < (xs.length : Int)) : rd_T75 xs i ∈ xs := by
  unfold rd_T75
  rw [List.getD_eq_getElem?_getD, List.getElem?_eq_getElem (by omega : i.toNat < xs.length)]
  exact List.getElem_mem _
theorem flAt {fl : List DB} (h : okFl fl) {i : Int} (h0 : 0 ≤ i) (h1 : i < 4) : okBl (rd_T33 fl i) := h.2 _ (rdB_in h0 (by rw [h.1]; exact h1))
theorem okSet {fl : List DB} (h : okFl fl) (n : Nat) {b : DB} (hb : okBl b) : okFl (fl.set n b) := ⟨by rw [List.length_set]; exact h.1, fun x hx => by
  rcases List.mem_or_eq_of_mem_set hx with hx | rfl
  · exact h.2 _ hx
  · exact hb⟩
theorem okSetP {b : DB} (h : okBl b) (n : Nat) {p : DP} (hp : okPg p) (w : Int) : okBl ⟨b.f0.set n p, w⟩ := ⟨by show (b.f0.set n p).length = 4; rw [List.length_set]; exact h.1, fun x hx => by
  rcases List.mem_or_eq_of_mem_set hx with hx | rfl
  · exact h.2 _ hx
  · exact hp⟩
theorem upN (i : Nat) (h : i < 100000) : wrap64 ((i : Int) + 1) = ((i + 1 : Nat) : Int) := by
  rw [wrap64_in _ (by omega)]
  omega
theorem l6In_t (n a b : Int) : spec_l6In.f n a b = some (decide (a ≤ n ∧ n ≤ b)) := by
  unfold spec_l6In.f
  by_cases h : n ≥ a
  · rw [if_pos h]
    exact congrArg some (decide_eq_decide.2 ⟨fun h2 => ⟨h, h2⟩, fun h2 => h2.2⟩)
  · rw [if_neg h]
    exact congrArg some (decide_eq_false (fun h2 => h h2.1)).symm
theorem recOk_t (a b c d : Int) : ∃ r, spec_RecOk.f a b c d = some r ∧ (r = true → 1 ≤ c ∧ c ≤ 6) := by
  unfold spec_RecOk.f
  rw [l6In_t, l6In_t, l6In_t, l6In_t]
  simp only [Option.bind_some]
  by_cases h1 : (1 : Int) ≤ a ∧ a ≤ 2
  · rw [if_pos (decide_eq_true h1)]
    by_cases h2 : (1 : Int) ≤ b ∧ b ≤ 600
    · rw [if_pos (decide_eq_true h2)]
      by_cases h3 : (1 : Int) ≤ c ∧ c ≤ 6
      · rw [if_pos (decide_eq_true h3)]
        exact ⟨_, rfl, fun _ => h3⟩
      · rw [if_neg (by simpa using h3)]
        exact ⟨_, rfl, fun h => by cases h⟩
    · rw [if_neg (by simpa using h2)]
      exact ⟨_, rfl, fun h => by cases h⟩
  · rw [if_neg (by simpa using h1)]
    exact ⟨_, rfl, fun h => by cases h⟩
theorem cleanL (ps : List DP) (hl : ps.length = 4) (w : Int) (K : Nat) : ∀ (n i m : Nat), i + n = 4 → m ≤ i → ∃ r : Nat, r ≤ 4 ∧ spec_l2Clean.l0 (K + n + 1) (m : Int) (i : Int) ps w = some (r : Int)
  | 0, i, m, h, hm => ⟨m, by omega, by rw [spec_l2Clean.l0, if_neg (by omega)]⟩
  | n + 1, i, m, h, hm => by
    obtain ⟨r1, a1, e1⟩ := cleanL ps hl w K n (i + 1) (m + 1) (by omega) (by omega)
    obtain ⟨r2, a2, e2⟩ := cleanL ps hl w K n (i + 1) m (by omega) (by omega)
    rw [show K + (n + 1) + 1 = (K + n + 1) + 1 from rfl, spec_l2Clean.l0, if_pos (by omega), if_pos (by omega), upN i (by omega), upN m (by omega), e1, e2]
    split
    · exact ⟨r1, a1, rfl⟩
    · exact ⟨r2, a2, rfl⟩
theorem cleanF (ps : List DP) (hl : ps.length = 4) (w : Int) (k : Nat) (hk : 5 ≤ k) : ∃ r : Nat, r ≤ 4 ∧ spec_l2Clean.f k ps w = some (r : Int) := by
  have h := cleanL ps hl w (k - 5) 4 0 0 (by omega) (by omega)
  rw [show k - 5 + 4 + 1 = k by omega] at h
  exact h
theorem seqIn (fl : List DB) (s : Int) (i : Nat) (hi : i < fl.length) (hp : (rd_T33 fl (i : Int)).f0.length = 4) (K : Nat) (h0 : ∃ b, spec_l2Seq.l0 K fl s ((i + 1 : Nat) : Int) = some b) (hi2 : i < 1000) : ∀ (n j : Nat), j + n = 4 → ∃ b, spec_l2Seq.l1 (K + n + 1) fl s (i : Int) (j : Int) = some b
  | 0, j, h => by
    obtain ⟨b, e⟩ := h0
    rw [spec_l2Seq.l1, if_pos (by omega), if_pos (by omega), if_neg (by omega), upN i (by omega)]
    exact ⟨b, e⟩
  | n + 1, j, h => by
    obtain ⟨b, e⟩ := seqIn fl s i hi hp K h0 hi2 n (j + 1) (by omega)
    rw [show K + (n + 1) + 1 = (K + n + 1) + 1 from rfl, spec_l2Seq.l1, if_pos (by omega), if_pos (by omega), if_pos (by omega), if_pos (by omega), upN j (by omega), e]
    split
    · split
      · exact ⟨_, rfl⟩
      · exact ⟨_, rfl⟩
    · exact ⟨_, rfl⟩
theorem seqOut (fl : List DB) (s : Int) (h : okFl fl) : ∀ (n i K : Nat), i + n = 4 → ∃ b, spec_l2Seq.l0 (K + n * 6 + 1) fl s (i : Int) = some b
  | 0, i, K, hi => ⟨false, by rw [spec_l2Seq.l0, if_neg (by rw [h.1]; omega)]⟩
  | n + 1, i, K, hi => by
    have ih := seqOut fl s h n (i + 1) K (by omega)
    rw [spec_l2Seq.l0, if_pos (by rw [h.1]; omega), show K + (n + 1) * 6 = (K + n * 6 + 1) + 4 + 1 by omega]
    exact seqIn fl s i (by rw [h.1]; omega) (flAt h (by omega) (by omega)).1 (K + n * 6 + 1) ih (by omega) 4 0 (by omega)
theorem seqF {fl : List DB} (s : Int) (h : okFl fl) (k : Nat) (hk : 25 ≤ k) : ∃ b, spec_l2Seq.f k fl s = some b := by
  have h1 := seqOut fl s h 4 0 (k - 25) (by omega)
  rw [show k - 25 + 4 * 6 + 1 = k by omega] at h1
  exact h1
theorem writeF {fl : List DB} (h : okFl fl) {b : Int} (hb0 : 0 ≤ b) (hb1 : b < 4) (r0 r1 r2 r3 : Int) (hr : 1 ≤ r2 ∧ r2 ≤ 6) (t : Bool) (k : Nat) (hk : 30 ≤ k) : ∃ fl' o, spec_l2Write.f k fl b r0 r1 r2 r3 t = some (fl', o) ∧ okFl fl' := by
  obtain ⟨k, rfl⟩ : ∃ j, k = j + 1 := ⟨k - 1, by omega⟩
  have hB := flAt h hb0 hb1
  have hlen : b < (fl.length : Int) := by rw [h.1]; exact hb1
  obtain ⟨n, hn, e1⟩ := cleanF (rd_T33 fl b).f0 hB.1 (rd_T33 fl b).f1 (k + 1) (by omega)
  obtain ⟨u, e2⟩ := seqF r1 h (k + 1) (by omega)
  unfold spec_l2Write.f
  rw [if_pos hb0, if_pos hlen, e1, e2]
  simp only [Option.bind_some]
  by_cases hz : (n : Int) = 0
  · rw [if_pos hz, spec_l2Write.j0, if_pos rfl]
    exact ⟨_, _, rfl, h⟩
  · have e3 : wrap64 (4 - (n : Int)) = 4 - (n : Int) := wrap64_in _ (by omega)
    rw [if_neg hz, spec_l2Write.j0, e3]
    cases u with
    | true =>
      rw [if_pos rfl]
      exact ⟨_, _, rfl, h⟩
    | false =>
      rw [if_neg (by simp)]
      cases t with
      | true =>
        rw [if_pos rfl, if_pos hb0, if_pos hlen, if_pos (by omega), if_pos (by rw [hB.1]; omega)]
        exact ⟨_, _, rfl, okSet h _ (okSetP hB _ (fun hq => absurd hq (by show ¬ (2 : Int) = 1; decide)) _)⟩
      | false =>
        rw [if_neg (by simp), if_pos hb0, if_pos hlen, if_pos (by omega), if_pos (by rw [hB.1]; omega)]
        exact ⟨_, _, rfl, okSet h _ (okSetP hB _ (fun _ => hr) _)⟩
theorem wipeL {b s : Int} (hb0 : 0 ≤ b) (hb1 : b < 4) (hs : s ≠ 1) (K : Nat) : ∀ (n i : Nat) (fl : List DB), okFl fl → i + n = 4 → ∃ fl' o, spec_l2Wipe.l0 (K + n + 1) fl b s (i : Int) = some (fl', o) ∧ okFl fl'
  | 0, i, fl, h, hi => ⟨fl, true, by rw [spec_l2Wipe.l0, if_neg (by omega)], h⟩
  | n + 1, i, fl, h, hi => by
    have hB := flAt h hb0 hb1
    rw [show K + (n + 1) + 1 = (K + n + 1) + 1 from rfl, spec_l2Wipe.l0, if_pos (by omega), if_pos hb0, if_pos (by rw [h.1]; exact hb1), if_pos (by omega), if_pos (by rw [hB.1]; omega), upN i (by omega)]
    exact wipeL hb0 hb1 hs K n (i + 1) _ (okSet h _ (okSetP hB _ (fun hq => absurd hq hs) _)) (by omega)
theorem wipeF {fl : List DB} (h : okFl fl) {b : Int} (hb0 : 0 ≤ b) (hb1 : b < 4) (t : Bool) (k : Nat) (hk : 10 ≤ k) : ∃ fl' o, spec_l2Wipe.f k fl b t = some (fl', o) ∧ okFl fl' := by
  obtain ⟨k, rfl⟩ : ∃ j, k = j + 1 := ⟨k - 1, by omega⟩
  have hB := flAt h hb0 hb1
  unfold spec_l2Wipe.f
  rw [if_pos hb0, if_pos (by rw [h.1]; exact hb1)]
  by_cases hw : (rd_T33 fl b).f1 ≥ 200
  · rw [if_pos hw]
    exact ⟨_, _, rfl, h⟩
  · rw [if_neg hw]
    simp only [Option.bind_some]
    have h2 : okFl (fl.set b.toNat (⟨(rd_T33 fl b).f0, wrap64 ((rd_T33 fl b).f1 + 1)⟩ : DB)) := okSet h _ ⟨hB.1, hB.2⟩
    have q := fun s (hs : s ≠ 1) => wipeL (s := s) hb0 hb1 hs (k - 5) 4 0 _ h2 (by omega)
    rw [show k - 5 + 4 + 1 = k by omega] at q
    cases t with
    | true =>
      rw [if_pos rfl, spec_l2Wipe.j0]
      exact q 2 (by decide)
    | false =>
      rw [if_neg (by simp), spec_l2Wipe.j0]
      exact q 0 (by decide)
theorem mostL (ps : List DP) (hl : ps.length = 4) (w : Int) (K : Nat) : ∀ (n i : Nat) (m : Int), i + n = 4 → ∃ r, spec_l3Most.l0 (K + n + 1) m (i : Int) ps w = some r
  | 0, i, m, h => ⟨m, by rw [spec_l3Most.l0, if_neg (by omega)]⟩
  | n + 1, i, m, h => by
    rw [show K + (n + 1) + 1 = (K + n + 1) + 1 from rfl, spec_l3Most.l0, if_pos (by omega), if_pos (by omega), upN i (by omega)]
    exact mostL ps hl w K n (i + 1) _ (by omega)
theorem mostF (ps : List DP) (hl : ps.length = 4) (w : Int) (k : Nat) (hk : 5 ≤ k) : ∃ r, spec_l3Most.f k ps w = some r := by
  have h := mostL ps hl w (k - 5) 4 0 0 (by omega)
  rw [show k - 5 + 4 + 1 = k by omega] at h
  exact h
theorem nextL {fl : List DB} (h : okFl fl) (K : Nat) (hK : 5 ≤ K) : ∀ (n i : Nat) (m : Int), i + n = 4 → ∃ r, spec_l3Next.l0 (K + n + 1) fl m (i : Int) = some r
  | 0, i, m, hi => ⟨_, by rw [spec_l3Next.l0, if_neg (by rw [h.1]; omega)]⟩
  | n + 1, i, m, hi => by
    obtain ⟨r, e⟩ := mostF _ (flAt h (show (0 : Int) ≤ i by omega) (show (i : Int) < 4 by omega)).1 (rd_T33 fl (i : Int)).f1 (K + n + 1) (by omega)
    rw [show K + (n + 1) + 1 = (K + n + 1) + 1 from rfl, spec_l3Next.l0, if_pos (by rw [h.1]; omega), if_pos (by omega), e, Option.bind_some, upN i (by omega)]
    exact nextL h K hK n (i + 1) _ (by omega)
theorem nextF {fl : List DB} (h : okFl fl) (k : Nat) (hk : 10 ≤ k) : ∃ r, spec_l3Next.f k fl = some r := by
  have h1 := nextL h (k - 5) (by omega) 4 0 0 (by omega)
  rw [show k - 5 + 4 + 1 = k by omega] at h1
  exact h1
theorem mx0 {o : Int} (h1 : o < 4) : 0 ≤ mx o 0 ∧ mx o 0 < 4 := by
  unfold mx
  split <;> omega
theorem openL {fl : List DB} (h : okFl fl) (K : Nat) (hK : 5 ≤ K) : ∀ (n i : Nat) (o : Int), i + n = 4 → -1 ≤ o → o < 4 → ∃ a c, spec_l3Open.l0 (K + 2 * n + 1) fl o (i : Int) = some (a, c) ∧ 0 ≤ a ∧ a < 4
  | 0, i, o, hi, h1, h2 => by
    rw [spec_l3Open.l0, if_neg (by rw [h.1]; omega)]
    exact ⟨_, _, rfl, mx0 h2⟩
  | n + 1, i, o, hi, h1, h2 => by
    obtain ⟨r, hr, e⟩ := cleanF _ (flAt h (show (0 : Int) ≤ i by omega) (show (i : Int) < 4 by omega)).1 (rd_T33 fl (i : Int)).f1 (K + 2 * n + 1 + 1) (by omega)
    have ih := fun o a b => openL h K hK n (i + 1) o (by omega) a b
    have hl : (i : Int) < (fl.length : Int) := by rw [h.1]; omega
    rw [show K + 2 * (n + 1) + 1 = (K + 2 * n + 1 + 1) + 1 by omega, spec_l3Open.l0, if_pos hl, if_pos (by omega), e]
    simp only [Option.bind_some]
    have J : ∀ c : Bool, ∃ a c', spec_l3Open.j1 (K + 2 * n + 1 + 1) fl o (i : Int) (r : Int) c = some (a, c') ∧ 0 ≤ a ∧ a < 4 := by
      intro c
      rw [spec_l3Open.j1, upN i (by omega)]
      cases c with
      | true =>
        rw [if_pos rfl]
        exact ⟨_, _, rfl, by omega, by omega⟩
      | false =>
        rw [if_neg (by simp)]
        by_cases c1 : (r : Int) > 0
        · rw [if_pos c1]
          by_cases c2 : o < 0
          · rw [if_pos c2]
            exact ih _ (by omega) (by omega)
          · rw [if_neg c2, if_pos (by omega), if_pos hl, if_pos (by omega), if_pos (by rw [h.1]; omega)]
            split
            · exact ih _ (by omega) (by omega)
            · exact ih _ (by omega) (by omega)
        · rw [if_neg c1]
          exact ih _ (by omega) (by omega)
    split
    · exact J _
    · exact J _
theorem openF {fl : List DB} (h : okFl fl) (k : Nat) (hk : 20 ≤ k) : ∃ a c, spec_l3Open.f k fl = some (a, c) ∧ 0 ≤ a ∧ a < 4 := by
  have h1 := openL h (k - 9) (by omega) 4 0 (-1) (by omega) (by omega) (by omega)
  rw [show k - 9 + 2 * 4 + 1 = k by omega] at h1
  exact h1
theorem oldL {fl : List DB} (h : okFl fl) (K : Nat) (hK : 5 ≤ K) : ∀ (n i : Nat) (o : Int), i + n = 4 → 0 ≤ o → o < 4 → ∃ a, spec_l3Old.l0 (K + n + 1) fl o (i : Int) = some a ∧ 0 ≤ a ∧ a < 4
  | 0, i, o, hi, h1, h2 => ⟨o, by rw [spec_l3Old.l0, if_neg (by rw [h.1]; omega)], h1, h2⟩
  | n + 1, i, o, hi, h1, h2 => by
    obtain ⟨r, e⟩ := mostF _ (flAt h (show (0 : Int) ≤ i by omega) (show (i : Int) < 4 by omega)).1 (rd_T33 fl (i : Int)).f1 (K + n + 1) (by omega)
    obtain ⟨r2, e2⟩ := mostF _ (flAt h h1 h2).1 (rd_T33 fl o).f1 (K + n + 1) (by omega)
    have ih := fun o a b => oldL h K hK n (i + 1) o (by omega) a b
    rw [show K + (n + 1) + 1 = (K + n + 1) + 1 from rfl, spec_l3Old.l0, if_pos (by rw [h.1]; omega), if_pos (by omega), e, Option.bind_some, if_pos h1, if_pos (by rw [h.1]; exact h2), e2, Option.bind_some, upN i (by omega)]
    split
    · exact ih _ (by omega) (by omega)
    · exact ih _ h1 h2
theorem oldF {fl : List DB} (h : okFl fl) (k : Nat) (hk : 10 ≤ k) : ∃ a, spec_l3Old.f k fl = some a ∧ 0 ≤ a ∧ a < 4 := by
  have h1 := oldL h (k - 4) (by omega) 3 1 0 (by omega) (by omega) (by omega)
  rw [show k - 4 + 3 + 1 = k by omega] at h1
  exact h1
theorem lastIn (fl : List DB) (s : Int) (i : Nat) (hi : i < fl.length) (hp : (rd_T33 fl (i : Int)).f0.length = 4) (K : Nat) (h0 : ∀ r0 r1 r2 r3, ∃ a b c d e, spec_l3Last.l0 K fl s ((i + 1 : Nat) : Int) r0 r1 r2 r3 = some (a, b, c, d, e)) (hi2 : i < 1000) : ∀ (n j : Nat) (r0 r1 r2 r3 : Int), j + n = 4 → ∃ a b c d e, spec_l3Last.l1 (K + n + 1) fl s (i : Int) (j : Int) r0 r1 r2 r3 = some (a, b, c, d, e)
  | 0, j, r0, r1, r2, r3, h => by
    rw [spec_l3Last.l1, if_pos (by omega), if_pos (by omega), if_neg (by omega), upN i (by omega)]
    exact h0 _ _ _ _
  | n + 1, j, r0, r1, r2, r3, h => by
    have ih := fun r0 r1 r2 r3 => lastIn fl s i hi hp K h0 hi2 n (j + 1) r0 r1 r2 r3 (by omega)
    rw [show K + (n + 1) + 1 = (K + n + 1) + 1 from rfl, spec_l3Last.l1, if_pos (by omega), if_pos (by omega), if_pos (by omega), if_pos (by omega), upN j (by omega)]
    split
    · split
      · split
        · exact ih _ _ _ _
        · exact ih _ _ _ _
      · exact ih _ _ _ _
    · exact ih _ _ _ _
theorem lastOut (fl : List DB) (s : Int) (h : okFl fl) : ∀ (n i K : Nat) (r0 r1 r2 r3 : Int), i + n = 4 → ∃ a b c d e, spec_l3Last.l0 (K + n * 6 + 1) fl s (i : Int) r0 r1 r2 r3 = some (a, b, c, d, e)
  | 0, i, K, r0, r1, r2, r3, hi => ⟨_, _, _, _, _, by rw [spec_l3Last.l0, if_neg (by rw [h.1]; omega)]⟩
  | n + 1, i, K, r0, r1, r2, r3, hi => by
    have ih := fun r0 r1 r2 r3 => lastOut fl s h n (i + 1) K r0 r1 r2 r3 (by omega)
    rw [spec_l3Last.l0, if_pos (by rw [h.1]; omega), show K + (n + 1) * 6 = (K + n * 6 + 1) + 4 + 1 by omega]
    exact lastIn fl s i (by rw [h.1]; omega) (flAt h (by omega) (by omega)).1 (K + n * 6 + 1) ih (by omega) 4 0 _ _ _ _ (by omega)
theorem lastF {fl : List DB} (s : Int) (h : okFl fl) (k : Nat) (hk : 25 ≤ k) : ∃ a b c d e, spec_l3Last.f k fl s = some (a, b, c, d, e) := by
  have h1 := lastOut fl s h 4 0 (k - 25) 0 0 0 0 (by omega)
  rw [show k - 25 + 4 * 6 + 1 = k by omega] at h1
  exact h1
theorem liveF {fl : List DB} (h : okFl fl) (s r0 r1 r2 r3 : Int) (k : Nat) (hk : 25 ≤ k) : ∃ b, spec_l3Live.f k fl s r0 r1 r2 r3 = some b ∧ (b = true → s = 1) := by
  unfold spec_l3Live.f
  by_cases hs : s = 1
  · rw [if_pos hs]
    obtain ⟨a, b, c, d, e, q⟩ := lastF r2 h k hk
    rw [q, Option.bind_some]
    exact ⟨_, rfl, fun _ => hs⟩
  · rw [if_neg hs]
    exact ⟨_, rfl, fun h => by cases h⟩
def okSts (xs : List DS) (n : Nat) : Prop := (∀ x ∈ xs, okSt x) ∧ xs.length ≤ n
theorem nilSts (n : Nat) : okSts [] n := ⟨fun x hx => (by cases hx), Nat.zero_le _⟩
theorem okSts_add {xs : List DS} {n : Nat} (h : okSts xs n) {x : DS} (hx : okSt x) : okSts (xs ++ [x]) (n + 1) := ⟨fun y hy => by
  rcases List.mem_append.1 hy with hy | hy
  · exact h.1 _ hy
  · rw [List.mem_singleton] at hy
    rw [hy]
    exact hx, by rw [List.length_append, List.length_singleton]; have := h.2; omega⟩
theorem okSts_mono {xs : List DS} {n m : Nat} (h : okSts xs n) (hm : n ≤ m) : okSts xs m := ⟨h.1, by have := h.2; omega⟩
theorem roomL {fl : List DB} (h : okFl fl) (d : List Int) {o : Int} (ho0 : 0 ≤ o) (ho1 : o < 4) (K : Nat) (hK : 25 ≤ K) : ∀ (n i : Nat) (out : List DS), i + n = 4 → okSts out i → ∃ xs c, spec_l12Room.l0 (K + n + 1) out o (i : Int) fl d = some (xs, o, c) ∧ okSts xs 5
  | 0, i, out, hi, hs => by
    have h2 := hs.2
    rw [spec_l12Room.l0, if_neg (by omega), if_pos (by omega), if_pos ho0, if_pos (by rw [h.1]; exact ho1)]
    exact ⟨_, _, rfl, okSts_mono (okSts_add hs ⟨fun hq => absurd hq (by show ¬ (2 : Int) = 1; decide), fun _ => ⟨ho0, ho1⟩, fun hq => absurd hq (by show ¬ (2 : Int) = 3; decide)⟩) (by omega)⟩
  | n + 1, i, out, hi, hs => by
    have h2 := hs.2
    have hB := flAt h ho0 ho1
    have ih := fun out (hs : okSts out (i + 1)) => roomL h d ho0 ho1 K hK n (i + 1) out (by omega) hs
    generalize hq : rd_T30 (rd_T33 fl o).f0 (i : Int) = p
    have hpg : okPg p := by
      rw [← hq]
      exact hB.2 _ (rdP_in (by omega) (by rw [hB.1]; omega))
    obtain ⟨b, e, hb⟩ := liveF h p.f0 p.f1.f0 p.f1.f1 p.f1.f2 p.f1.f3 (K + n + 1) (by omega)
    rw [show K + (n + 1) + 1 = (K + n + 1) + 1 from rfl, spec_l12Room.l0, hq, if_pos (by omega), if_pos ho0, if_pos (by rw [h.1]; exact ho1), if_pos (by omega), if_pos (by rw [hB.1]; omega), e, Option.bind_some, upN i (by omega)]
    cases b with
    | false =>
      rw [if_neg (by simp)]
      exact ih _ (okSts_mono hs (by omega))
    | true =>
      rw [if_pos rfl]
      split
      · rw [if_pos (by omega)]
        exact ih _ (okSts_add hs ⟨fun _ => hpg (hb rfl), fun hq => by rcases hq with hq | hq <;> exact absurd hq (by simp), fun hq => absurd hq (by show ¬ (1 : Int) = 3; decide)⟩)
      · exact ih _ (okSts_mono hs (by omega))
theorem roomF {fl : List DB} (h : okFl fl) (d : List Int) (k : Nat) (hk : 40 ≤ k) : ∃ xs b c, spec_l12Room.f k fl d = some (xs, b, c) ∧ okSts xs 5 ∧ 0 ≤ b ∧ b < 4 := by
  obtain ⟨a, c, e, ha0, ha1⟩ := openF h k (by omega)
  obtain ⟨o, e2, ho0, ho1⟩ := oldF h k (by omega)
  unfold spec_l12Room.f
  rw [e, e2]
  simp only [Option.bind_some]
  cases c with
  | true =>
    rw [if_pos rfl]
    exact ⟨_, _, _, rfl, nilSts _, ha0, ha1⟩
  | false =>
    rw [if_neg (by simp)]
    obtain ⟨xs, c, e3, h3⟩ := roomL h d ho0 ho1 (k - 5) (by omega) 4 0 [] (by omega) (nilSts _)
    rw [show k - 5 + 4 + 1 = k by omega] at e3
    exact ⟨xs, o, c, e3, h3, ho0, ho1⟩
theorem stWriteF {fl : List DB} (h : okFl fl) (d : List Int) (kd a v : Int) (k : Nat) (hk : 40 ≤ k) : ∃ xs, spec_l12Write.f k fl d kd a v = some xs ∧ okSts xs 6 := by
  obtain ⟨n, e⟩ := nextF h k (by omega)
  obtain ⟨xs, b, c, e2, hx, hb0, hb1⟩ := roomF h d k hk
  obtain ⟨r, e3, hr⟩ := recOk_t kd n a v
  unfold spec_l12Write.f
  rw [e, e2]
  simp only [Option.bind_some]
  rw [e3]
  simp only [Option.bind_some]
  cases c with
  | false =>
    rw [if_neg (by simp)]
    exact ⟨_, rfl, nilSts _⟩
  | true =>
    rw [if_pos rfl]
    cases r with
    | false =>
      rw [if_neg (by simp)]
      exact ⟨_, rfl, nilSts _⟩
    | true =>
      rw [if_pos rfl, if_pos (by have := hx.2; omega)]
      exact ⟨_, rfl, okSts_add hx ⟨fun hq => absurd hq (by show ¬ (3 : Int) = 1; decide), fun _ => ⟨hb0, hb1⟩, fun _ => hr rfl⟩⟩
theorem diskAt {a : Int} (h : 1 ≤ a ∧ a ≤ 6) : wrap64 (a - 1) = a - 1 := wrap64_in _ (by omega)
theorem readF {fl : List DB} (h : okFl fl) {d : List Int} (hd : d.length = 6) {a : Int} (ha : 1 ≤ a ∧ a ≤ 6) (k : Nat) (hk : 25 ≤ k) : ∃ v, spec_l11Read.f k fl d a = some v := by
  obtain ⟨r0, r1, r2, r3, c, e⟩ := lastF a h k hk
  unfold spec_l11Read.f
  rw [e, Option.bind_some, diskAt ha]
  cases c with
  | true => exact ⟨_, if_pos rfl⟩
  | false =>
    rw [if_neg (by simp), if_pos (by omega), if_pos (by omega)]
    exact ⟨_, rfl⟩
theorem dirtyF {fl : List DB} (h : okFl fl) (d : List Int) (a : Int) (k : Nat) (hk : 25 ≤ k) : ∃ v, spec_l11Dirty.f k fl d a = some v := by
  obtain ⟨r0, r1, r2, r3, c, e⟩ := lastF a h k hk
  unfold spec_l11Dirty.f
  rw [e, Option.bind_some]
  split
  · exact ⟨_, rfl⟩
  · exact ⟨_, rfl⟩
theorem flushF {fl : List DB} (h : okFl fl) {d : List Int} (hd : d.length = 6) (a : Int) (k : Nat) (hk : 50 ≤ k) : ∃ xs, spec_l12Flush.f k fl d a = some xs ∧ okSts xs 7 := by
  obtain ⟨k, rfl⟩ : ∃ j, k = j + 1 := ⟨k - 1, by omega⟩
  have hnil : okSts ([] : List DS) 7 := nilSts 7
  unfold spec_l12Flush.f
  rw [l6In_t, Option.bind_some]
  by_cases ha : 1 ≤ a ∧ a ≤ 6
  · rw [if_pos (decide_eq_true ha)]
    obtain ⟨b, e⟩ := dirtyF h d a (k + 1) (by omega)
    rw [e, Option.bind_some, spec_l12Flush.j0]
    cases b with
    | false => exact ⟨_, if_pos rfl, hnil⟩
    | true =>
      obtain ⟨v, e2⟩ := readF h hd ha k (by omega)
      obtain ⟨xs, e3, hx⟩ := stWriteF h d 2 a v k (by omega)
      have h6 := hx.2
      rw [if_neg (by simp), e2]
      simp only [Option.bind_some]
      rw [e3]
      simp only [Option.bind_some]
      split
      · exact ⟨_, rfl, okSts_mono hx (by omega)⟩
      · rw [if_pos (by rw [List.length_singleton]; omega)]
        refine ⟨_, rfl, fun x hq => ?_, by rw [List.length_append, List.length_singleton]; omega⟩
        rcases List.mem_append.1 hq with hq | hq
        · rw [List.mem_singleton] at hq
          rw [hq]
          exact ⟨fun _ => ha, fun hq => by rcases hq with hq | hq <;> exact absurd hq (by simp), fun hq => absurd hq (by show ¬ (1 : Int) = 3; decide)⟩
        · exact hx.1 _ hq
  · rw [if_neg (by simpa using ha), spec_l12Flush.j0]
    exact ⟨_, if_pos rfl, hnil⟩
theorem fillF {fl : List DB} (h : okFl fl) {d : List Int} (hd : d.length = 6) (a : Int) (k : Nat) (hk : 50 ≤ k) : ∃ xs, spec_l12Fill.f k fl d a = some xs ∧ okSts xs 7 := by
  have hnil : okSts ([] : List DS) 7 := nilSts 7
  unfold spec_l12Fill.f
  rw [l6In_t, Option.bind_some]
  by_cases ha : 1 ≤ a ∧ a ≤ 6
  · rw [if_pos (decide_eq_true ha)]
    obtain ⟨r0, r1, r2, r3, c, e⟩ := lastF a h k (by omega)
    rw [e, Option.bind_some, diskAt ha]
    cases c with
    | true => exact ⟨_, if_pos rfl, hnil⟩
    | false =>
      obtain ⟨xs, e3, hx⟩ := stWriteF h d 2 a (rd d (a - 1)) k (by omega)
      rw [if_neg (by simp), if_pos (by omega), if_pos (by omega), e3, Option.bind_some]
      exact ⟨_, rfl, okSts_mono hx (by omega)⟩
  · rw [if_neg (by simpa using ha)]
    exact ⟨_, rfl, hnil⟩
theorem stepsF {fl : List DB} (h : okFl fl) {d : List Int} (hd : d.length = 6) (kd a b c : Int) (t : Bool) (k : Nat) (hk : 50 ≤ k) : ∃ xs, spec_l21Steps.f k fl d kd a b c t = some xs ∧ okSts xs 7 := by
  unfold spec_l21Steps.f
  obtain ⟨x1, e1, h1⟩ := stWriteF h d 1 a b k (by omega)
  obtain ⟨x2, e2, h2⟩ := flushF h hd a k hk
  obtain ⟨x3, e3, h3⟩ := fillF h hd a k hk
  rw [e1, e2, e3]
  simp only [Option.bind_some]
  split
  · exact ⟨_, rfl, okSts_mono h1 (by omega)⟩
  split
  · exact ⟨_, rfl, h2⟩
  split
  · exact ⟨_, rfl, h3⟩
  · exact ⟨_, rfl, nilSts _⟩
theorem stDoF {fl : List DB} (h : okFl fl) {d : List Int} (hd : d.length = 6) {x : DS} (hx : okSt x) (t : Bool) (k : Nat) (hk : 40 ≤ k) : ∃ fl' d', spec_l12Do.f k fl d x.f0 x.f1 x.f2 x.f3 x.f4.f0 x.f4.f1 x.f4.f2 x.f4.f3 t = some (fl', d') ∧ okFl fl' ∧ d'.length = 6 := by
  unfold spec_l12Do.f
  by_cases c1 : x.f0 = 1
  · rw [if_pos c1]
    cases t with
    | true => exact ⟨_, _, if_pos rfl, h, hd⟩
    | false =>
      have ha := hx.1 c1
      rw [if_neg (by simp), diskAt ha, if_pos (by omega), if_pos (by omega)]
      exact ⟨_, _, rfl, h, by rw [List.length_set]; exact hd⟩
  rw [if_neg c1]
  by_cases c2 : x.f0 = 2
  · rw [if_pos c2]
    have hb := hx.2.1 (.inl c2)
    obtain ⟨fl', o, e, h'⟩ := wipeF h hb.1 hb.2 t k (by omega)
    rw [e, Option.bind_some]
    exact ⟨_, _, rfl, h', hd⟩
  rw [if_neg c2]
  by_cases c3 : x.f0 = 3
  · rw [if_pos c3]
    have hb := hx.2.1 (.inr c3)
    obtain ⟨fl', o, e, h'⟩ := writeF h hb.1 hb.2 x.f4.f0 x.f4.f1 x.f4.f2 x.f4.f3 (hx.2.2 c3) t k (by omega)
    rw [e, Option.bind_some]
    exact ⟨_, _, rfl, h', hd⟩
  rw [if_neg c3]
  exact ⟨_, _, rfl, h, hd⟩
theorem toEnd {xs : List DS} (hx : okSts xs 7) {fl : List DB} (h : okFl fl) {d : List Int} (hd : d.length = 6) (cut : Int) (t : Bool) (k : Nat) (hk : 50 ≤ k) : ∃ fl' d', spec_l12To.j1 k xs cut t fl d = some (fl', d') ∧ okFl fl' ∧ d'.length = 6 := by
  obtain ⟨k, rfl⟩ : ∃ j, k = j + 1 := ⟨k - 1, by omega⟩
  have h7 := hx.2
  rw [spec_l12To.j1]
  cases t with
  | false =>
    rw [if_neg (by simp)]
    exact ⟨_, _, rfl, h, hd⟩
  | true =>
    rw [if_pos rfl, l6In_t, Option.bind_some]
    by_cases hc : 0 ≤ cut ∧ cut ≤ wrap64 ((xs.length : Int) - 1)
    · have hc2 := hc
      rw [wrap64_in _ (by omega)] at hc2
      obtain ⟨fl', d', e, h', hd'⟩ := stDoF h hd (hx.1 _ (rdS_in hc2.1 (by omega))) true k (by omega)
      rw [if_pos (decide_eq_true hc), if_pos hc2.1, if_pos (by omega), e, Option.bind_some]
      exact ⟨_, _, rfl, h', hd'⟩
    · rw [if_neg (by simpa using hc)]
      exact ⟨_, _, rfl, h, hd⟩
theorem toL {xs : List DS} (hx : okSts xs 7) (cut : Int) (t : Bool) (K : Nat) (hK : 50 ≤ K) : ∀ (n i : Nat) (fl : List DB) (d : List Int), i + n = xs.length → okFl fl → d.length = 6 → ∃ fl' d', spec_l12To.l0 (K + n + 1) xs cut t (i : Int) fl d = some (fl', d') ∧ okFl fl' ∧ d'.length = 6
  | 0, i, fl, d, hi, h, hd => by
    rw [spec_l12To.l0, if_neg (by omega)]
    exact toEnd hx h hd cut t _ (by omega)
  | n + 1, i, fl, d, hi, h, hd => by
    have h7 := hx.2
    rw [show K + (n + 1) + 1 = (K + n + 1) + 1 from rfl, spec_l12To.l0, if_pos (by omega)]
    by_cases hc : (i : Int) < cut
    · obtain ⟨fl', d', e, h', hd'⟩ := stDoF h hd (hx.1 _ (rdS_in (show (0 : Int) ≤ i by omega) (by omega))) false (K + n + 1) (by omega)
      rw [if_pos hc, if_pos (by omega), e, Option.bind_some, upN i (by omega)]
      exact toL hx cut t K hK n (i + 1) fl' d' (by omega) h' hd'
    · rw [if_neg hc]
      exact toEnd hx h hd cut t _ (by omega)
theorem toF {xs : List DS} (hx : okSts xs 7) {fl : List DB} (h : okFl fl) {d : List Int} (hd : d.length = 6) (cut : Int) (t : Bool) (k : Nat) (hk : 60 ≤ k) : ∃ fl' d', spec_l12To.f k fl d xs cut t = some (fl', d') ∧ okFl fl' ∧ d'.length = 6 := by
  have h7 := hx.2
  have h1 := toL hx cut t (k - xs.length - 1) (by omega) xs.length 0 fl d (by omega) h hd
  rw [show k - xs.length - 1 + xs.length + 1 = k by omega] at h1
  exact h1
theorem allL (K : Nat) (hK : 60 ≤ K) : ∀ (n a : Nat) (fl : List DB) (d : List Int), a + n = 7 → okFl fl → d.length = 6 → ∃ fl' d', spec_l21All.l0 (K + n + 1) (a : Int) fl d = some (fl', d') ∧ okFl fl' ∧ d'.length = 6
  | 0, a, fl, d, ha, h, hd => by
    rw [spec_l21All.l0, if_neg (by omega)]
    exact ⟨_, _, rfl, h, hd⟩
  | n + 1, a, fl, d, ha, h, hd => by
    obtain ⟨xs, e, hx⟩ := flushF h hd (a : Int) (K + n + 1) (by omega)
    obtain ⟨fl', d', e2, h', hd'⟩ := toF hx h hd (xs.length : Int) false (K + n + 1) (by omega)
    rw [show K + (n + 1) + 1 = (K + n + 1) + 1 from rfl, spec_l21All.l0, if_pos (by omega), e, Option.bind_some, e2, Option.bind_some, upN a (by omega)]
    exact allL K hK n (a + 1) fl' d' (by omega) h' hd'
theorem plDoF {fl : List DB} (h : okFl fl) {d : List Int} (hd : d.length = 6) (kd a b c : Int) (t : Bool) (k : Nat) (hk : 80 ≤ k) : ∃ fl' d', spec_l21Do.f k fl d kd a b c t = some (fl', d') ∧ okFl fl' ∧ d'.length = 6 := by
  unfold spec_l21Do.f
  by_cases c1 : kd = 4
  · have h1 := allL (k - 7) (by omega) 6 1 fl d (by omega) h hd
    rw [show k - 7 + 6 + 1 = k by omega] at h1
    obtain ⟨fl', d', e, h', hd'⟩ := h1
    rw [if_pos c1, show spec_l21All.f k fl d = some (fl', d') from e, Option.bind_some]
    exact ⟨_, _, rfl, h', hd'⟩
  rw [if_neg c1]
  by_cases c2 : c < 0
  · rw [if_pos c2]
    exact ⟨_, _, rfl, h, hd⟩
  obtain ⟨xs, e, hx⟩ := stepsF h hd kd a b c t k (by omega)
  obtain ⟨fl', d', e2, h', hd'⟩ := toF hx h hd c t k (by omega)
  rw [if_neg c2, e, Option.bind_some, e2, Option.bind_some]
  exact ⟨_, _, rfl, h', hd'⟩
theorem newL (K : Nat) : ∀ (n i : Nat) (fl : List DB), i + n = 4 → fl.length = i → (∀ b ∈ fl, okBl b) → ∃ fl', spec_FlashNew.l0 (K + n + 1) fl (i : Int) = some fl' ∧ okFl fl'
  | 0, i, fl, hi, hl, h => by
    rw [spec_FlashNew.l0, if_neg (by omega)]
    exact ⟨_, rfl, by omega, h⟩
  | n + 1, i, fl, hi, hl, h => by
    rw [show K + (n + 1) + 1 = (K + n + 1) + 1 from rfl, spec_FlashNew.l0, if_pos (by omega), if_pos (by decide), if_pos (by omega), upN i (by omega)]
    refine newL K n (i + 1) _ (by omega) (by rw [List.length_append, List.length_singleton, hl]) (fun b hb => ?_)
    rcases List.mem_append.1 hb with hb | hb
    · exact h _ hb
    · rw [List.mem_singleton] at hb
      rw [hb]
      refine ⟨rfl, fun p hp hq => ?_⟩
      rw [List.eq_of_mem_replicate hp] at hq
      exact absurd hq (by show ¬ (0 : Int) = 1; decide)
theorem newF (k : Nat) (hk : 10 ≤ k) : ∃ fl d, spec_StoreNew.f k = some (fl, d) ∧ okFl fl ∧ d.length = 6 := by
  obtain ⟨fl, e, h⟩ := newL (k - 5) 4 0 [] (by omega) rfl (fun b hb => by cases hb)
  rw [show k - 5 + 4 + 1 = k by omega] at e
  unfold spec_StoreNew.f
  rw [show spec_FlashNew.f k = some fl from e, Option.bind_some, if_pos (by decide)]
  exact ⟨_, _, rfl, h, rfl⟩
theorem i64_xor_nat (a b : Nat) (ha : a < 4611686018427387904) (hb : b < 4611686018427387904) : bits .xor .i64 (a : Int) (b : Int) = ((a ^^^ b : Nat) : Int) := by
  have hx : a ^^^ b < 2 ^ 62 := Nat.xor_lt_two_pow (by omega) (by omega)
  show IntKind.i64.wrap ((BitVec.ofInt 64 (a : Int) ^^^ BitVec.ofInt 64 (b : Int)).toNat : Int) = _
  rw [BitVec.toNat_xor, ofInt_u64 a (by omega), ofInt_u64 b (by omega)]
  rw [IntKind.wrap_i64]
  omega
theorem i64_xor_pos {a b : Int} (h1 : 0 ≤ a) (h2 : a < 4611686018427387904) (h3 : 0 ≤ b) (h4 : b < 4611686018427387904) : 0 ≤ bits .xor .i64 a b := by
  obtain ⟨A, rfl⟩ := Int.eq_ofNat_of_zero_le h1
  obtain ⟨B, rfl⟩ := Int.eq_ofNat_of_zero_le h3
  rw [i64_xor_nat A B (by omega) (by omega)]
  omega
def Bytes (s : List Int) : Prop := ∀ x ∈ s, 0 ≤ x ∧ x ≤ 255
theorem rd_byte {s : List Int} (hb : Bytes s) (i : Int) : 0 ≤ rd s i ∧ rd s i ≤ 255 := by
  unfold rd
  rw [List.getD_eq_getElem?_getD]
  cases h : s[i.toNat]? with
  | none => simp
  | some v => simpa using hb v (List.mem_of_getElem? h)
theorem pick_ok (k : Nat) {s : List Int} {p n : Int} (hb : Bytes s) (hp : 0 ≤ p) (hp2 : p < 1000000) (hn : 1 ≤ n) (hn2 : n ≤ 1000000) :
    ∃ v, spec_l6Rd_pick.f (k + 1) s p n = some (v, p + 1) ∧ 0 ≤ v ∧ v < n := by
  have e1 : wrap64 (p + 1) = p + 1 := wrap64_in _ (by omega)
  have e2 : wrap64 (p + 1 - 1) = p := by rw [wrap64_in _ (by omega)]; omega
  unfold spec_l6Rd_pick.f
  rw [if_neg (by omega), e1, spec_l6Rd_pick.j0, e2]
  cases hs : ((s.length : Int) == 0) with
  | true => exact ⟨0, by simp, by omega, by omega⟩
  | false =>
    have hl : (s.length : Int) ≠ 0 := by simpa using hs
    have hl0 : 0 < (s.length : Int) := by omega
    rw [if_neg (by simp)]
    by_cases hc : p < (s.length : Int)
    · rw [if_pos hc, if_pos hp, if_neg (by omega)]
      have hr := rd_byte hb p
      rw [wrap64_in _ (by omega)]
      exact ⟨_, rfl, Int.tmod_nonneg _ hr.1, Int.tmod_lt_of_pos _ (by omega)⟩
    · have e3 : wrap64 (p * 7) = p * 7 := wrap64_in _ (by omega)
      have e4 : wrap64 (p * 7 + 3) = p * 7 + 3 := wrap64_in _ (by omega)
      rw [if_neg hc, if_neg hl, e3, e4, if_pos (Int.tmod_nonneg _ hp), if_pos (Int.tmod_lt_of_pos _ hl0), if_pos (Int.tmod_nonneg _ (by omega)), if_pos (Int.tmod_lt_of_pos _ hl0), if_neg (by omega)]
      refine ⟨_, rfl, ?_, Int.tmod_lt_of_pos _ (by omega)⟩
      apply Int.tmod_nonneg
      have r1 := rd_byte hb (Int.tmod p (s.length : Int))
      have r2 := rd_byte hb (Int.tmod (p * 7 + 3) (s.length : Int))
      have q1 : 0 ≤ Int.tdiv p (s.length : Int) := Int.tdiv_nonneg hp (by omega)
      have q2 : Int.tdiv p (s.length : Int) ≤ p := by
        rw [Int.tdiv_eq_ediv_of_nonneg hp]
        exact Int.ediv_le_self _ hp
      generalize rd s (Int.tmod p (s.length : Int)) = x at *
      generalize rd s (Int.tmod (p * 7 + 3) (s.length : Int)) = y at *
      generalize Int.tdiv p (s.length : Int) = q at *
      rw [wrap64_in x (by omega), wrap64_in y (by omega), wrap64_in q (by omega), wrap64_in (x * 131) (by omega), wrap64_in (y * 1117) (by omega), wrap64_in (p * 29) (by omega), wrap64_in (q * 53) (by omega), wrap64_in (x * 131 + y * 1117) (by omega), wrap64_in (x * 131 + y * 1117 + p * 29) (by omega), wrap64_in (x * 131 + y * 1117 + p * 29 + q * 53) (by omega)]
      have t0 : 0 ≤ x * 131 + y * 1117 + p * 29 + q * 53 := by omega
      rw [Int.tdiv_eq_ediv_of_nonneg t0, wrap64_in _ (by omega)]
      exact i64_xor_pos t0 (by omega) (by omega) (by omega)
theorem pickT {s : List Int} {p n : Int} (hb : Bytes s) (hp : 0 ≤ p) (hp2 : p < 1000000) (hn : 1 ≤ n) (hn2 : n ≤ 1000000) (k : Nat) (hk : 1 ≤ k) : ∃ v, spec_l6Rd_pick.f k s p n = some (v, p + 1) ∧ 0 ≤ v ∧ v < n := by
  obtain ⟨j, rfl⟩ : ∃ j, k = j + 1 := ⟨k - 1, by omega⟩
  exact pick_ok j hb hp hp2 hn hn2
theorem open_ok {l : List Int} (hb : Bytes l) : ∃ s, spec_l6Open.f l = some (s, 0) ∧ Bytes s := by
  unfold spec_l6Open.f
  by_cases h : (l.length : Int) > 2000
  · rw [if_pos h, if_pos (by omega)]
    exact ⟨_, rfl, fun x hx => hb x (List.mem_of_mem_take hx)⟩
  · rw [if_neg h]
    exact ⟨_, rfl, hb⟩
theorem rec_ok (k : Nat) {s : List Int} {p : Int} (hb : Bytes s) (hp : 0 ≤ p) (hp2 : p < 900000) :
    ∃ a b c d q, spec_l71Rec.f (k + 1) s p = some (a, b, c, d, q) ∧ 0 ≤ q ∧ q ≤ p + 10 := by
  obtain ⟨v1, h1, _, _⟩ := pick_ok k (n := 2) hb hp (by omega) (by omega) (by omega)
  obtain ⟨v2, h2, _, _⟩ := pick_ok k (p := p + 1) (n := 40) hb (by omega) (by omega) (by omega) (by omega)
  obtain ⟨v3, h3, _, _⟩ := pick_ok k (p := p + 1 + 1) (n := 6) hb (by omega) (by omega) (by omega) (by omega)
  obtain ⟨v4, h4, _, _⟩ := pick_ok k (p := p + 1 + 1 + 1) (n := 10) hb (by omega) (by omega) (by omega) (by omega)
  obtain ⟨v5, h5, _, _⟩ := pick_ok k (p := p + 1 + 1 + 1 + 1) (n := 20) hb (by omega) (by omega) (by omega) (by omega)
  obtain ⟨w1, g1, _, _⟩ := pick_ok k (p := p + 1 + 1 + 1 + 1 + 1) (n := 4) hb (by omega) (by omega) (by omega) (by omega)
  obtain ⟨w2, g2, _, _⟩ := pick_ok k (p := p + 1 + 1 + 1 + 1 + 1) (n := 3) hb (by omega) (by omega) (by omega) (by omega)
  obtain ⟨w3, g3, _, _⟩ := pick_ok k (p := p + 1 + 1 + 1 + 1 + 1) (n := 2) hb (by omega) (by omega) (by omega) (by omega)
  unfold spec_l71Rec.f
  simp only [h1, h2, h3, h4, h5, Option.bind_some]
  by_cases c0 : v5 = 0
  · rw [if_pos c0]
    simp only [g1, Option.bind_some]
    exact ⟨_, _, _, _, _, rfl, by omega, by omega⟩
  rw [if_neg c0]
  by_cases c1 : v5 = 1
  · rw [if_pos c1]
    simp only [g2, Option.bind_some]
    rw [if_pos (by omega), if_pos (by simp; omega)]
    exact ⟨_, _, _, _, _, rfl, by omega, by omega⟩
  rw [if_neg c1]
  by_cases c2 : v5 = 2
  · rw [if_pos c2]
    simp only [g3, Option.bind_some]
    rw [if_pos (by omega), if_pos (by simp; omega)]
    exact ⟨_, _, _, _, _, rfl, by omega, by omega⟩
  rw [if_neg c2]
  by_cases c3 : v5 = 3
  · rw [if_pos c3]
    simp only [g3, Option.bind_some]
    rw [if_pos (by omega), if_pos (by simp; omega)]
    exact ⟨_, _, _, _, _, rfl, by omega, by omega⟩
  rw [if_neg c3]
  exact ⟨_, _, _, _, _, rfl, by omega, by omega⟩
theorem bytes_of {l : List Int} (h : ∀ x ∈ l, (Lit.int .u8 x).wf = true) : Bytes l := fun x hx => by
  have := h x hx
  have h2 : (decide (0 ≤ x) && decide (x ≤ 255)) = true := this
  simpa using h2
theorem kd_ok (k : Nat) {s : List Int} {c p : Int} (hb : Bytes s) (hp : 0 ≤ p) (hp2 : p < 900000) : ∃ e q, spec_l71Event.kd (k + 1) s c p = some (e, q) ∧ 0 ≤ q ∧ q ≤ p + 1 := by
  obtain ⟨v, h, _, _⟩ := pick_ok k (n := 3) hb hp (by omega) (by omega) (by omega)
  unfold spec_l71Event.kd
  split
  · exact ⟨_, _, rfl, by omega, by omega⟩
  split
  · exact ⟨_, _, rfl, by omega, by omega⟩
  split
  · rw [h, Option.bind_some]
    exact ⟨_, _, rfl, by omega, by omega⟩
  · exact ⟨_, _, rfl, by omega, by omega⟩
theorem event_ok (k : Nat) {s : List Int} {p : Int} (hb : Bytes s) (hp : 0 ≤ p) (hp2 : p < 700000) :
    ∃ a b c d e q, spec_l71Event.f (k + 3) s p = some (a, b, c, d, e, q) ∧ 0 ≤ q ∧ q ≤ p + 8 := by
  obtain ⟨v1, h1, _, _⟩ := pick_ok (k + 2) (n := 6) hb hp (by omega) (by omega) (by omega)
  obtain ⟨v2, h2, _, _⟩ := pick_ok (k + 2) (p := p + 1) (n := 10) hb (by omega) (by omega) (by omega) (by omega)
  obtain ⟨v3, h3, _, _⟩ := pick_ok (k + 2) (p := p + 1 + 1) (n := 12) hb (by omega) (by omega) (by omega) (by omega)
  obtain ⟨e, q, h4, q0, q1⟩ := kd_ok (k + 2) (c := v3) (p := p + 1 + 1 + 1) hb (by omega) (by omega)
  obtain ⟨v5, h5, _, _⟩ := pick_ok (k + 2) (p := q) (n := 4) hb (by omega) (by omega) (by omega) (by omega)
  obtain ⟨v6, h6, _, _⟩ := pick_ok (k + 2) (p := q + 1) (n := 5) hb (by omega) (by omega) (by omega) (by omega)
  obtain ⟨v7, h7, _, _⟩ := pick_ok (k + 2) (p := q + 1 + 1) (n := 3) hb (by omega) (by omega) (by omega) (by omega)
  unfold spec_l71Event.f
  simp only [h1, h2, h3, h4, h5, h6, h7, Option.bind_some]
  split
  · exact ⟨_, _, _, _, _, _, rfl, by omega, by omega⟩
  · exact ⟨_, _, _, _, _, _, rfl, by omega, by omega⟩
theorem playL {s : List Int} (hb : Bytes s) (B : Int) (hB : B ≤ 100000) (K : Nat) (hK : 100 ≤ K) : ∀ (n : Nat) (ev : List S58) (p : Int) (fl : List DB) (d : List Int), ev.length + n ≤ 100 → 0 ≤ p → p + 8 * (n : Int) ≤ B → okFl fl → d.length = 6 →
    ∃ ev' fl' d' q, spec_l71Play.l0 (K + n + 1) ev (n : Int) s p fl d = some (ev', fl', d', q) ∧ okFl fl' ∧ d'.length = 6 ∧ 0 ≤ q ∧ q ≤ B
  | 0, ev, p, fl, d, he, hp, hp2, h, hd => by
    rw [spec_l71Play.l0, if_neg (by omega)]
    exact ⟨_, _, _, _, rfl, h, hd, hp, by omega⟩
  | n + 1, ev, p, fl, d, he, hp, hp2, h, hd => by
    obtain ⟨a, b, c, e, t, q, hq, q1, q2⟩ := event_ok (K + n - 2) hb hp (by omega)
    rw [show K + n - 2 + 3 = K + n + 1 by omega] at hq
    obtain ⟨fl', d', e2, h', hd'⟩ := plDoF h hd a b c e t (K + n + 1) (by omega)
    have e3 : wrap64 (((n + 1 : Nat) : Int) - 1) = (n : Int) := by rw [wrap64_in _ (by omega)]; omega
    rw [show K + (n + 1) + 1 = (K + n + 1) + 1 from rfl, spec_l71Play.l0, if_pos (by omega), hq]
    simp only [Option.bind_some]
    rw [if_pos (by omega), e2]
    simp only [Option.bind_some]
    rw [e3]
    exact playL hb B hB K hK n _ q fl' d' (by rw [List.length_append, List.length_singleton]; omega) q1 (by omega) h' hd'
theorem play_from {s : List Int} (hb : Bytes s) (p0 : Int) (hp0 : 0 ≤ p0) (hp1 : p0 ≤ 20000) (k : Nat) (hk : 200 ≤ k) : ∃ ev fl d q, spec_l71Play.f k s p0 = some (ev, fl, d, q) ∧ okFl fl ∧ d.length = 6 ∧ 0 ≤ q ∧ q ≤ p0 + 9000 := by
  obtain ⟨fl, d, e, h, hd⟩ := newF k (by omega)
  obtain ⟨v, h1, hv0, hv1⟩ := pick_ok (k - 1) (n := 58) hb hp0 (by omega) (by omega) (by omega)
  obtain ⟨n, rfl⟩ := Int.eq_ofNat_of_zero_le hv0
  rw [show k - 1 + 1 = k by omega] at h1
  have h2 := playL hb (p0 + 9000) (by omega) (k - n - 1) (by omega) n [] (p0 + 1) fl d (by simp; omega) (by omega) (by omega) h hd
  rw [show k - n - 1 + n + 1 = k by omega] at h2
  unfold spec_l71Play.f
  rw [e]
  simp only [Option.bind_some]
  rw [h1]
  simp only [Option.bind_some]
  exact h2
theorem flash_from {s : List Int} (hb : Bytes s) (p0 : Int) (h00 : 0 ≤ p0) (h01 : p0 ≤ 20000) (k : Nat) (hk : 200 ≤ k) : ∃ fl q, spec_l71Flash.f k s p0 = some (fl, q) ∧ 0 ≤ q ∧ q ≤ p0 + 9100 := by
  obtain ⟨ev, fl, d, p, e, h, hd, hp0, hp1⟩ := play_from hb p0 h00 h01 k hk
  obtain ⟨k, rfl⟩ : ∃ j, k = j + 1 := ⟨k - 1, by omega⟩
  have P := fun (p : Int) (n : Int) (h1 : 0 ≤ p) (h2 : p < 100000) (h3 : 1 ≤ n) (h4 : n ≤ 100) => pick_ok k (p := p) (n := n) hb h1 (by omega) h3 (by omega)
  obtain ⟨v, h1, hv0, hv1⟩ := P p 20 hp0 (by omega) (by omega) (by omega)
  have hl : (fl.length : Int) = 4 := by rw [h.1]; rfl
  have hfn : flFine fl = true := by
    unfold flFine
    rw [Bool.and_eq_true, beq_iff_eq, List.all_eq_true]
    exact ⟨h.1, fun b hb => beq_iff_eq.2 (h.2 b hb).1⟩
  unfold spec_l71Flash.f
  rw [e]
  simp only [Option.bind_some]
  rw [h1]
  simp only [Option.bind_some]
  rw [if_pos hfn]
  obtain ⟨i, g3, hi0, hi1⟩ := P (p + 1) 4 (by omega) (by omega) (by omega) (by omega)
  obtain ⟨j, g4, hj0, hj1⟩ := P (p + 1 + 1) 4 (by omega) (by omega) (by omega) (by omega)
  obtain ⟨w, g5, hw0, hw1⟩ := P (p + 1 + 1) 3 (by omega) (by omega) (by omega) (by omega)
  obtain ⟨st, g6, hs0, hs1⟩ := P (p + 1 + 1 + 1) 4 (by omega) (by omega) (by omega) (by omega)
  obtain ⟨a, b, c, e2, q, g7, hq0, hq1⟩ := rec_ok k hb (show 0 ≤ p + 1 + 1 + 1 + 1 by omega) (by omega)
  have hB := flAt h hi0 hi1
  unfold spec_l71Flash.g
  rw [hl, g3]
  simp only [Option.bind_some]
  rw [g4, g5]
  simp only [Option.bind_some]
  rw [g6]
  simp only [Option.bind_some]
  rw [g7]
  simp only [Option.bind_some]
  split
  · rw [if_pos ⟨hi0, hi1, hj0, by rw [hB.1]; exact hj1⟩]
    exact ⟨_, _, rfl, by omega, by omega⟩
  split
  · rw [if_pos ⟨hi0, hi1, hw0, hw1⟩]
    exact ⟨_, _, rfl, by omega, by omega⟩
  split
  · rw [if_pos (by omega)]
    exact ⟨_, _, rfl, by omega, by omega⟩
  split
  · rw [if_pos ⟨hi0, hi1, by rw [hB.1]; decide⟩]
    exact ⟨_, _, rfl, by omega, by omega⟩
  · exact ⟨_, _, rfl, by omega, by omega⟩
theorem flash_ok {s : List Int} (hb : Bytes s) (k : Nat) (hk : 200 ≤ k) : ∃ fl q, spec_l71Flash.f k s 0 = some (fl, q) ∧ 0 ≤ q ∧ q ≤ 9100 := flash_from hb 0 (Int.le_refl _) (by omega) k hk
theorem rdB_cons {b : S33} {bs : List S33} (j : Nat) : rd_T33 (b :: bs) ((j + 1 : Nat) : Int) = rd_T33 bs (j : Int) := by
  unfold rd_T33
  rw [Int.toNat_natCast, Int.toNat_natCast]
  rfl
theorem blocksB_all : ∀ (l : List S33) (S : List Int), blocksB l S = true → ∀ j : Nat, j < l.length → blockB (rd_T33 l (j : Int)) = true
  | [], _, _, j, hj => by cases hj
  | b :: bs, S, h, j, hj => by
    rw [blocksB, Bool.and_eq_true] at h
    obtain ⟨h1, h2⟩ := h
    cases j with
    | zero => exact h1
    | succ j =>
      rw [rdB_cons]
      cases hp : pagesB b.f0 S with
      | none => rw [hp] at h2; cases h2
      | some S' =>
        rw [hp] at h2
        exact blocksB_all bs S' h2 j (by simpa using hj)
theorem flash_len {l : List S33} (h : flashOkB l = true) : l.length = 4 := by
  unfold flashOkB at h
  rw [Bool.and_eq_true, decide_eq_true_eq] at h
  omega
theorem flash_block {l : List S33} (h : flashOkB l = true) (j : Nat) (hj : j < 4) : (rd_T33 l (j : Int)).f0.length = 4 ∧ 0 ≤ (rd_T33 l (j : Int)).f1 ∧ (rd_T33 l (j : Int)).f1 ≤ 200 ∧ shapeB (rd_T33 l (j : Int)).f0 false = true := by
  have hl := flash_len h
  unfold flashOkB at h
  rw [Bool.and_eq_true] at h
  have := blocksB_all l [] h.2 j (by omega)
  unfold blockB at this
  rw [Bool.and_eq_true, decide_eq_true_eq] at this
  exact ⟨by omega, this.1.2.1, this.1.2.2, this.2⟩
theorem dropP_cons {l : List S30} {i : Nat} (h : i < l.length) : l.drop i = rd_T30 l (i : Int) :: l.drop (i + 1) := by
  rw [List.drop_eq_getElem_cons h]
  simp [rd_T30, List.getD_eq_getElem?_getD, h]
theorem pagesB_all : ∀ (ps : List S30) (S S' : List Int), pagesB ps S = some S' → ∀ p ∈ ps, pageB p = true
  | [], _, _, _, _, h => by cases h
  | p :: ps, S, S', h, q, hq => by
    rw [pagesB] at h
    by_cases hp : pageB p = true
    · rw [if_pos hp] at h
      rcases List.mem_cons.1 hq with rfl | hq
      · exact hp
      · by_cases h1 : p.f0 = 1
        · rw [if_pos h1] at h
          by_cases hm : p.f1.f1 ∈ S
          · rw [if_pos hm] at h; cases h
          · rw [if_neg hm] at h; exact pagesB_all ps _ _ h q hq
        · rw [if_neg h1] at h; exact pagesB_all ps _ _ h q hq
    · rw [if_neg hp] at h; cases h
theorem blocksB_pages : ∀ (l : List S33) (S : List Int), blocksB l S = true → ∀ b ∈ l, ∀ p ∈ b.f0, pageB p = true
  | [], _, _, _, h, _, _ => by cases h
  | b :: bs, S, h, c, hc, p, hp => by
    rw [blocksB, Bool.and_eq_true] at h
    cases he : pagesB b.f0 S with
    | none => rw [he] at h; exact absurd h.2 (by simp)
    | some S' =>
      rw [he] at h
      rcases List.mem_cons.1 hc with rfl | hc
      · exact pagesB_all _ _ _ he p hp
      · exact blocksB_pages bs S' h.2 c hc p hp
theorem flash_pages {l : List S33} (h : flashOkB l = true) : ∀ b ∈ l, ∀ p ∈ b.f0, pageB p = true := by
  unfold flashOkB at h
  rw [Bool.and_eq_true] at h
  exact blocksB_pages l [] h.2
theorem page_written {p : S30} (h : pageB p = true) (h1 : p.f0 = 1) : (p.f1.f0 = 1 ∨ p.f1.f0 = 2) ∧ 1 ≤ p.f1.f1 ∧ p.f1.f1 ≤ 600 ∧ 1 ≤ p.f1.f2 ∧ p.f1.f2 ≤ 6 ∧ 0 ≤ p.f1.f3 ∧ p.f1.f3 ≤ 9 := by
  unfold pageB at h
  rw [if_pos h1] at h
  unfold recOkB at h
  simp only [decide_eq_true_eq] at h
  omega
theorem page_other {p : S30} (h : pageB p = true) (h1 : p.f0 ≠ 1) : p.f1.f0 = 0 ∧ p.f1.f1 = 0 ∧ p.f1.f2 = 0 ∧ p.f1.f3 = 0 := by
  unfold pageB at h
  rw [if_neg h1] at h
  split at h
  · simp only [Bool.and_eq_true, beq_iff_eq] at h
    exact h
  · cases h
theorem page_seq {p : S30} (h : pageB p = true) : 0 ≤ p.f1.f1 ∧ p.f1.f1 ≤ 600 := by
  by_cases h1 : p.f0 = 1
  · have := page_written h h1
    omega
  · have := page_other h h1
    omega
theorem dropB_cons {l : List S33} {i : Nat} (h : i < l.length) : l.drop i = rd_T33 l (i : Int) :: l.drop (i + 1) := by
  rw [List.drop_eq_getElem_cons h]
  simp [rd_T33, List.getD_eq_getElem?_getD, h]
theorem rdB_mem {l : List S33} {i : Nat} (h : i < l.length) : rd_T33 l (i : Int) ∈ l := by
  simp [rd_T33, List.getD_eq_getElem?_getD, h]
theorem rdP_mem {l : List S30} {i : Nat} (h : i < l.length) : rd_T30 l (i : Int) ∈ l := by
  simp [rd_T30, List.getD_eq_getElem?_getD, h]
def pg (l : List S33) (i j : Nat) : S30 := rd_T30 (rd_T33 l (i : Int)).f0 (j : Int)
def Later (c : Nat → Nat → Prop) (i j : Nat) : Prop := ∃ i' j', i' < 4 ∧ j' < 4 ∧ (i < i' ∨ (i = i' ∧ j ≤ j')) ∧ c i' j'
theorem later_step {c : Nat → Nat → Prop} {i j : Nat} (hi : i < 4) (hj : j < 4) : Later c i j ↔ c i j ∨ Later c i (j + 1) := by
  constructor
  · rintro ⟨i', j', h1, h2, h3, h4⟩
    by_cases h : i = i' ∧ j = j'
    · obtain ⟨rfl, rfl⟩ := h
      exact .inl h4
    · exact .inr ⟨i', j', h1, h2, by omega, h4⟩
  · rintro (h | ⟨i', j', h1, h2, h3, h4⟩)
    · exact ⟨i, j, hi, hj, by omega, h⟩
    · exact ⟨i', j', h1, h2, by omega, h4⟩
theorem later_row {c : Nat → Nat → Prop} {i : Nat} : Later c i 4 ↔ Later c (i + 1) 0 := by
  constructor
  · rintro ⟨i', j', h1, h2, h3, h4⟩
    exact ⟨i', j', h1, h2, by omega, h4⟩
  · rintro ⟨i', j', h1, h2, h3, h4⟩
    exact ⟨i', j', h1, h2, by omega, h4⟩
theorem later_end {c : Nat → Nat → Prop} : ¬ Later c 4 0 := by
  rintro ⟨i', j', h1, h2, h3, h4⟩
  omega
theorem later_all {c : Nat → Nat → Prop} : Later c 0 0 ↔ ∃ i j, i < 4 ∧ j < 4 ∧ c i j := by
  constructor
  · rintro ⟨i', j', h1, h2, h3, h4⟩
    exact ⟨i', j', h1, h2, h4⟩
  · rintro ⟨i', j', h1, h2, h4⟩
    exact ⟨i', j', h1, h2, by omega, h4⟩
theorem mem_pg {l : List S33} (hf : flashOkB l = true) {p : S30} : p ∈ l.flatMap (·.f0) ↔ ∃ i j, i < 4 ∧ j < 4 ∧ pg l i j = p := by
  have hl := flash_len hf
  rw [List.mem_flatMap]
  constructor
  · rintro ⟨b, hb, hp⟩
    obtain ⟨i, hi, rfl⟩ := List.getElem_of_mem hb
    obtain ⟨j, hj, rfl⟩ := List.getElem_of_mem hp
    have h4 := (flash_block hf i (by omega)).1
    have e : rd_T33 l (i : Int) = l[i] := by simp [rd_T33, List.getD_eq_getElem?_getD, hi]
    refine ⟨i, j, by omega, by rw [← h4, e]; exact hj, ?_⟩
    unfold pg
    rw [e]
    unfold rd_T30
    rw [Int.toNat_natCast, List.getD_eq_getElem?_getD, List.getElem?_eq_getElem hj]
    rfl
  · rintro ⟨i, j, hi, hj, rfl⟩
    have h4 := (flash_block hf i hi).1
    exact ⟨_, rdB_mem (by omega), rdP_mem (by omega)⟩
theorem pg_ok {l : List S33} (hf : flashOkB l = true) {i j : Nat} (hi : i < 4) (hj : j < 4) : pageB (pg l i j) = true := flash_pages hf _ (rdB_mem (by rw [flash_len hf]; exact hi)) _ (rdP_mem (by rw [(flash_block hf i hi).1]; exact hj))
def freeN : List S30 → Nat
  | [] => 0
  | p :: ps => (if p.f0 = 0 then 1 else 0) + freeN ps
theorem freeN_le : ∀ ps : List S30, freeN ps ≤ ps.length
  | [] => Nat.le_refl _
  | p :: ps => by
    have := freeN_le ps
    rw [freeN, List.length_cons]
    split <;> omega
theorem clean_loop (l : List S30) (b : Int) (hl : l.length ≤ 1048576) (K : Nat) : ∀ (n i m : Nat), i + n = l.length → m ≤ i →
    spec_l2Clean.l0 (K + n + 1) (m : Int) (i : Int) l b = some ((m + freeN (l.drop i) : Nat) : Int) ∧
    impl_freePages.l0 (K + n + 1) (m : Int) l (l.length : Int) (i : Int) = some ((m + freeN (l.drop i) : Nat) : Int)
  | 0, i, m, h, hm => by
    rw [spec_l2Clean.l0, impl_freePages.l0, if_neg (by omega), if_neg (by omega), List.drop_eq_nil_of_le (by omega)]
    exact ⟨rfl, rfl⟩
  | n + 1, i, m, h, hm => by
    have ih1 := clean_loop l b hl K n (i + 1) (m + 1) (by omega) (by omega)
    have ih2 := clean_loop l b hl K n (i + 1) m (by omega) (by omega)
    have e1 : wrap64 ((i : Int) + 1) = ((i + 1 : Nat) : Int) := by rw [wrap64_in _ (by omega)]; omega
    have e2 : wrap64 ((m : Int) + 1) = ((m + 1 : Nat) : Int) := by rw [wrap64_in _ (by omega)]; omega
    rw [dropP_cons (by omega : i < l.length), freeN]
    refine ⟨?_, ?_⟩
    · rw [spec_l2Clean.l0, if_pos (by omega), if_pos (by omega), e1, e2]
      by_cases hs : (rd_T30 l (i : Int)).f0 = 0
      · rw [if_pos hs, if_pos hs, show m + (1 + freeN (l.drop (i + 1))) = m + 1 + freeN (l.drop (i + 1)) by omega]
        exact ih1.1
      · rw [if_neg hs, if_neg hs, Nat.zero_add]
        exact ih2.1
    · rw [impl_freePages.l0, if_pos (by omega), if_pos (by omega), if_pos (by omega), e1, e2]
      by_cases hs : (rd_T30 l (i : Int)).f0 = 0
      · rw [if_pos hs, if_pos hs, show m + (1 + freeN (l.drop (i + 1))) = m + 1 + freeN (l.drop (i + 1)) by omega]
        exact ih1.2
      · rw [if_neg hs, if_neg hs, Nat.zero_add]
        exact ih2.2
theorem l2Clean_ok (l : List S30) (b : Int) (hl : l.length ≤ 1048576) (k : Nat) (hk : l.length < k) : spec_l2Clean.f k l b = some ((freeN l : Nat) : Int) := by
  have := (clean_loop l b hl (k - l.length - 1) l.length 0 0 (by omega) (by omega)).1
  rw [show k - l.length - 1 + l.length + 1 = k by omega, List.drop_zero, Nat.zero_add] at this
  exact this
theorem freePages_ok (l : List S30) (b : Int) (hl : l.length ≤ 1048576) (k : Nat) (hk : l.length < k) : impl_freePages.f k l b = some ((freeN l : Nat) : Int) := by
  have := (clean_loop l b hl (k - l.length - 1) l.length 0 0 (by omega) (by omega)).2
  rw [show k - l.length - 1 + l.length + 1 = k by omega, List.drop_zero, Nat.zero_add] at this
  exact this
def cleanV (l : List S33) (a : Int) : Int := if flashOkB l = true ∧ 0 ≤ a ∧ a < 4 then ((freeN (rd_T33 l a).f0 : Nat) : Int) else -1
theorem implClean_ok (l : List S33) (a : Int) (k : Nat) (hk : 4 < k) : impl_FlashClean.f k l a = some (cleanV l a) := by
  unfold impl_FlashClean.f impl_FlashOk.f impl_blockOk.f cleanV
  rw [Option.bind_some]
  cases hf : flashOkB l with
  | false => rw [if_neg (by simp), if_neg (by simp)]
  | true =>
    rw [if_pos rfl]
    by_cases h0 : 0 ≤ a
    · rw [if_pos (by omega : a ≥ 0), Option.bind_some]
      by_cases h4 : a < 4
      · obtain ⟨j, rfl⟩ := Int.eq_ofNat_of_zero_le h0
        obtain ⟨hb, _⟩ := flash_block hf j (by omega)
        have hl := flash_len hf
        rw [decide_eq_true h4, if_pos rfl, if_pos h0, if_pos (by omega), freePages_ok _ _ (by omega) k (by omega), if_pos ⟨rfl, h0, h4⟩]
        rfl
      · rw [decide_eq_false h4, if_neg (by simp), if_neg (fun h => h4 h.2.2)]
    · rw [if_neg (by omega : ¬ a ≥ 0), Option.bind_some, if_neg (by simp), if_neg (fun h => h0 h.2.1)]
theorem rdP_0 {p : S30} {ps : List S30} : rd_T30 (p :: ps) ((0 : Nat) : Int) = p := rfl
theorem rdP_cons {p : S30} {ps : List S30} (j : Nat) : rd_T30 (p :: ps) ((j + 1 : Nat) : Int) = rd_T30 ps (j : Int) := by
  unfold rd_T30
  rw [Int.toNat_natCast, Int.toNat_natCast]
  rfl
theorem shape_clean : ∀ ps : List S30, shapeB ps true = true → freeN ps = ps.length ∧ ∀ i : Nat, i < ps.length → (rd_T30 ps (i : Int)).f0 = 0
  | [], _ => ⟨rfl, fun i h => absurd h (Nat.not_lt_zero _)⟩
  | p :: ps, h => by
    rw [shapeB] at h
    by_cases h0 : p.f0 = 0
    · rw [if_neg (fun hq => hq.2 h0), h0] at h
      obtain ⟨h1, h2⟩ := shape_clean ps h
      refine ⟨by rw [freeN, if_pos h0, h1, List.length_cons]; omega, fun i hi => ?_⟩
      cases i with
      | zero => exact h0
      | succ i =>
        rw [rdP_cons]
        exact h2 i (by simpa using hi)
    · rw [if_pos ⟨rfl, h0⟩] at h
      cases h
theorem shape_at : ∀ ps : List S30, shapeB ps false = true → ∀ i : Nat, i < ps.length → ((rd_T30 ps (i : Int)).f0 = 0 ↔ ps.length ≤ i + freeN ps)
  | [], _, i, h => absurd h (Nat.not_lt_zero _)
  | p :: ps, h, i, hi => by
    rw [shapeB, if_neg (fun hq => absurd hq.1 (by decide))] at h
    by_cases h0 : p.f0 = 0
    · rw [h0] at h
      obtain ⟨h1, h2⟩ := shape_clean ps h
      rw [freeN, if_pos h0, h1, List.length_cons]
      refine ⟨fun _ => by omega, fun _ => ?_⟩
      cases i with
      | zero => exact h0
      | succ i =>
        rw [rdP_cons]
        exact h2 i (by simpa using hi)
    · rw [beq_eq_false_iff_ne.mpr h0] at h
      have hle := freeN_le ps
      rw [freeN, if_neg h0, List.length_cons]
      cases i with
      | zero => exact ⟨fun hq => absurd hq h0, fun hq => by omega⟩
      | succ i =>
        rw [rdP_cons, shape_at ps h i (by simpa using hi)]
        omega
theorem pagesB_sub : ∀ (ps : List S30) (S S' : List Int), pagesB ps S = some S' → (∀ x ∈ S, x ∈ S') ∧ ∀ j : Nat, j < ps.length → (rd_T30 ps (j : Int)).f0 = 1 → (rd_T30 ps (j : Int)).f1.f1 ∈ S' ∧ (rd_T30 ps (j : Int)).f1.f1 ∉ S
  | [], S, S', h => by
    cases h
    exact ⟨fun _ hx => hx, fun j hj => absurd hj (Nat.not_lt_zero _)⟩
  | p :: ps, S, S', h => by
    rw [pagesB] at h
    by_cases hp : pageB p = true
    · rw [if_pos hp] at h
      by_cases h1 : p.f0 = 1
      · rw [if_pos h1] at h
        by_cases hm : p.f1.f1 ∈ S
        · rw [if_pos hm] at h
          cases h
        · rw [if_neg hm] at h
          obtain ⟨s1, s2⟩ := pagesB_sub ps _ _ h
          refine ⟨fun x hx => s1 x (List.mem_cons_of_mem _ hx), fun j hj hw => ?_⟩
          cases j with
          | zero => exact ⟨s1 _ List.mem_cons_self, hm⟩
          | succ j =>
            rw [rdP_cons] at hw ⊢
            obtain ⟨q1, q2⟩ := s2 j (by simpa using hj) hw
            exact ⟨q1, fun hq => q2 (List.mem_cons_of_mem _ hq)⟩
      · rw [if_neg h1] at h
        obtain ⟨s1, s2⟩ := pagesB_sub ps _ _ h
        refine ⟨s1, fun j hj hw => ?_⟩
        cases j with
        | zero => exact absurd hw h1
        | succ j =>
          rw [rdP_cons] at hw ⊢
          exact s2 j (by simpa using hj) hw
    · rw [if_neg hp] at h
      cases h
theorem pagesB_ne : ∀ (ps : List S30) (S S' : List Int), pagesB ps S = some S' → ∀ j j' : Nat, j < j' → j' < ps.length → (rd_T30 ps (j : Int)).f0 = 1 → (rd_T30 ps (j' : Int)).f0 = 1 → (rd_T30 ps (j : Int)).f1.f1 ≠ (rd_T30 ps (j' : Int)).f1.f1
  | [], _, _, _, j, j', _, h2, _, _ => absurd h2 (Nat.not_lt_zero _)
  | p :: ps, S, S', h, j, j', h1, h2, w1, w2 => by
    rw [pagesB] at h
    obtain ⟨j', rfl⟩ : ∃ m, j' = m + 1 := ⟨j' - 1, by omega⟩
    have hj' : j' < ps.length := by simpa using h2
    rw [rdP_cons] at w2 ⊢
    by_cases hp : pageB p = true
    · rw [if_pos hp] at h
      by_cases hw : p.f0 = 1
      · rw [if_pos hw] at h
        by_cases hm : p.f1.f1 ∈ S
        · rw [if_pos hm] at h
          cases h
        · rw [if_neg hm] at h
          cases j with
          | zero =>
            have := ((pagesB_sub ps _ _ h).2 j' hj' w2).2
            intro e
            exact this (by rw [← e]; exact List.mem_cons_self)
          | succ j =>
            rw [rdP_cons] at w1 ⊢
            exact pagesB_ne ps _ _ h j j' (by omega) hj' w1 w2
      · rw [if_neg hw] at h
        cases j with
        | zero => exact absurd w1 hw
        | succ j =>
          rw [rdP_cons] at w1 ⊢
          exact pagesB_ne ps _ _ h j j' (by omega) hj' w1 w2
    · rw [if_neg hp] at h
      cases h
theorem blocksB_out : ∀ (bs : List S33) (S : List Int), blocksB bs S = true → ∀ i j : Nat, i < bs.length → j < (rd_T33 bs (i : Int)).f0.length → (pg bs i j).f0 = 1 → (pg bs i j).f1.f1 ∉ S
  | [], _, _, i, j, h, _, _ => absurd h (Nat.not_lt_zero _)
  | b :: bs, S, h, i, j, hi, hj, hw => by
    rw [blocksB, Bool.and_eq_true] at h
    cases hp : pagesB b.f0 S with
    | none => rw [hp] at h; exact absurd h.2 (by simp)
    | some S' =>
      rw [hp] at h
      cases i with
      | zero => exact ((pagesB_sub _ _ _ hp).2 j hj hw).2
      | succ i =>
        unfold pg at hw ⊢
        rw [rdB_cons] at hw hj ⊢
        exact fun hq => blocksB_out bs S' h.2 i j (by simpa using hi) hj hw ((pagesB_sub _ _ _ hp).1 _ hq)
theorem blocksB_ne : ∀ (bs : List S33) (S : List Int), blocksB bs S = true → ∀ i j i' j' : Nat, i < i' ∨ (i = i' ∧ j < j') → i' < bs.length → j < (rd_T33 bs (i : Int)).f0.length → j' < (rd_T33 bs (i' : Int)).f0.length → (pg bs i j).f0 = 1 → (pg bs i' j').f0 = 1 → (pg bs i j).f1.f1 ≠ (pg bs i' j').f1.f1
  | [], _, _, _, _, i', _, _, h, _, _, _, _ => absurd h (Nat.not_lt_zero _)
  | b :: bs, S, h, i, j, i', j', hlt, hi', hj, hj', w1, w2 => by
    rw [blocksB, Bool.and_eq_true] at h
    cases hp : pagesB b.f0 S with
    | none => rw [hp] at h; exact absurd h.2 (by simp)
    | some S' =>
      rw [hp] at h
      cases i' with
      | zero =>
        obtain ⟨rfl, hjj⟩ : i = 0 ∧ j < j' := by omega
        exact pagesB_ne _ _ _ hp j j' hjj hj' w1 w2
      | succ i' =>
        cases i with
        | zero =>
          have q1 := ((pagesB_sub _ _ _ hp).2 j hj w1).1
          unfold pg at w2 ⊢
          rw [rdB_cons] at w2 hj' ⊢
          have q2 := blocksB_out bs S' h.2 i' j' (by simpa using hi') hj' w2
          intro e
          exact q2 (by rw [show (pg bs i' j').f1.f1 = _ from e.symm]; exact q1)
        | succ i =>
          unfold pg at w1 w2 ⊢
          rw [rdB_cons] at w1 w2 hj' hj ⊢
          exact blocksB_ne bs S' h.2 i j i' j' (by omega) (by simpa using hi') hj hj' w1 w2
theorem seq_one {l : List S33} (hf : flashOkB l = true) {i j i' j' : Nat} (hi : i < 4) (hj : j < 4) (hi' : i' < 4) (hj' : j' < 4) (w1 : (pg l i j).f0 = 1) (w2 : (pg l i' j').f0 = 1) (e : (pg l i j).f1.f1 = (pg l i' j').f1.f1) : i = i' ∧ j = j' := by
  have hl := flash_len hf
  have b1 := (flash_block hf i hi).1
  have b2 := (flash_block hf i' hi').1
  have hB : blocksB l [] = true := by
    unfold flashOkB at hf
    rw [Bool.and_eq_true] at hf
    exact hf.2
  by_cases h1 : i < i' ∨ (i = i' ∧ j < j')
  · exact absurd e (blocksB_ne l [] hB i j i' j' h1 (by omega) (by omega) (by omega) w1 w2)
  by_cases h2 : i' < i ∨ (i' = i ∧ j' < j)
  · exact absurd e.symm (blocksB_ne l [] hB i' j' i j h2 (by omega) (by omega) (by omega) w2 w1)
  omega
theorem pagesB_mk : ∀ (ps : List S30) (S : List Int), (∀ j : Nat, j < ps.length → pageB (rd_T30 ps (j : Int)) = true) → (∀ j : Nat, j < ps.length → (rd_T30 ps (j : Int)).f0 = 1 → (rd_T30 ps (j : Int)).f1.f1 ∉ S) → (∀ j j' : Nat, j < j' → j' < ps.length → (rd_T30 ps (j : Int)).f0 = 1 → (rd_T30 ps (j' : Int)).f0 = 1 → (rd_T30 ps (j : Int)).f1.f1 ≠ (rd_T30 ps (j' : Int)).f1.f1) →
    ∃ S', pagesB ps S = some S' ∧ ∀ x ∈ S', x ∈ S ∨ ∃ j : Nat, j < ps.length ∧ (rd_T30 ps (j : Int)).f0 = 1 ∧ (rd_T30 ps (j : Int)).f1.f1 = x
  | [], S, _, _, _ => ⟨S, rfl, fun x hx => .inl hx⟩
  | p :: ps, S, hp, hS, hd => by
    have h0 : pageB p = true := hp 0 (by simp)
    have up : ∀ j : Nat, j < ps.length → j + 1 < (p :: ps).length := fun j hj => by simpa using hj
    have hp' : ∀ j : Nat, j < ps.length → pageB (rd_T30 ps (j : Int)) = true := fun j hj => by
      have := hp (j + 1) (up j hj)
      rwa [rdP_cons] at this
    have hd' : ∀ j j' : Nat, j < j' → j' < ps.length → (rd_T30 ps (j : Int)).f0 = 1 → (rd_T30 ps (j' : Int)).f0 = 1 → (rd_T30 ps (j : Int)).f1.f1 ≠ (rd_T30 ps (j' : Int)).f1.f1 := fun j j' h1 h2 => by
      have := hd (j + 1) (j' + 1) (by omega) (up j' h2)
      rwa [rdP_cons, rdP_cons] at this
    have hS' : ∀ j : Nat, j < ps.length → (rd_T30 ps (j : Int)).f0 = 1 → (rd_T30 ps (j : Int)).f1.f1 ∉ S := fun j hj hw => by
      have := hS (j + 1) (up j hj)
      rw [rdP_cons] at this
      exact this hw
    rw [pagesB, if_pos h0]
    by_cases hw : p.f0 = 1
    · have hn : p.f1.f1 ∉ S := hS 0 (by simp) hw
      rw [if_pos hw, if_neg hn]
      obtain ⟨S', e, hx⟩ := pagesB_mk ps (p.f1.f1 :: S) hp' (fun j hj hwj hq => by
        rcases List.mem_cons.1 hq with hq | hq
        · have := hd 0 (j + 1) (by omega) (up j hj) hw
          rw [rdP_cons] at this
          exact this hwj hq.symm
        · exact hS' j hj hwj hq) hd'
      refine ⟨S', e, fun x hm => ?_⟩
      rcases hx x hm with h | ⟨j, hj, h1, h2⟩
      · rcases List.mem_cons.1 h with h | h
        · exact .inr ⟨0, by simp, hw, h.symm⟩
        · exact .inl h
      · refine .inr ⟨j + 1, up j hj, ?_⟩
        rw [rdP_cons]
        exact ⟨h1, h2⟩
    · rw [if_neg hw]
      obtain ⟨S', e, hx⟩ := pagesB_mk ps S hp' hS' hd'
      refine ⟨S', e, fun x hm => ?_⟩
      rcases hx x hm with h | ⟨j, hj, h1, h2⟩
      · exact .inl h
      · refine .inr ⟨j + 1, up j hj, ?_⟩
        rw [rdP_cons]
        exact ⟨h1, h2⟩
theorem blocksB_mk : ∀ (bs : List S33) (S : List Int), (∀ i : Nat, i < bs.length → blockB (rd_T33 bs (i : Int)) = true) → (∀ i j : Nat, i < bs.length → j < (rd_T33 bs (i : Int)).f0.length → pageB (pg bs i j) = true) → (∀ i j : Nat, i < bs.length → j < (rd_T33 bs (i : Int)).f0.length → (pg bs i j).f0 = 1 → (pg bs i j).f1.f1 ∉ S) →
    (∀ i j i' j' : Nat, i < i' ∨ (i = i' ∧ j < j') → i' < bs.length → j < (rd_T33 bs (i : Int)).f0.length → j' < (rd_T33 bs (i' : Int)).f0.length → (pg bs i j).f0 = 1 → (pg bs i' j').f0 = 1 → (pg bs i j).f1.f1 ≠ (pg bs i' j').f1.f1) → blocksB bs S = true
  | [], _, _, _, _, _ => rfl
  | b :: bs, S, hb, hp, hS, hd => by
    have up : ∀ i : Nat, i < bs.length → i + 1 < (b :: bs).length := fun i hi => by simpa using hi
    have e : ∀ i j : Nat, pg (b :: bs) (i + 1) j = pg bs i j := fun i j => by unfold pg; rw [rdB_cons]
    obtain ⟨S', e1, hx⟩ := pagesB_mk b.f0 S (fun j hj => hp 0 j (by simp) hj) (fun j hj hw => hS 0 j (by simp) hj hw) (fun j j' h1 h2 w1 w2 => hd 0 j 0 j' (.inr ⟨rfl, h1⟩) (by simp) (Nat.lt_trans h1 h2) h2 w1 w2)
    rw [blocksB, Bool.and_eq_true, e1]
    refine ⟨hb 0 (by simp), blocksB_mk bs S' (fun i hi => ?_) (fun i j hi hj => ?_) (fun i j hi hj hw hm => ?_) (fun i j i' j' h1 h2 h3 h4 w1 w2 => ?_)⟩
    · have := hb (i + 1) (up i hi)
      rwa [rdB_cons] at this
    · have := hp (i + 1) j (up i hi) (by rw [rdB_cons]; exact hj)
      rwa [e] at this
    · rcases hx _ hm with h | ⟨j0, hj0, h1, h2⟩
      · have := hS (i + 1) j (up i hi) (by rw [rdB_cons]; exact hj)
        rw [e] at this
        exact this hw h
      · have := hd 0 j0 (i + 1) j (.inl (by omega)) (up i hi) hj0 (by rw [rdB_cons]; exact hj) h1
        rw [e] at this
        exact this hw h2
    · have := hd (i + 1) j (i' + 1) j' (by omega) (up i' h2) (by rw [rdB_cons]; exact h3) (by rw [rdB_cons]; exact h4)
      rw [e, e] at this
      exact this w1 w2
theorem flash_iff (l : List S33) : flashOkB l = true ↔ l.length = 4 ∧ (∀ i : Nat, i < 4 → blockB (rd_T33 l (i : Int)) = true) ∧ (∀ i j : Nat, i < 4 → j < 4 → pageB (pg l i j) = true) ∧ ∀ i j i' j' : Nat, i < 4 → j < 4 → i' < 4 → j' < 4 → (pg l i j).f0 = 1 → (pg l i' j').f0 = 1 → (pg l i j).f1.f1 = (pg l i' j').f1.f1 → i = i' ∧ j = j' := by
  constructor
  · intro hf
    have hl := flash_len hf
    have hB : blocksB l [] = true := by
      unfold flashOkB at hf
      rw [Bool.and_eq_true] at hf
      exact hf.2
    exact ⟨hl, fun i hi => blocksB_all l [] hB i (by omega), fun i j hi hj => pg_ok hf hi hj, fun i j i' j' hi hj hi' hj' w1 w2 e => seq_one hf hi hj hi' hj' w1 w2 e⟩
  · rintro ⟨hl, hb, hp, hd⟩
    have h4 : ∀ i : Nat, i < 4 → (rd_T33 l (i : Int)).f0.length = 4 := fun i hi => by
      have := hb i hi
      unfold blockB at this
      rw [Bool.and_eq_true, decide_eq_true_eq] at this
      omega
    unfold flashOkB
    rw [Bool.and_eq_true, decide_eq_true_eq]
    refine ⟨by omega, blocksB_mk l [] (fun i hi => hb i (by omega)) (fun i j hi hj => hp i j (by omega) (by rw [← h4 i (by omega)]; exact hj)) (fun i j hi hj hw hm => by cases hm) (fun i j i' j' h1 h2 h3 h4' w1 w2 he => ?_)⟩
    have hi : i < 4 := by omega
    have hi' : i' < 4 := by omega
    rw [h4 i hi] at h3
    rw [h4 i' hi'] at h4'
    have := hd i j i' j' hi h3 hi' h4' w1 w2 he
    omega
theorem rdB_set {l : List S33} {i : Nat} (hi : i < l.length) (b : S33) (k : Nat) : rd_T33 (l.set i b) (k : Int) = if k = i then b else rd_T33 l (k : Int) := by
  unfold rd_T33
  rw [Int.toNat_natCast, List.getD_eq_getElem?_getD, List.getD_eq_getElem?_getD]
  by_cases h : k = i
  · rw [if_pos h, h, List.getElem?_set_self hi]
    rfl
  · rw [if_neg h, List.getElem?_set_ne (fun e => h e.symm)]
theorem rdP_set {l : List S30} {i : Nat} (hi : i < l.length) (b : S30) (k : Nat) : rd_T30 (l.set i b) (k : Int) = if k = i then b else rd_T30 l (k : Int) := by
  unfold rd_T30
  rw [Int.toNat_natCast, List.getD_eq_getElem?_getD, List.getD_eq_getElem?_getD]
  by_cases h : k = i
  · rw [if_pos h, h, List.getElem?_set_self hi]
    rfl
  · rw [if_neg h, List.getElem?_set_ne (fun e => h e.symm)]
def setPg (l : List S33) (i j : Nat) (p : S30) : List S33 := l.set i ⟨(rd_T33 l (i : Int)).f0.set j p, (rd_T33 l (i : Int)).f1⟩
theorem pg_set {l : List S33} {i j : Nat} (hi : i < l.length) (hj : j < (rd_T33 l (i : Int)).f0.length) (p : S30) (a b : Nat) : pg (setPg l i j p) a b = if a = i ∧ b = j then p else pg l a b := by
  unfold pg setPg
  rw [rdB_set hi]
  by_cases ha : a = i
  · rw [if_pos ha]
    show rd_T30 ((rd_T33 l (i : Int)).f0.set j p) (b : Int) = _
    rw [rdP_set hj, ha]
    by_cases hb : b = j
    · rw [if_pos hb, if_pos ⟨rfl, hb⟩]
    · rw [if_neg hb, if_neg (fun h => hb h.2)]
  · rw [if_neg ha, if_neg (fun h => ha h.1)]
theorem shape_iff : ∀ (ps : List S30) (free : Bool), shapeB ps free = true ↔ (free = true → ∀ j : Nat, j < ps.length → (rd_T30 ps (j : Int)).f0 = 0) ∧ ∀ j : Nat, j + 1 < ps.length → (rd_T30 ps (j : Int)).f0 = 0 → (rd_T30 ps ((j + 1 : Nat) : Int)).f0 = 0
  | [], free => ⟨fun _ => ⟨fun _ j h => absurd h (Nat.not_lt_zero _), fun j h => absurd h (Nat.not_lt_zero _)⟩, fun _ => rfl⟩
  | p :: ps, free => by
    rw [shapeB]
    have ih := shape_iff ps (p.f0 == 0)
    have c0 : (rd_T30 (p :: ps) ((0 : Nat) : Int)) = p := rfl
    by_cases hc : free = true ∧ p.f0 ≠ 0
    · rw [if_pos hc]
      refine ⟨fun h => (by cases h), fun h => absurd (h.1 hc.1 0 (by simp)) ?_⟩
      rw [c0]
      exact hc.2
    · rw [if_neg hc, ih]
      constructor
      · rintro ⟨h1, h2⟩
        have h3 : ∀ j : Nat, j + 1 < (p :: ps).length → (rd_T30 (p :: ps) (j : Int)).f0 = 0 → (rd_T30 (p :: ps) ((j + 1 : Nat) : Int)).f0 = 0 := fun j hj h0 => by
          rw [rdP_cons]
          cases j with
          | zero => exact h1 (beq_iff_eq.2 h0) 0 (by simpa using hj)
          | succ j =>
            rw [rdP_cons] at h0
            exact h2 j (by simpa using hj) h0
        refine ⟨fun hfree j hj => ?_, h3⟩
        have hp0 : p.f0 = 0 := Decidable.byContradiction fun h => hc ⟨hfree, h⟩
        cases j with
        | zero => exact hp0
        | succ j =>
          rw [rdP_cons]
          exact h1 (beq_iff_eq.2 hp0) j (by simpa using hj)
      · rintro ⟨h1, h2⟩
        have step : ∀ j : Nat, j < ps.length → p.f0 = 0 → (rd_T30 ps (j : Int)).f0 = 0 := by
          intro j
          induction j with
          | zero =>
            intro hj h0
            have := h2 0 (by simpa using hj) h0
            rwa [rdP_cons] at this
          | succ j ij =>
            intro hj h0
            have := h2 (j + 1) (by simpa using hj) (by rw [rdP_cons]; exact ij (by omega) h0)
            rwa [rdP_cons] at this
        refine ⟨fun h0 j hj => step j hj (beq_iff_eq.1 h0), fun j hj h0 => ?_⟩
        have := h2 (j + 1) (by simpa using hj) (by rw [rdP_cons]; exact h0)
        rwa [rdP_cons] at this
theorem setPg_len (l : List S33) (i j : Nat) (p : S30) : (setPg l i j p).length = l.length := by
  unfold setPg
  exact List.length_set
theorem rdB_setPg {l : List S33} {i : Nat} (hi : i < l.length) (j : Nat) (p : S30) (a : Nat) : rd_T33 (setPg l i j p) (a : Int) = if a = i then ⟨(rd_T33 l (i : Int)).f0.set j p, (rd_T33 l (i : Int)).f1⟩ else rd_T33 l (a : Int) := rdB_set hi _ a
theorem free_at {l : List S33} (hf : flashOkB l = true) {i j : Nat} (hi : i < 4) (hj : j < 4) : (pg l i j).f0 = 0 ↔ 4 ≤ j + freeN (rd_T33 l (i : Int)).f0 := by
  have h := flash_block hf i hi
  have := shape_at _ h.2.2.2 j (by omega)
  rw [h.1] at this
  exact this
theorem drawfk_ok {l : List Int} (hb : Bytes l) : ∃ fl, spec_DrawFlashOk.f 1000 l = some fl := by
  obtain ⟨s, e0, hs⟩ := open_ok hb
  obtain ⟨fl, q, e1, hq0, hq1⟩ := flash_ok hs 1000 (by omega)
  obtain ⟨v, e2, _, _⟩ := pickT (p := q) (n := 5) hs hq0 (by omega) (by omega) (by omega) 1000 (by omega)
  obtain ⟨v2, e3, h30, h31⟩ := pickT (p := q + 1) (n := 4) hs (by omega) (by omega) (by omega) (by omega) 1000 (by omega)
  obtain ⟨v3, e4, _, _⟩ := pickT (p := q + 1 + 1) (n := 3) hs (by omega) (by omega) (by omega) (by omega) 1000 (by omega)
  unfold spec_DrawFlashOk.f
  rw [e0]
  simp only [Option.bind_some]
  rw [e1]
  simp only [Option.bind_some]
  rw [e2]
  simp only [Option.bind_some]
  rw [e3]
  simp only [Option.bind_some]
  rw [e4]
  simp only [Option.bind_some]
  rw [if_pos (⟨h30, h31⟩ : 0 ≤ v2 ∧ v2 < 4)]
  repeat' split
  all_goals exact ⟨_, rfl⟩
theorem fine_of {fl : List S33} (hf : flashOkB fl = true) : flFine fl = true := by
  have hl := flash_len hf
  unfold flFine
  rw [Bool.and_eq_true, beq_iff_eq, List.all_eq_true]
  refine ⟨hl, fun b hb => beq_iff_eq.2 ?_⟩
  obtain ⟨i, hi, rfl⟩ := List.getElem_of_mem hb
  have h4 := (flash_block hf i (by omega)).1
  have e : rd_T33 fl (i : Int) = fl[i] := by simp [rd_T33, List.getD_eq_getElem?_getD, hi]
  rw [e] at h4
  exact h4
theorem pgF_nat (fl : List S33) (i j : Nat) : pgF fl (i : Int) (j : Int) = pg fl i j := rfl
theorem setF_nat (fl : List S33) (i j : Nat) (p : S30) : setF fl (i : Int) (j : Int) p = setPg fl i j p := rfl
theorem recN_at (fl : List S33) : ∀ n, recN fl n = ⟨0, 0, 0, 0⟩ ∨ ∃ i, i < n ∧ (pg fl i 0).f0 = 1 ∧ recN fl n = (pg fl i 0).f1
  | 0 => .inl rfl
  | n + 1 => by
    rw [recN]
    by_cases h : (pgF fl (n : Int) 0).f0 = 1
    · rw [if_pos h]
      exact .inr ⟨n, by omega, h, rfl⟩
    · rw [if_neg h]
      rcases recN_at fl n with e | ⟨i, hi, h1, h2⟩
      · exact .inl e
      · exact .inr ⟨i, by omega, h1, h2⟩
theorem seq_twice {l : List S33} (hf : flashOkB l = true) {i j k : Nat} (hi : i < 4) (hj : j < 4) (hk : k < 4) (h0 : (pg l i j).f0 = 0) (hw : (pg l k 0).f0 = 1) : flashOkB (setPg l i j ⟨1, (pg l k 0).f1⟩) = false := by
  have hl := flash_len hf
  have hb := flash_block hf i hi
  have P := pg_set (l := l) (i := i) (j := j) (by omega) (by omega) (⟨1, (pg l k 0).f1⟩ : S30)
  have hne : ¬ (k = i ∧ 0 = j) := fun ⟨e1, e2⟩ => by
    subst e1 e2
    omega
  rw [Bool.eq_false_iff]
  intro h
  have := ((flash_iff _).1 h).2.2.2 i j k 0 hi hj hk (by omega) (by rw [P, if_pos ⟨rfl, rfl⟩]) (by rw [P, if_neg hne]; exact hw) (by rw [P, P, if_pos ⟨rfl, rfl⟩, if_neg hne])
  exact hne ⟨this.1.symm, this.2.symm⟩
theorem flash_turn {l : List S33} (hf : flashOkB l = true) : flashOkB (l.tail ++ [rd_T33 l 0]) = true := by
  have hl := flash_len hf
  have hF := (flash_iff l).1 hf
  have hs : ∀ i : Nat, i < 4 → (if i < 3 then i + 1 else 0) < 4 := fun i hi => by split <;> omega
  have hp : ∀ i j : Nat, i < 4 → pg (l.tail ++ [rd_T33 l 0]) i j = pg l (if i < 3 then i + 1 else 0) j := fun i j hi => by
    unfold pg
    rw [rd_push i hl hi]
  rw [flash_iff]
  refine ⟨by rw [List.length_append, List.length_tail, List.length_singleton]; omega, fun i hi => ?_, fun i j hi hj => ?_, fun i j i' j' hi hj hi' hj' w1 w2 e => ?_⟩
  · rw [rd_push i hl hi]
    exact hF.2.1 _ (hs i hi)
  · rw [hp i j hi]
    exact hF.2.2.1 _ j (hs i hi) hj
  · rw [hp i j hi] at w1 e
    rw [hp i' j' hi'] at w2 e
    have := hF.2.2.2 _ j _ j' (hs i hi) hj (hs i' hi') hj' w1 w2 e
    refine ⟨?_, this.2⟩
    have h1 := this.1
    split at h1 <;> split at h1 <;> omega
theorem FnFlashSeq : laws_FnFlashSeq.Pure := by
  intro l0 l1 _ _ hw0 _ _ _
  obtain ⟨fl, e⟩ := drawfk_ok (bytes_of hw0)
  refine ⟨1000, ?_⟩
  unfold laws_FnFlashSeq.f
  by_cases c1 : (l0.length : Int) > 1048576
  · rw [if_pos c1]
  rw [if_neg c1]
  by_cases c2 : (l1.length : Int) > 1048576
  · rw [if_pos c2]
  rw [if_neg c2, e, Option.bind_some]
  unfold laws_FnFlashSeq.g
  by_cases hf : flashOkB fl = false
  · rw [if_pos hf]
  rw [if_neg hf]
  rw [Bool.not_eq_false] at hf
  have hk : l1.length % 4 < 4 := Nat.mod_lt _ (by omega)
  generalize l1.length % 4 = k at *
  have hb := flash_block hf k hk
  have hle := freeN_le (rd_T33 fl (k : Int)).f0
  have hc : cleanV fl (k : Int) = ((freeN (rd_T33 fl (k : Int)).f0 : Nat) : Int) := if_pos ⟨hf, Int.natCast_nonneg _, by omega⟩
  rw [if_pos (fine_of hf), implClean_ok fl (k : Int) 1000 (by omega), Option.bind_some, hc]
  have F := fun (j : Nat) (hj : j < 4) => free_at hf hk hj
  generalize freeN (rd_T33 fl (k : Int)).f0 = c at *
  by_cases h0 : (c : Int) = 0
  · rw [if_pos h0]
  rw [if_neg h0]
  by_cases hr : (recN fl 4).f1 = 0
  · rw [if_pos hr]
  rw [if_neg hr, if_pos ⟨by omega, by omega⟩, flash_turn hf, Bool.and_true]
  rcases recN_at fl 4 with e0 | ⟨i, hi, h1, h2⟩
  · rw [e0] at hr
    exact absurd rfl hr
  rw [h2, show (4 : Int) - (c : Int) = ((4 - c : Nat) : Int) by omega, setF_nat, seq_twice hf hk (j := 4 - c) (by omega) hi ((F (4 - c) (by omega)).2 (by omega)) h1]
  rfl
end Go.Proofs.Ytfijfkbdedcnfaa.Pure
