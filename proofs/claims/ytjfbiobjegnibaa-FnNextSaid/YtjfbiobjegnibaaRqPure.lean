/- The next number is greater than all, in plain Lean: of blocks that are drawn. -/
import Derived.Test.YtjfbiobjegnibaaRq12
import Derived.IntWalk
import Derived.Laws.BitsAllLaws
namespace Go.Proofs.Ytjfbiobjegnibaa.Pure
open Go.RowKit Go.IntWalk Go.Proofs.Ytjfbiobjegnibaa.Rq Go.Proofs.YtjfbiobjegnibaaW.PrintWords Go.Proofs.YtjfbiobjegnibaaW.PrintLast Go.Proofs.YtjfbiobjegnibaaW.PrintMore
abbrev DB := S33
abbrev DP := S30
abbrev DS := S91
def okPg (p : DP) : Prop := p.f0 = 1 → 1 ≤ p.f1.f2 ∧ p.f1.f2 ≤ 6
def okBl (b : DB) : Prop := b.f0.length = 4 ∧ ∀ p ∈ b.f0, okPg p
def okFl (fl : List DB) : Prop := fl.length = 4 ∧ ∀ b ∈ fl, okBl b
def okSt (x : DS) : Prop := (x.f0 = 1 → 1 ≤ x.f1 ∧ x.f1 ≤ 6) ∧ (x.f0 = 2 ∨ x.f0 = 3 → 0 ≤ x.f3 ∧ x.f3 < 4) ∧ (x.f0 = 3 → 1 ≤ x.f4.f2 ∧ x.f4.f2 ≤ 6)
theorem rdB_in {fl : List DB} {i : Int} (h0 : 0 ≤ i) (h : i < (fl.length : Int)) : rd_T33 fl i ∈ fl := by
  unfold rd_T33
  rw [List.getD_eq_getElem?_getD, List.getElem?_eq_getElem (by omega : i.toNat < fl.length)]
  exact List.getElem_mem _
theorem rdP_in {ps : List DP} {i : Int} (h0 : 0 ≤ i) (h : i < (ps.length : Int)) : rd_T30 ps i ∈ ps := by
  unfold rd_T30
  rw [List.getD_eq_getElem?_getD, List.getElem?_eq_getElem (by omega : i.toNat < ps.length)]
  exact List.getElem_mem _
theorem rdS_in {xs : List DS} {i : Int} (h0 : 0 ≤ i) (h : i < (xs.length : Int)) : rd_T91 xs i ∈ xs := by
  unfold rd_T91
  rw [List.getD_eq_getElem?_getD, List.getElem?_eq_getElem (by omega : i.toNat < xs.length)]
  exact List.getElem_mem _
theorem okAt {fl : List DB} (h : okFl fl) {i : Int} (h0 : 0 ≤ i) (h1 : i < 4) : okBl (rd_T33 fl i) := h.2 _ (rdB_in h0 (by rw [h.1]; exact h1))
theorem okSet {fl : List DB} (h : okFl fl) (n : Nat) {b : DB} (hb : okBl b) : okFl (fl.set n b) := ⟨by rw [List.length_set]; exact h.1, fun x hx => by
  rcases List.mem_or_eq_of_mem_set hx with hx | rfl
  · exact h.2 _ hx
  · exact hb⟩
theorem okSetP {b : DB} (h : okBl b) (n : Nat) {p : DP} (hp : okPg p) (w : Int) : okBl ⟨b.f0.set n p, w⟩ := ⟨by show (b.f0.set n p).length = 4; rw [List.length_set]; exact h.1, fun x hx => by
  rcases List.mem_or_eq_of_mem_set hx with hx | rfl
  · exact h.2 _ hx
  · exact hp⟩
theorem upN (i : Nat) (h : i < 100000) : wrap64 ((i : Int) + 1) = ((i + 1 : Nat) : Int) := by
  rw [wrap64_in _ (by omega)]
  omega
theorem l6In_t (n a b : Int) : spec_l6In.f n a b = some (decide (a ≤ n ∧ n ≤ b)) := by
  unfold spec_l6In.f
  by_cases h : n ≥ a
  · rw [if_pos h]
    exact congrArg some (decide_eq_decide.2 ⟨fun h2 => ⟨h, h2⟩, fun h2 => h2.2⟩)
  · rw [if_neg h]
    exact congrArg some (decide_eq_false (fun h2 => h h2.1)).symm
theorem recOk_t (a b c d : Int) : ∃ r, spec_RecOk.f a b c d = some r ∧ (r = true → 1 ≤ c ∧ c ≤ 6) := by
  unfold spec_RecOk.f
  rw [l6In_t, l6In_t, l6In_t, l6In_t]
  simp only [Option.bind_some]
  by_cases h1 : (1 : Int) ≤ a ∧ a ≤ 2
  · rw [if_pos (decide_eq_true h1)]
    by_cases h2 : (1 : Int) ≤ b ∧ b ≤ 600
    · rw [if_pos (decide_eq_true h2)]
      by_cases h3 : (1 : Int) ≤ c ∧ c ≤ 6
      · rw [if_pos (decide_eq_true h3)]
        exact ⟨_, rfl, fun _ => h3⟩
      · rw [if_neg (by simpa using h3)]
        exact ⟨_, rfl, fun h => by cases h⟩
    · rw [if_neg (by simpa using h2)]
      exact ⟨_, rfl, fun h => by cases h⟩
  · rw [if_neg (by simpa using h1)]
    exact ⟨_, rfl, fun h => by cases h⟩
theorem cleanL (ps : List DP) (hl : ps.length = 4) (w : Int) (K : Nat) : ∀ (n i m : Nat), i + n = 4 → m ≤ i → ∃ r : Nat, r ≤ 4 ∧ spec_l2Clean.l0 (K + n + 1) (m : Int) (i : Int) ps w = some (r : Int)
  | 0, i, m, h, hm => ⟨m, by omega, by rw [spec_l2Clean.l0, if_neg (by omega)]⟩
  | n + 1, i, m, h, hm => by
    obtain ⟨r1, a1, e1⟩ := cleanL ps hl w K n (i + 1) (m + 1) (by omega) (by omega)
    obtain ⟨r2, a2, e2⟩ := cleanL ps hl w K n (i + 1) m (by omega) (by omega)
    rw [show K + (n + 1) + 1 = (K + n + 1) + 1 from rfl, spec_l2Clean.l0, if_pos (by omega), if_pos (by omega), upN i (by omega), upN m (by omega), e1, e2]
    split
    · exact ⟨r1, a1, rfl⟩
    · exact ⟨r2, a2, rfl⟩
theorem cleanF (ps : List DP) (hl : ps.length = 4) (w : Int) (k : Nat) (hk : 5 ≤ k) : ∃ r : Nat, r ≤ 4 ∧ spec_l2Clean.f k ps w = some (r : Int) := by
  have h := cleanL ps hl w (k - 5) 4 0 0 (by omega) (by omega)
  rw [show k - 5 + 4 + 1 = k by omega] at h
  exact h
theorem seqIn (fl : List DB) (s : Int) (i : Nat) (hi : i < fl.length) (hp : (rd_T33 fl (i : Int)).f0.length = 4) (K : Nat) (h0 : ∃ b, spec_l2Seq.l0 K fl s ((i + 1 : Nat) : Int) = some b) (hi2 : i < 1000) : ∀ (n j : Nat), j + n = 4 → ∃ b, spec_l2Seq.l1 (K + n + 1) fl s (i : Int) (j : Int) = some b
  | 0, j, h => by
    obtain ⟨b, e⟩ := h0
    rw [spec_l2Seq.l1, if_pos (by omega), if_pos (by omega), if_neg (by omega), upN i (by omega)]
    exact ⟨b, e⟩
  | n + 1, j, h => by
    obtain ⟨b, e⟩ := seqIn fl s i hi hp K h0 hi2 n (j + 1) (by omega)
    rw [show K + (n + 1) + 1 = (K + n + 1) + 1 from rfl, spec_l2Seq.l1, if_pos (by omega), if_pos (by omega), if_pos (by omega), if_pos (by omega), upN j (by omega), e]
    split
    · split
      · exact ⟨_, rfl⟩
      · exact ⟨_, rfl⟩
    · exact ⟨_, rfl⟩
theorem seqOut (fl : List DB) (s : Int) (h : okFl fl) : ∀ (n i K : Nat), i + n = 4 → ∃ b, spec_l2Seq.l0 (K + n * 6 + 1) fl s (i : Int) = some b
  | 0, i, K, hi => ⟨false, by rw [spec_l2Seq.l0, if_neg (by rw [h.1]; omega)]⟩
  | n + 1, i, K, hi => by
    have ih := seqOut fl s h n (i + 1) K (by omega)
    rw [spec_l2Seq.l0, if_pos (by rw [h.1]; omega), show K + (n + 1) * 6 = (K + n * 6 + 1) + 4 + 1 by omega]
    exact seqIn fl s i (by rw [h.1]; omega) (okAt h (by omega) (by omega)).1 (K + n * 6 + 1) ih (by omega) 4 0 (by omega)
theorem seqF {fl : List DB} (s : Int) (h : okFl fl) (k : Nat) (hk : 25 ≤ k) : ∃ b, spec_l2Seq.f k fl s = some b := by
  have h1 := seqOut fl s h 4 0 (k - 25) (by omega)
  rw [show k - 25 + 4 * 6 + 1 = k by omega] at h1
  exact h1
theorem writeF {fl : List DB} (h : okFl fl) {b : Int} (hb0 : 0 ≤ b) (hb1 : b < 4) (r0 r1 r2 r3 : Int) (hr : 1 ≤ r2 ∧ r2 ≤ 6) (t : Bool) (k : Nat) (hk : 30 ≤ k) : ∃ fl' o, spec_l2Write.f k fl b r0 r1 r2 r3 t = some (fl', o) ∧ okFl fl' := by
  obtain ⟨k, rfl⟩ : ∃ j, k = j + 1 := ⟨k - 1, by omega⟩
  have hB := okAt h hb0 hb1
  have hlen : b < (fl.length : Int) := by rw [h.1]; exact hb1
  obtain ⟨n, hn, e1⟩ := cleanF (rd_T33 fl b).f0 hB.1 (rd_T33 fl b).f1 (k + 1) (by omega)
  obtain ⟨u, e2⟩ := seqF r1 h (k + 1) (by omega)
  unfold spec_l2Write.f
  rw [if_pos hb0, if_pos hlen, e1, e2]
  simp only [Option.bind_some]
  by_cases hz : (n : Int) = 0
  · rw [if_pos hz, spec_l2Write.j0, if_pos rfl]
    exact ⟨_, _, rfl, h⟩
  · have e3 : wrap64 (4 - (n : Int)) = 4 - (n : Int) := wrap64_in _ (by omega)
    rw [if_neg hz, spec_l2Write.j0, e3]
    cases u with
    | true =>
      rw [if_pos rfl]
      exact ⟨_, _, rfl, h⟩
    | false =>
      rw [if_neg (by simp)]
      cases t with
      | true =>
        rw [if_pos rfl, if_pos hb0, if_pos hlen, if_pos (by omega), if_pos (by rw [hB.1]; omega)]
        exact ⟨_, _, rfl, okSet h _ (okSetP hB _ (fun hq => absurd hq (by show ¬ (2 : Int) = 1; decide)) _)⟩
      | false =>
        rw [if_neg (by simp), if_pos hb0, if_pos hlen, if_pos (by omega), if_pos (by rw [hB.1]; omega)]
        exact ⟨_, _, rfl, okSet h _ (okSetP hB _ (fun _ => hr) _)⟩
theorem wipeL {b s : Int} (hb0 : 0 ≤ b) (hb1 : b < 4) (hs : s ≠ 1) (K : Nat) : ∀ (n i : Nat) (fl : List DB), okFl fl → i + n = 4 → ∃ fl' o, spec_l2Wipe.l0 (K + n + 1) fl b s (i : Int) = some (fl', o) ∧ okFl fl'
  | 0, i, fl, h, hi => ⟨fl, true, by rw [spec_l2Wipe.l0, if_neg (by omega)], h⟩
  | n + 1, i, fl, h, hi => by
    have hB := okAt h hb0 hb1
    rw [show K + (n + 1) + 1 = (K + n + 1) + 1 from rfl, spec_l2Wipe.l0, if_pos (by omega), if_pos hb0, if_pos (by rw [h.1]; exact hb1), if_pos (by omega), if_pos (by rw [hB.1]; omega), upN i (by omega)]
    exact wipeL hb0 hb1 hs K n (i + 1) _ (okSet h _ (okSetP hB _ (fun hq => absurd hq hs) _)) (by omega)
theorem wipeF {fl : List DB} (h : okFl fl) {b : Int} (hb0 : 0 ≤ b) (hb1 : b < 4) (t : Bool) (k : Nat) (hk : 10 ≤ k) : ∃ fl' o, spec_l2Wipe.f k fl b t = some (fl', o) ∧ okFl fl' := by
  obtain ⟨k, rfl⟩ : ∃ j, k = j + 1 := ⟨k - 1, by omega⟩
  have hB := okAt h hb0 hb1
  unfold spec_l2Wipe.f
  rw [if_pos hb0, if_pos (by rw [h.1]; exact hb1)]
  by_cases hw : (rd_T33 fl b).f1 ≥ 200
  · rw [if_pos hw]
    exact ⟨_, _, rfl, h⟩
  · rw [if_neg hw]
    simp only [Option.bind_some]
    have h2 : okFl (fl.set b.toNat (⟨(rd_T33 fl b).f0, wrap64 ((rd_T33 fl b).f1 + 1)⟩ : DB)) := okSet h _ ⟨hB.1, hB.2⟩
    have q := fun s (hs : s ≠ 1) => wipeL (s := s) hb0 hb1 hs (k - 5) 4 0 _ h2 (by omega)
    rw [show k - 5 + 4 + 1 = k by omega] at q
    cases t with
    | true =>
      rw [if_pos rfl, spec_l2Wipe.j0]
      exact q 2 (by decide)
    | false =>
      rw [if_neg (by simp), spec_l2Wipe.j0]
      exact q 0 (by decide)
theorem mostL (ps : List DP) (hl : ps.length = 4) (w : Int) (K : Nat) : ∀ (n i : Nat) (m : Int), i + n = 4 → ∃ r, spec_l3Most.l0 (K + n + 1) m (i : Int) ps w = some r
  | 0, i, m, h => ⟨m, by rw [spec_l3Most.l0, if_neg (by omega)]⟩
  | n + 1, i, m, h => by
    rw [show K + (n + 1) + 1 = (K + n + 1) + 1 from rfl, spec_l3Most.l0, if_pos (by omega), if_pos (by omega), upN i (by omega)]
    exact mostL ps hl w K n (i + 1) _ (by omega)
theorem mostF (ps : List DP) (hl : ps.length = 4) (w : Int) (k : Nat) (hk : 5 ≤ k) : ∃ r, spec_l3Most.f k ps w = some r := by
  have h := mostL ps hl w (k - 5) 4 0 0 (by omega)
  rw [show k - 5 + 4 + 1 = k by omega] at h
  exact h
theorem nextL {fl : List DB} (h : okFl fl) (K : Nat) (hK : 5 ≤ K) : ∀ (n i : Nat) (m : Int), i + n = 4 → ∃ r, spec_l3Next.l0 (K + n + 1) fl m (i : Int) = some r
  | 0, i, m, hi => ⟨_, by rw [spec_l3Next.l0, if_neg (by rw [h.1]; omega)]⟩
  | n + 1, i, m, hi => by
    obtain ⟨r, e⟩ := mostF _ (okAt h (show (0 : Int) ≤ i by omega) (show (i : Int) < 4 by omega)).1 (rd_T33 fl (i : Int)).f1 (K + n + 1) (by omega)
    rw [show K + (n + 1) + 1 = (K + n + 1) + 1 from rfl, spec_l3Next.l0, if_pos (by rw [h.1]; omega), if_pos (by omega), e, Option.bind_some, upN i (by omega)]
    exact nextL h K hK n (i + 1) _ (by omega)
theorem nextF {fl : List DB} (h : okFl fl) (k : Nat) (hk : 10 ≤ k) : ∃ r, spec_l3Next.f k fl = some r := by
  have h1 := nextL h (k - 5) (by omega) 4 0 0 (by omega)
  rw [show k - 5 + 4 + 1 = k by omega] at h1
  exact h1
theorem mx0 {o : Int} (h1 : o < 4) : 0 ≤ mx o 0 ∧ mx o 0 < 4 := by
  unfold mx
  split <;> omega
theorem openL {fl : List DB} (h : okFl fl) (K : Nat) (hK : 5 ≤ K) : ∀ (n i : Nat) (o : Int), i + n = 4 → -1 ≤ o → o < 4 → ∃ a c, spec_l3Open.l0 (K + 2 * n + 1) fl o (i : Int) = some (a, c) ∧ 0 ≤ a ∧ a < 4
  | 0, i, o, hi, h1, h2 => by
    rw [spec_l3Open.l0, if_neg (by rw [h.1]; omega)]
    exact ⟨_, _, rfl, mx0 h2⟩
  | n + 1, i, o, hi, h1, h2 => by
    obtain ⟨r, hr, e⟩ := cleanF _ (okAt h (show (0 : Int) ≤ i by omega) (show (i : Int) < 4 by omega)).1 (rd_T33 fl (i : Int)).f1 (K + 2 * n + 1 + 1) (by omega)
    have ih := fun o a b => openL h K hK n (i + 1) o (by omega) a b
    have hl : (i : Int) < (fl.length : Int) := by rw [h.1]; omega
    rw [show K + 2 * (n + 1) + 1 = (K + 2 * n + 1 + 1) + 1 by omega, spec_l3Open.l0, if_pos hl, if_pos (by omega), e]
    simp only [Option.bind_some]
    have J : ∀ c : Bool, ∃ a c', spec_l3Open.j1 (K + 2 * n + 1 + 1) fl o (i : Int) (r : Int) c = some (a, c') ∧ 0 ≤ a ∧ a < 4 := by
      intro c
      rw [spec_l3Open.j1, upN i (by omega)]
      cases c with
      | true =>
        rw [if_pos rfl]
        exact ⟨_, _, rfl, by omega, by omega⟩
      | false =>
        rw [if_neg (by simp)]
        by_cases c1 : (r : Int) > 0
        · rw [if_pos c1]
          by_cases c2 : o < 0
          · rw [if_pos c2]
            exact ih _ (by omega) (by omega)
          · rw [if_neg c2, if_pos (by omega), if_pos hl, if_pos (by omega), if_pos (by rw [h.1]; omega)]
            split
            · exact ih _ (by omega) (by omega)
            · exact ih _ (by omega) (by omega)
        · rw [if_neg c1]
          exact ih _ (by omega) (by omega)
    split
    · exact J _
    · exact J _
theorem openF {fl : List DB} (h : okFl fl) (k : Nat) (hk : 20 ≤ k) : ∃ a c, spec_l3Open.f k fl = some (a, c) ∧ 0 ≤ a ∧ a < 4 := by
  have h1 := openL h (k - 9) (by omega) 4 0 (-1) (by omega) (by omega) (by omega)
  rw [show k - 9 + 2 * 4 + 1 = k by omega] at h1
  exact h1
theorem oldL {fl : List DB} (h : okFl fl) (K : Nat) (hK : 5 ≤ K) : ∀ (n i : Nat) (o : Int), i + n = 4 → 0 ≤ o → o < 4 → ∃ a, spec_l3Old.l0 (K + n + 1) fl o (i : Int) = some a ∧ 0 ≤ a ∧ a < 4
  | 0, i, o, hi, h1, h2 => ⟨o, by rw [spec_l3Old.l0, if_neg (by rw [h.1]; omega)], h1, h2⟩
  | n + 1, i, o, hi, h1, h2 => by
    obtain ⟨r, e⟩ := mostF _ (okAt h (show (0 : Int) ≤ i by omega) (show (i : Int) < 4 by omega)).1 (rd_T33 fl (i : Int)).f1 (K + n + 1) (by omega)
    obtain ⟨r2, e2⟩ := mostF _ (okAt h h1 h2).1 (rd_T33 fl o).f1 (K + n + 1) (by omega)
    have ih := fun o a b => oldL h K hK n (i + 1) o (by omega) a b
    rw [show K + (n + 1) + 1 = (K + n + 1) + 1 from rfl, spec_l3Old.l0, if_pos (by rw [h.1]; omega), if_pos (by omega), e, Option.bind_some, if_pos h1, if_pos (by rw [h.1]; exact h2), e2, Option.bind_some, upN i (by omega)]
    split
    · exact ih _ (by omega) (by omega)
    · exact ih _ h1 h2
theorem oldF {fl : List DB} (h : okFl fl) (k : Nat) (hk : 10 ≤ k) : ∃ a, spec_l3Old.f k fl = some a ∧ 0 ≤ a ∧ a < 4 := by
  have h1 := oldL h (k - 4) (by omega) 3 1 0 (by omega) (by omega) (by omega)
  rw [show k - 4 + 3 + 1 = k by omega] at h1
  exact h1
theorem lastIn (fl : List DB) (s : Int) (i : Nat) (hi : i < fl.length) (hp : (rd_T33 fl (i : Int)).f0.length = 4) (K : Nat) (h0 : ∀ r0 r1 r2 r3, ∃ a b c d e, spec_l3Last.l0 K fl s ((i + 1 : Nat) : Int) r0 r1 r2 r3 = some (a, b, c, d, e)) (hi2 : i < 1000) : ∀ (n j : Nat) (r0 r1 r2 r3 : Int), j + n = 4 → ∃ a b c d e, spec_l3Last.l1 (K + n + 1) fl s (i : Int) (j : Int) r0 r1 r2 r3 = some (a, b, c, d, e)
  | 0, j, r0, r1, r2, r3, h => by
    rw [spec_l3Last.l1, if_pos (by omega), if_pos (by omega), if_neg (by omega), upN i (by omega)]
    exact h0 _ _ _ _
  | n + 1, j, r0, r1, r2, r3, h => by
    have ih := fun r0 r1 r2 r3 => lastIn fl s i hi hp K h0 hi2 n (j + 1) r0 r1 r2 r3 (by omega)
    rw [show K + (n + 1) + 1 = (K + n + 1) + 1 from rfl, spec_l3Last.l1, if_pos (by omega), if_pos (by omega), if_pos (by omega), if_pos (by omega), upN j (by omega)]
    split
    · split
      · split
        · exact ih _ _ _ _
        · exact ih _ _ _ _
      · exact ih _ _ _ _
    · exact ih _ _ _ _
theorem lastOut (fl : List DB) (s : Int) (h : okFl fl) : ∀ (n i K : Nat) (r0 r1 r2 r3 : Int), i + n = 4 → ∃ a b c d e, spec_l3Last.l0 (K + n * 6 + 1) fl s (i : Int) r0 r1 r2 r3 = some (a, b, c, d, e)
  | 0, i, K, r0, r1, r2, r3, hi => ⟨_, _, _, _, _, by rw [spec_l3Last.l0, if_neg (by rw [h.1]; omega)]⟩
  | n + 1, i, K, r0, r1, r2, r3, hi => by
    have ih := fun r0 r1 r2 r3 => lastOut fl s h n (i + 1) K r0 r1 r2 r3 (by omega)
    rw [spec_l3Last.l0, if_pos (by rw [h.1]; omega), show K + (n + 1) * 6 = (K + n * 6 + 1) + 4 + 1 by omega]
    exact lastIn fl s i (by rw [h.1]; omega) (okAt h (by omega) (by omega)).1 (K + n * 6 + 1) ih (by omega) 4 0 _ _ _ _ (by omega)
theorem lastF {fl : List DB} (s : Int) (h : okFl fl) (k : Nat) (hk : 25 ≤ k) : ∃ a b c d e, spec_l3Last.f k fl s = some (a, b, c, d, e) := by
  have h1 := lastOut fl s h 4 0 (k - 25) 0 0 0 0 (by omega)
  rw [show k - 25 + 4 * 6 + 1 = k by omega] at h1
  exact h1
theorem liveF {fl : List DB} (h : okFl fl) (s r0 r1 r2 r3 : Int) (k : Nat) (hk : 25 ≤ k) : ∃ b, spec_l3Live.f k fl s r0 r1 r2 r3 = some b ∧ (b = true → s = 1) := by
  unfold spec_l3Live.f
  by_cases hs : s = 1
  · rw [if_pos hs]
    obtain ⟨a, b, c, d, e, q⟩ := lastF r2 h k hk
    rw [q, Option.bind_some]
    exact ⟨_, rfl, fun _ => hs⟩
  · rw [if_neg hs]
    exact ⟨_, rfl, fun h => by cases h⟩
def okSts (xs : List DS) (n : Nat) : Prop := (∀ x ∈ xs, okSt x) ∧ xs.length ≤ n
theorem nilSts (n : Nat) : okSts [] n := ⟨fun x hx => (by cases hx), Nat.zero_le _⟩
theorem okSts_add {xs : List DS} {n : Nat} (h : okSts xs n) {x : DS} (hx : okSt x) : okSts (xs ++ [x]) (n + 1) := ⟨fun y hy => by
  rcases List.mem_append.1 hy with hy | hy
  · exact h.1 _ hy
  · rw [List.mem_singleton] at hy
    rw [hy]
    exact hx, by rw [List.length_append, List.length_singleton]; have := h.2; omega⟩
theorem okSts_mono {xs : List DS} {n m : Nat} (h : okSts xs n) (hm : n ≤ m) : okSts xs m := ⟨h.1, by have := h.2; omega⟩
theorem roomL {fl : List DB} (h : okFl fl) (d : List Int) {o : Int} (ho0 : 0 ≤ o) (ho1 : o < 4) (K : Nat) (hK : 25 ≤ K) : ∀ (n i : Nat) (out : List DS), i + n = 4 → okSts out i → ∃ xs c, spec_l12Room.l0 (K + n + 1) out o (i : Int) fl d = some (xs, o, c) ∧ okSts xs 5
  | 0, i, out, hi, hs => by
    have h2 := hs.2
    rw [spec_l12Room.l0, if_neg (by omega), if_pos (by omega), if_pos ho0, if_pos (by rw [h.1]; exact ho1)]
    exact ⟨_, _, rfl, okSts_mono (okSts_add hs ⟨fun hq => absurd hq (by show ¬ (2 : Int) = 1; decide), fun _ => ⟨ho0, ho1⟩, fun hq => absurd hq (by show ¬ (2 : Int) = 3; decide)⟩) (by omega)⟩
  | n + 1, i, out, hi, hs => by
    have h2 := hs.2
    have hB := okAt h ho0 ho1
    have ih := fun out (hs : okSts out (i + 1)) => roomL h d ho0 ho1 K hK n (i + 1) out (by omega) hs
    generalize hq : rd_T30 (rd_T33 fl o).f0 (i : Int) = p
    have hpg : okPg p := by
      rw [← hq]
      exact hB.2 _ (rdP_in (by omega) (by rw [hB.1]; omega))
    obtain ⟨b, e, hb⟩ := liveF h p.f0 p.f1.f0 p.f1.f1 p.f1.f2 p.f1.f3 (K + n + 1) (by omega)
    rw [show K + (n + 1) + 1 = (K + n + 1) + 1 from rfl, spec_l12Room.l0, hq, if_pos (by omega), if_pos ho0, if_pos (by rw [h.1]; exact ho1), if_pos (by omega), if_pos (by rw [hB.1]; omega), e, Option.bind_some, upN i (by omega)]
    cases b with
    | false =>
      rw [if_neg (by simp)]
      exact ih _ (okSts_mono hs (by omega))
    | true =>
      rw [if_pos rfl]
      split
      · rw [if_pos (by omega)]
        exact ih _ (okSts_add hs ⟨fun _ => hpg (hb rfl), fun hq => by rcases hq with hq | hq <;> exact absurd hq (by simp), fun hq => absurd hq (by show ¬ (1 : Int) = 3; decide)⟩)
      · exact ih _ (okSts_mono hs (by omega))
theorem roomF {fl : List DB} (h : okFl fl) (d : List Int) (k : Nat) (hk : 40 ≤ k) : ∃ xs b c, spec_l12Room.f k fl d = some (xs, b, c) ∧ okSts xs 5 ∧ 0 ≤ b ∧ b < 4 := by
  obtain ⟨a, c, e, ha0, ha1⟩ := openF h k (by omega)
  obtain ⟨o, e2, ho0, ho1⟩ := oldF h k (by omega)
  unfold spec_l12Room.f
  rw [e, e2]
  simp only [Option.bind_some]
  cases c with
  | true =>
    rw [if_pos rfl]
    exact ⟨_, _, _, rfl, nilSts _, ha0, ha1⟩
  | false =>
    rw [if_neg (by simp)]
    obtain ⟨xs, c, e3, h3⟩ := roomL h d ho0 ho1 (k - 5) (by omega) 4 0 [] (by omega) (nilSts _)
    rw [show k - 5 + 4 + 1 = k by omega] at e3
    exact ⟨xs, o, c, e3, h3, ho0, ho1⟩
theorem stWriteF {fl : List DB} (h : okFl fl) (d : List Int) (kd a v : Int) (k : Nat) (hk : 40 ≤ k) : ∃ xs, spec_l12Write.f k fl d kd a v = some xs ∧ okSts xs 6 := by
  obtain ⟨n, e⟩ := nextF h k (by omega)
  obtain ⟨xs, b, c, e2, hx, hb0, hb1⟩ := roomF h d k hk
  obtain ⟨r, e3, hr⟩ := recOk_t kd n a v
  unfold spec_l12Write.f
  rw [e, e2]
  simp only [Option.bind_some]
  rw [e3]
  simp only [Option.bind_some]
  cases c with
  | false =>
    rw [if_neg (by simp)]
    exact ⟨_, rfl, nilSts _⟩
  | true =>
    rw [if_pos rfl]
    cases r with
    | false =>
      rw [if_neg (by simp)]
      exact ⟨_, rfl, nilSts _⟩
    | true =>
      rw [if_pos rfl, if_pos (by have := hx.2; omega)]
      exact ⟨_, rfl, okSts_add hx ⟨fun hq => absurd hq (by show ¬ (3 : Int) = 1; decide), fun _ => ⟨hb0, hb1⟩, fun _ => hr rfl⟩⟩
theorem diskAt {a : Int} (h : 1 ≤ a ∧ a ≤ 6) : wrap64 (a - 1) = a - 1 := wrap64_in _ (by omega)
theorem readF {fl : List DB} (h : okFl fl) {d : List Int} (hd : d.length = 6) {a : Int} (ha : 1 ≤ a ∧ a ≤ 6) (k : Nat) (hk : 25 ≤ k) : ∃ v, spec_l11Read.f k fl d a = some v := by
  obtain ⟨r0, r1, r2, r3, c, e⟩ := lastF a h k hk
  unfold spec_l11Read.f
  rw [e, Option.bind_some, diskAt ha]
  cases c with
  | true => exact ⟨_, if_pos rfl⟩
  | false =>
    rw [if_neg (by simp), if_pos (by omega), if_pos (by omega)]
    exact ⟨_, rfl⟩
theorem dirtyF {fl : List DB} (h : okFl fl) (d : List Int) (a : Int) (k : Nat) (hk : 25 ≤ k) : ∃ v, spec_l11Dirty.f k fl d a = some v := by
  obtain ⟨r0, r1, r2, r3, c, e⟩ := lastF a h k hk
  unfold spec_l11Dirty.f
  rw [e, Option.bind_some]
  split
  · exact ⟨_, rfl⟩
  · exact ⟨_, rfl⟩
theorem flushF {fl : List DB} (h : okFl fl) {d : List Int} (hd : d.length = 6) (a : Int) (k : Nat) (hk : 50 ≤ k) : ∃ xs, spec_l12Flush.f k fl d a = some xs ∧ okSts xs 7 := by
  obtain ⟨k, rfl⟩ : ∃ j, k = j + 1 := ⟨k - 1, by omega⟩
  have hnil : okSts ([] : List DS) 7 := nilSts 7
  unfold spec_l12Flush.f
  rw [l6In_t, Option.bind_some]
  by_cases ha : 1 ≤ a ∧ a ≤ 6
  · rw [if_pos (decide_eq_true ha)]
    obtain ⟨b, e⟩ := dirtyF h d a (k + 1) (by omega)
    rw [e, Option.bind_some, spec_l12Flush.j0]
    cases b with
    | false => exact ⟨_, if_pos rfl, hnil⟩
    | true =>
      obtain ⟨v, e2⟩ := readF h hd ha k (by omega)
      obtain ⟨xs, e3, hx⟩ := stWriteF h d 2 a v k (by omega)
      have h6 := hx.2
      rw [if_neg (by simp), e2]
      simp only [Option.bind_some]
      rw [e3]
      simp only [Option.bind_some]
      split
      · exact ⟨_, rfl, okSts_mono hx (by omega)⟩
      · rw [if_pos (by rw [List.length_singleton]; omega)]
        refine ⟨_, rfl, fun x hq => ?_, by rw [List.length_append, List.length_singleton]; omega⟩
        rcases List.mem_append.1 hq with hq | hq
        · rw [List.mem_singleton] at hq
          rw [hq]
          exact ⟨fun _ => ha, fun hq => by rcases hq with hq | hq <;> exact absurd hq (by simp), fun hq => absurd hq (by show ¬ (1 : Int) = 3; decide)⟩
        · exact hx.1 _ hq
  · rw [if_neg (by simpa using ha), spec_l12Flush.j0]
    exact ⟨_, if_pos rfl, hnil⟩
theorem fillF {fl : List DB} (h : okFl fl) {d : List Int} (hd : d.length = 6) (a : Int) (k : Nat) (hk : 50 ≤ k) : ∃ xs, spec_l12Fill.f k fl d a = some xs ∧ okSts xs 7 := by
  have hnil : okSts ([] : List DS) 7 := nilSts 7
  unfold spec_l12Fill.f
  rw [l6In_t, Option.bind_some]
  by_cases ha : 1 ≤ a ∧ a ≤ 6
  · rw [if_pos (decide_eq_true ha)]
    obtain ⟨r0, r1, r2, r3, c, e⟩ := lastF a h k (by omega)
    rw [e, Option.bind_some, diskAt ha]
    cases c with
    | true => exact ⟨_, if_pos rfl, hnil⟩
    | false =>
      obtain ⟨xs, e3, hx⟩ := stWriteF h d 2 a (rd d (a - 1)) k (by omega)
      rw [if_neg (by simp), if_pos (by omega), if_pos (by omega), e3, Option.bind_some]
      exact ⟨_, rfl, okSts_mono hx (by omega)⟩
  · rw [if_neg (by simpa using ha)]
    exact ⟨_, rfl, hnil⟩
theorem stepsF {fl : List DB} (h : okFl fl) {d : List Int} (hd : d.length = 6) (kd a b c : Int) (t : Bool) (k : Nat) (hk : 50 ≤ k) : ∃ xs, spec_l21Steps.f k fl d kd a b c t = some xs ∧ okSts xs 7 := by
  unfold spec_l21Steps.f
  obtain ⟨x1, e1, h1⟩ := stWriteF h d 1 a b k (by omega)
  obtain ⟨x2, e2, h2⟩ := flushF h hd a k hk
  obtain ⟨x3, e3, h3⟩ := fillF h hd a k hk
  rw [e1, e2, e3]
  simp only [Option.bind_some]
  split
  · exact ⟨_, rfl, okSts_mono h1 (by omega)⟩
  split
  · exact ⟨_, rfl, h2⟩
  split
  · exact ⟨_, rfl, h3⟩
  · exact ⟨_, rfl, nilSts _⟩
theorem stDoF {fl : List DB} (h : okFl fl) {d : List Int} (hd : d.length = 6) {x : DS} (hx : okSt x) (t : Bool) (k : Nat) (hk : 40 ≤ k) : ∃ fl' d', spec_l12Do.f k fl d x.f0 x.f1 x.f2 x.f3 x.f4.f0 x.f4.f1 x.f4.f2 x.f4.f3 t = some (fl', d') ∧ okFl fl' ∧ d'.length = 6 := by
  unfold spec_l12Do.f
  by_cases c1 : x.f0 = 1
  · rw [if_pos c1]
    cases t with
    | true => exact ⟨_, _, if_pos rfl, h, hd⟩
    | false =>
      have ha := hx.1 c1
      rw [if_neg (by simp), diskAt ha, if_pos (by omega), if_pos (by omega)]
      exact ⟨_, _, rfl, h, by rw [List.length_set]; exact hd⟩
  rw [if_neg c1]
  by_cases c2 : x.f0 = 2
  · rw [if_pos c2]
    have hb := hx.2.1 (.inl c2)
    obtain ⟨fl', o, e, h'⟩ := wipeF h hb.1 hb.2 t k (by omega)
    rw [e, Option.bind_some]
    exact ⟨_, _, rfl, h', hd⟩
  rw [if_neg c2]
  by_cases c3 : x.f0 = 3
  · rw [if_pos c3]
    have hb := hx.2.1 (.inr c3)
    obtain ⟨fl', o, e, h'⟩ := writeF h hb.1 hb.2 x.f4.f0 x.f4.f1 x.f4.f2 x.f4.f3 (hx.2.2 c3) t k (by omega)
    rw [e, Option.bind_some]
    exact ⟨_, _, rfl, h', hd⟩
  rw [if_neg c3]
  exact ⟨_, _, rfl, h, hd⟩
theorem toEnd {xs : List DS} (hx : okSts xs 7) {fl : List DB} (h : okFl fl) {d : List Int} (hd : d.length = 6) (cut : Int) (t : Bool) (k : Nat) (hk : 50 ≤ k) : ∃ fl' d', spec_l12To.j1 k xs cut t fl d = some (fl', d') ∧ okFl fl' ∧ d'.length = 6 := by
  obtain ⟨k, rfl⟩ : ∃ j, k = j + 1 := ⟨k - 1, by omega⟩
  have h7 := hx.2
  rw [spec_l12To.j1]
  cases t with
  | false =>
    rw [if_neg (by simp)]
    exact ⟨_, _, rfl, h, hd⟩
  | true =>
    rw [if_pos rfl, l6In_t, Option.bind_some]
    by_cases hc : 0 ≤ cut ∧ cut ≤ wrap64 ((xs.length : Int) - 1)
    · have hc2 := hc
      rw [wrap64_in _ (by omega)] at hc2
      obtain ⟨fl', d', e, h', hd'⟩ := stDoF h hd (hx.1 _ (rdS_in hc2.1 (by omega))) true k (by omega)
      rw [if_pos (decide_eq_true hc), if_pos hc2.1, if_pos (by omega), e, Option.bind_some]
      exact ⟨_, _, rfl, h', hd'⟩
    · rw [if_neg (by simpa using hc)]
      exact ⟨_, _, rfl, h, hd⟩
theorem toL {xs : List DS} (hx : okSts xs 7) (cut : Int) (t : Bool) (K : Nat) (hK : 50 ≤ K) : ∀ (n i : Nat) (fl : List DB) (d : List Int), i + n = xs.length → okFl fl → d.length = 6 → ∃ fl' d', spec_l12To.l0 (K + n + 1) xs cut t (i : Int) fl d = some (fl', d') ∧ okFl fl' ∧ d'.length = 6
  | 0, i, fl, d, hi, h, hd => by
    rw [spec_l12To.l0, if_neg (by omega)]
    exact toEnd hx h hd cut t _ (by omega)
  | n + 1, i, fl, d, hi, h, hd => by
    have h7 := hx.2
    rw [show K + (n + 1) + 1 = (K + n + 1) + 1 from rfl, spec_l12To.l0, if_pos (by omega)]
    by_cases hc : (i : Int) < cut
    · obtain ⟨fl', d', e, h', hd'⟩ := stDoF h hd (hx.1 _ (rdS_in (show (0 : Int) ≤ i by omega) (by omega))) false (K + n + 1) (by omega)
      rw [if_pos hc, if_pos (by omega), e, Option.bind_some, upN i (by omega)]
      exact toL hx cut t K hK n (i + 1) fl' d' (by omega) h' hd'
    · rw [if_neg hc]
      exact toEnd hx h hd cut t _ (by omega)
theorem toF {xs : List DS} (hx : okSts xs 7) {fl : List DB} (h : okFl fl) {d : List Int} (hd : d.length = 6) (cut : Int) (t : Bool) (k : Nat) (hk : 60 ≤ k) : ∃ fl' d', spec_l12To.f k fl d xs cut t = some (fl', d') ∧ okFl fl' ∧ d'.length = 6 := by
  have h7 := hx.2
  have h1 := toL hx cut t (k - xs.length - 1) (by omega) xs.length 0 fl d (by omega) h hd
  rw [show k - xs.length - 1 + xs.length + 1 = k by omega] at h1
  exact h1
theorem allL (K : Nat) (hK : 60 ≤ K) : ∀ (n a : Nat) (fl : List DB) (d : List Int), a + n = 7 → okFl fl → d.length = 6 → ∃ fl' d', spec_l21All.l0 (K + n + 1) (a : Int) fl d = some (fl', d') ∧ okFl fl' ∧ d'.length = 6
  | 0, a, fl, d, ha, h, hd => by
    rw [spec_l21All.l0, if_neg (by omega)]
    exact ⟨_, _, rfl, h, hd⟩
  | n + 1, a, fl, d, ha, h, hd => by
    obtain ⟨xs, e, hx⟩ := flushF h hd (a : Int) (K + n + 1) (by omega)
    obtain ⟨fl', d', e2, h', hd'⟩ := toF hx h hd (xs.length : Int) false (K + n + 1) (by omega)
    rw [show K + (n + 1) + 1 = (K + n + 1) + 1 from rfl, spec_l21All.l0, if_pos (by omega), e, Option.bind_some, e2, Option.bind_some, upN a (by omega)]
    exact allL K hK n (a + 1) fl' d' (by omega) h' hd'
theorem plDoF {fl : List DB} (h : okFl fl) {d : List Int} (hd : d.length = 6) (kd a b c : Int) (t : Bool) (k : Nat) (hk : 80 ≤ k) : ∃ fl' d', spec_l21Do.f k fl d kd a b c t = some (fl', d') ∧ okFl fl' ∧ d'.length = 6 := by
  unfold spec_l21Do.f
  by_cases c1 : kd = 4
  · have h1 := allL (k - 7) (by omega) 6 1 fl d (by omega) h hd
    rw [show k - 7 + 6 + 1 = k by omega] at h1
    obtain ⟨fl', d', e, h', hd'⟩ := h1
    rw [if_pos c1, show spec_l21All.f k fl d = some (fl', d') from e, Option.bind_some]
    exact ⟨_, _, rfl, h', hd'⟩
  rw [if_neg c1]
  by_cases c2 : c < 0
  · rw [if_pos c2]
    exact ⟨_, _, rfl, h, hd⟩
  obtain ⟨xs, e, hx⟩ := stepsF h hd kd a b c t k (by omega)
  obtain ⟨fl', d', e2, h', hd'⟩ := toF hx h hd c t k (by omega)
  rw [if_neg c2, e, Option.bind_some, e2, Option.bind_some]
  exact ⟨_, _, rfl, h', hd'⟩
theorem newL (K : Nat) : ∀ (n i : Nat) (fl : List DB), i + n = 4 → fl.length = i → (∀ b ∈ fl, okBl b) → ∃ fl', spec_FlashNew.l0 (K + n + 1) fl (i : Int) = some fl' ∧ okFl fl'
  | 0, i, fl, hi, hl, h => by
    rw [spec_FlashNew.l0, if_neg (by omega)]
    exact ⟨_, rfl, by omega, h⟩
  | n + 1, i, fl, hi, hl, h => by
    rw [show K + (n + 1) + 1 = (K + n + 1) + 1 from rfl, spec_FlashNew.l0, if_pos (by omega), if_pos (by decide), if_pos (by omega), upN i (by omega)]
    refine newL K n (i + 1) _ (by omega) (by rw [List.length_append, List.length_singleton, hl]) (fun b hb => ?_)
    rcases List.mem_append.1 hb with hb | hb
    · exact h _ hb
    · rw [List.mem_singleton] at hb
      rw [hb]
      refine ⟨rfl, fun p hp hq => ?_⟩
      rw [List.eq_of_mem_replicate hp] at hq
      exact absurd hq (by show ¬ (0 : Int) = 1; decide)
theorem newF (k : Nat) (hk : 10 ≤ k) : ∃ fl d, spec_StoreNew.f k = some (fl, d) ∧ okFl fl ∧ d.length = 6 := by
  obtain ⟨fl, e, h⟩ := newL (k - 5) 4 0 [] (by omega) rfl (fun b hb => by cases hb)
  rw [show k - 5 + 4 + 1 = k by omega] at e
  unfold spec_StoreNew.f
  rw [show spec_FlashNew.f k = some fl from e, Option.bind_some, if_pos (by decide)]
  exact ⟨_, _, rfl, h, rfl⟩
theorem i64_xor_nat (a b : Nat) (ha : a < 4611686018427387904) (hb : b < 4611686018427387904) : bits .xor .i64 (a : Int) (b : Int) = ((a ^^^ b : Nat) : Int) := by
  have hx : a ^^^ b < 2 ^ 62 := Nat.xor_lt_two_pow (by omega) (by omega)
  show IntKind.i64.wrap ((BitVec.ofInt 64 (a : Int) ^^^ BitVec.ofInt 64 (b : Int)).toNat : Int) = _
  rw [BitVec.toNat_xor, ofInt_u64 a (by omega), ofInt_u64 b (by omega)]
  rw [IntKind.wrap_i64]
  omega
theorem i64_xor_pos {a b : Int} (h1 : 0 ≤ a) (h2 : a < 4611686018427387904) (h3 : 0 ≤ b) (h4 : b < 4611686018427387904) : 0 ≤ bits .xor .i64 a b := by
  obtain ⟨A, rfl⟩ := Int.eq_ofNat_of_zero_le h1
  obtain ⟨B, rfl⟩ := Int.eq_ofNat_of_zero_le h3
  rw [i64_xor_nat A B (by omega) (by omega)]
  omega
def Bytes (s : List Int) : Prop := ∀ x ∈ s, 0 ≤ x ∧ x ≤ 255
theorem rd_byte {s : List Int} (hb : Bytes s) (i : Int) : 0 ≤ rd s i ∧ rd s i ≤ 255 := by
  unfold rd
  rw [List.getD_eq_getElem?_getD]
  cases h : s[i.toNat]? with
  | none => simp
  | some v => simpa using hb v (List.mem_of_getElem? h)
theorem pick_ok (k : Nat) {s : List Int} {p n : Int} (hb : Bytes s) (hp : 0 ≤ p) (hp2 : p < 1000000) (hn : 1 ≤ n) (hn2 : n ≤ 1000000) :
    ∃ v, spec_l6Rd_pick.f (k + 1) s p n = some (v, p + 1) ∧ 0 ≤ v ∧ v < n := by
  have e1 : wrap64 (p + 1) = p + 1 := wrap64_in _ (by omega)
  have e2 : wrap64 (p + 1 - 1) = p := by rw [wrap64_in _ (by omega)]; omega
  unfold spec_l6Rd_pick.f
  rw [if_neg (by omega), e1, spec_l6Rd_pick.j0, e2]
  cases hs : ((s.length : Int) == 0) with
  | true => exact ⟨0, by simp, by omega, by omega⟩
  | false =>
    have hl : (s.length : Int) ≠ 0 := by simpa using hs
    have hl0 : 0 < (s.length : Int) := by omega
    rw [if_neg (by simp)]
    by_cases hc : p < (s.length : Int)
    · rw [if_pos hc, if_pos hp, if_neg (by omega)]
      have hr := rd_byte hb p
      rw [wrap64_in _ (by omega)]
      exact ⟨_, rfl, Int.tmod_nonneg _ hr.1, Int.tmod_lt_of_pos _ (by omega)⟩
    · have e3 : wrap64 (p * 7) = p * 7 := wrap64_in _ (by omega)
      have e4 : wrap64 (p * 7 + 3) = p * 7 + 3 := wrap64_in _ (by omega)
      rw [if_neg hc, if_neg hl, e3, e4, if_pos (Int.tmod_nonneg _ hp), if_pos (Int.tmod_lt_of_pos _ hl0), if_pos (Int.tmod_nonneg _ (by omega)), if_pos (Int.tmod_lt_of_pos _ hl0), if_neg (by omega)]
      refine ⟨_, rfl, ?_, Int.tmod_lt_of_pos _ (by omega)⟩
      apply Int.tmod_nonneg
      have r1 := rd_byte hb (Int.tmod p (s.length : Int))
      have r2 := rd_byte hb (Int.tmod (p * 7 + 3) (s.length : Int))
      have q1 : 0 ≤ Int.tdiv p (s.length : Int) := Int.tdiv_nonneg hp (by omega)
      have q2 : Int.tdiv p (s.length : Int) ≤ p := by
        rw [Int.tdiv_eq_ediv_of_nonneg hp]
        exact Int.ediv_le_self _ hp
      generalize rd s (Int.tmod p (s.length : Int)) = x at *
      generalize rd s (Int.tmod (p * 7 + 3) (s.length : Int)) = y at *
      generalize Int.tdiv p (s.length : Int) = q at *
      rw [wrap64_in x (by omega), wrap64_in y (by omega), wrap64_in q (by omega), wrap64_in (x * 131) (by omega), wrap64_in (y * 1117) (by omega), wrap64_in (p * 29) (by omega), wrap64_in (q * 53) (by omega), wrap64_in (x * 131 + y * 1117) (by omega), wrap64_in (x * 131 + y * 1117 + p * 29) (by omega), wrap64_in (x * 131 + y * 1117 + p * 29 + q * 53) (by omega)]
      have t0 : 0 ≤ x * 131 + y * 1117 + p * 29 + q * 53 := by omega
      rw [Int.tdiv_eq_ediv_of_nonneg t0, wrap64_in _ (by omega)]
      exact i64_xor_pos t0 (by omega) (by omega) (by omega)
theorem pickT {s : List Int} {p n : Int} (hb : Bytes s) (hp : 0 ≤ p) (hp2 : p < 1000000) (hn : 1 ≤ n) (hn2 : n ≤ 1000000) (k : Nat) (hk : 1 ≤ k) : ∃ v, spec_l6Rd_pick.f k s p n = some (v, p + 1) ∧ 0 ≤ v ∧ v < n := by
  obtain ⟨j, rfl⟩ : ∃ j, k = j + 1 := ⟨k - 1, by omega⟩
  exact pick_ok j hb hp hp2 hn hn2
theorem open_ok {l : List Int} (hb : Bytes l) : ∃ s, spec_l6Open.f l = some (s, 0) ∧ Bytes s := by
  unfold spec_l6Open.f
  by_cases h : (l.length : Int) > 2000
  · rw [if_pos h, if_pos (by omega)]
    exact ⟨_, rfl, fun x hx => hb x (List.mem_of_mem_take hx)⟩
  · rw [if_neg h]
    exact ⟨_, rfl, hb⟩
theorem rec_ok (k : Nat) {s : List Int} {p : Int} (hb : Bytes s) (hp : 0 ≤ p) (hp2 : p < 900000) :
    ∃ a b c d q, spec_l71Rec.f (k + 1) s p = some (a, b, c, d, q) ∧ 0 ≤ q ∧ q ≤ p + 10 := by
  obtain ⟨v1, h1, _, _⟩ := pick_ok k (n := 2) hb hp (by omega) (by omega) (by omega)
  obtain ⟨v2, h2, _, _⟩ := pick_ok k (p := p + 1) (n := 40) hb (by omega) (by omega) (by omega) (by omega)
  obtain ⟨v3, h3, _, _⟩ := pick_ok k (p := p + 1 + 1) (n := 6) hb (by omega) (by omega) (by omega) (by omega)
  obtain ⟨v4, h4, _, _⟩ := pick_ok k (p := p + 1 + 1 + 1) (n := 10) hb (by omega) (by omega) (by omega) (by omega)
  obtain ⟨v5, h5, _, _⟩ := pick_ok k (p := p + 1 + 1 + 1 + 1) (n := 20) hb (by omega) (by omega) (by omega) (by omega)
  obtain ⟨w1, g1, _, _⟩ := pick_ok k (p := p + 1 + 1 + 1 + 1 + 1) (n := 4) hb (by omega) (by omega) (by omega) (by omega)
  obtain ⟨w2, g2, _, _⟩ := pick_ok k (p := p + 1 + 1 + 1 + 1 + 1) (n := 3) hb (by omega) (by omega) (by omega) (by omega)
  obtain ⟨w3, g3, _, _⟩ := pick_ok k (p := p + 1 + 1 + 1 + 1 + 1) (n := 2) hb (by omega) (by omega) (by omega) (by omega)
  unfold spec_l71Rec.f
  simp only [h1, h2, h3, h4, h5, Option.bind_some]
  by_cases c0 : v5 = 0
  · rw [if_pos c0]
    simp only [g1, Option.bind_some]
    exact ⟨_, _, _, _, _, rfl, by omega, by omega⟩
  rw [if_neg c0]
  by_cases c1 : v5 = 1
  · rw [if_pos c1]
    simp only [g2, Option.bind_some]
    rw [if_pos (by omega), if_pos (by simp; omega)]
    exact ⟨_, _, _, _, _, rfl, by omega, by omega⟩
  rw [if_neg c1]
  by_cases c2 : v5 = 2
  · rw [if_pos c2]
    simp only [g3, Option.bind_some]
    rw [if_pos (by omega), if_pos (by simp; omega)]
    exact ⟨_, _, _, _, _, rfl, by omega, by omega⟩
  rw [if_neg c2]
  by_cases c3 : v5 = 3
  · rw [if_pos c3]
    simp only [g3, Option.bind_some]
    rw [if_pos (by omega), if_pos (by simp; omega)]
    exact ⟨_, _, _, _, _, rfl, by omega, by omega⟩
  rw [if_neg c3]
  exact ⟨_, _, _, _, _, rfl, by omega, by omega⟩
theorem bytes_of {l : List Int} (h : ∀ x ∈ l, (Lit.int .u8 x).wf = true) : Bytes l := fun x hx => by
  have := h x hx
  have h2 : (decide (0 ≤ x) && decide (x ≤ 255)) = true := this
  simpa using h2
theorem kd_ok (k : Nat) {s : List Int} {c p : Int} (hb : Bytes s) (hp : 0 ≤ p) (hp2 : p < 900000) : ∃ e q, spec_l71Event.kd (k + 1) s c p = some (e, q) ∧ 0 ≤ q ∧ q ≤ p + 1 := by
  obtain ⟨v, h, _, _⟩ := pick_ok k (n := 3) hb hp (by omega) (by omega) (by omega)
  unfold spec_l71Event.kd
  split
  · exact ⟨_, _, rfl, by omega, by omega⟩
  split
  · exact ⟨_, _, rfl, by omega, by omega⟩
  split
  · rw [h, Option.bind_some]
    exact ⟨_, _, rfl, by omega, by omega⟩
  · exact ⟨_, _, rfl, by omega, by omega⟩
theorem event_ok (k : Nat) {s : List Int} {p : Int} (hb : Bytes s) (hp : 0 ≤ p) (hp2 : p < 700000) :
    ∃ a b c d e q, spec_l71Event.f (k + 3) s p = some (a, b, c, d, e, q) ∧ 0 ≤ q ∧ q ≤ p + 8 := by
  obtain ⟨v1, h1, _, _⟩ := pick_ok (k + 2) (n := 6) hb hp (by omega) (by omega) (by omega)
  obtain ⟨v2, h2, _, _⟩ := pick_ok (k + 2) (p := p + 1) (n := 10) hb (by omega) (by omega) (by omega) (by omega)
  obtain ⟨v3, h3, _, _⟩ := pick_ok (k + 2) (p := p + 1 + 1) (n := 12) hb (by omega) (by omega) (by omega) (by omega)
  obtain ⟨e, q, h4, q0, q1⟩ := kd_ok (k + 2) (c := v3) (p := p + 1 + 1 + 1) hb (by omega) (by omega)
  obtain ⟨v5, h5, _, _⟩ := pick_ok (k + 2) (p := q) (n := 4) hb (by omega) (by omega) (by omega) (by omega)
  obtain ⟨v6, h6, _, _⟩ := pick_ok (k + 2) (p := q + 1) (n := 5) hb (by omega) (by omega) (by omega) (by omega)
  obtain ⟨v7, h7, _, _⟩ := pick_ok (k + 2) (p := q + 1 + 1) (n := 3) hb (by omega) (by omega) (by omega) (by omega)
  unfold spec_l71Event.f
  simp only [h1, h2, h3, h4, h5, h6, h7, Option.bind_some]
  split
  · exact ⟨_, _, _, _, _, _, rfl, by omega, by omega⟩
  · exact ⟨_, _, _, _, _, _, rfl, by omega, by omega⟩
theorem playL {s : List Int} (hb : Bytes s) (K : Nat) (hK : 100 ≤ K) : ∀ (n : Nat) (ev : List S74) (p : Int) (fl : List DB) (d : List Int), ev.length + n ≤ 100 → 0 ≤ p → p + 8 * (n : Int) ≤ 9000 → okFl fl → d.length = 6 →
    ∃ ev' fl' d' q, spec_l71Play.l0 (K + n + 1) ev (n : Int) s p fl d = some (ev', fl', d', q) ∧ okFl fl' ∧ d'.length = 6 ∧ 0 ≤ q ∧ q ≤ 9000
  | 0, ev, p, fl, d, he, hp, hp2, h, hd => by
    rw [spec_l71Play.l0, if_neg (by omega)]
    exact ⟨_, _, _, _, rfl, h, hd, hp, by omega⟩
  | n + 1, ev, p, fl, d, he, hp, hp2, h, hd => by
    obtain ⟨a, b, c, e, t, q, hq, q1, q2⟩ := event_ok (K + n - 2) hb hp (by omega)
    rw [show K + n - 2 + 3 = K + n + 1 by omega] at hq
    obtain ⟨fl', d', e2, h', hd'⟩ := plDoF h hd a b c e t (K + n + 1) (by omega)
    have e3 : wrap64 (((n + 1 : Nat) : Int) - 1) = (n : Int) := by rw [wrap64_in _ (by omega)]; omega
    rw [show K + (n + 1) + 1 = (K + n + 1) + 1 from rfl, spec_l71Play.l0, if_pos (by omega), hq]
    simp only [Option.bind_some]
    rw [if_pos (by omega), e2]
    simp only [Option.bind_some]
    rw [e3]
    exact playL hb K hK n _ q fl' d' (by rw [List.length_append, List.length_singleton]; omega) q1 (by omega) h' hd'
theorem play_ok {s : List Int} (hb : Bytes s) (k : Nat) (hk : 200 ≤ k) : ∃ ev fl d q, spec_l71Play.f k s 0 = some (ev, fl, d, q) ∧ okFl fl ∧ d.length = 6 ∧ 0 ≤ q ∧ q ≤ 9000 := by
  obtain ⟨fl, d, e, h, hd⟩ := newF k (by omega)
  obtain ⟨v, h1, hv0, hv1⟩ := pick_ok (k - 1) (n := 58) hb (show (0 : Int) ≤ 0 by omega) (by omega) (by omega) (by omega)
  obtain ⟨n, rfl⟩ := Int.eq_ofNat_of_zero_le hv0
  rw [show k - 1 + 1 = k by omega] at h1
  have h2 := playL hb (k - n - 1) (by omega) n [] (0 + 1) fl d (by simp; omega) (by omega) (by omega) h hd
  rw [show k - n - 1 + n + 1 = k by omega] at h2
  unfold spec_l71Play.f
  rw [e]
  simp only [Option.bind_some]
  rw [h1]
  simp only [Option.bind_some]
  exact h2
theorem flash_ok {s : List Int} (hb : Bytes s) (k : Nat) (hk : 200 ≤ k) : ∃ fl q, spec_l71Flash.f k s 0 = some (fl, q) ∧ 0 ≤ q ∧ q ≤ 9100 := by
  obtain ⟨ev, fl, d, p, e, h, hd, hp0, hp1⟩ := play_ok hb k hk
  obtain ⟨k, rfl⟩ : ∃ j, k = j + 1 := ⟨k - 1, by omega⟩
  have P := fun (p : Int) (n : Int) (h1 : 0 ≤ p) (h2 : p < 10000) (h3 : 1 ≤ n) (h4 : n ≤ 100) => pick_ok k (p := p) (n := n) hb h1 (by omega) h3 (by omega)
  obtain ⟨v, h1, hv0, hv1⟩ := P p 20 hp0 (by omega) (by omega) (by omega)
  have hl : (fl.length : Int) = 4 := by rw [h.1]; rfl
  unfold spec_l71Flash.f
  rw [e]
  simp only [Option.bind_some]
  rw [h1]
  simp only [Option.bind_some]
  obtain ⟨i, g3, hi0, hi1⟩ := P (p + 1) 4 (by omega) (by omega) (by omega) (by omega)
  obtain ⟨j, g4, hj0, hj1⟩ := P (p + 1 + 1) 4 (by omega) (by omega) (by omega) (by omega)
  obtain ⟨w, g5, hw0, hw1⟩ := P (p + 1 + 1) 3 (by omega) (by omega) (by omega) (by omega)
  obtain ⟨st, g6, hs0, hs1⟩ := P (p + 1 + 1 + 1) 4 (by omega) (by omega) (by omega) (by omega)
  obtain ⟨a, b, c, e2, q, g7, hq0, hq1⟩ := rec_ok k hb (show 0 ≤ p + 1 + 1 + 1 + 1 by omega) (by omega)
  have hB := okAt h hi0 hi1
  unfold spec_l71Flash.g
  rw [hl, g3]
  simp only [Option.bind_some]
  rw [g4, g5]
  simp only [Option.bind_some]
  rw [g6]
  simp only [Option.bind_some]
  rw [g7]
  simp only [Option.bind_some]
  split
  · rw [if_pos ⟨hi0, hi1, hj0, by rw [hB.1]; exact hj1⟩]
    exact ⟨_, _, rfl, by omega, by omega⟩
  split
  · rw [if_pos ⟨hi0, hi1, hw0, hw1⟩]
    exact ⟨_, _, rfl, by omega, by omega⟩
  split
  · rw [if_pos (by omega)]
    exact ⟨_, _, rfl, by omega, by omega⟩
  split
  · rw [if_pos ⟨hi0, hi1, by rw [hB.1]; decide⟩]
    exact ⟨_, _, rfl, by omega, by omega⟩
  · exact ⟨_, _, rfl, by omega, by omega⟩
theorem rdB_cons {b : S33} {bs : List S33} (j : Nat) : rd_T33 (b :: bs) ((j + 1 : Nat) : Int) = rd_T33 bs (j : Int) := by
  unfold rd_T33
  rw [Int.toNat_natCast, Int.toNat_natCast]
  rfl
theorem blocksB_all : ∀ (l : List S33) (S : List Int), blocksB l S = true → ∀ j : Nat, j < l.length → blockB (rd_T33 l (j : Int)) = true
  | [], _, _, j, hj => by cases hj
  | b :: bs, S, h, j, hj => by
    rw [blocksB, Bool.and_eq_true] at h
    obtain ⟨h1, h2⟩ := h
    cases j with
    | zero => exact h1
    | succ j =>
      rw [rdB_cons]
      cases hp : pagesB b.f0 S with
      | none => rw [hp] at h2; cases h2
      | some S' =>
        rw [hp] at h2
        exact blocksB_all bs S' h2 j (by simpa using hj)
theorem flash_len {l : List S33} (h : flashOkB l = true) : l.length = 4 := by
  unfold flashOkB at h
  rw [Bool.and_eq_true, decide_eq_true_eq] at h
  omega
theorem flash_block {l : List S33} (h : flashOkB l = true) (j : Nat) (hj : j < 4) : (rd_T33 l (j : Int)).f0.length = 4 ∧ 0 ≤ (rd_T33 l (j : Int)).f1 ∧ (rd_T33 l (j : Int)).f1 ≤ 200 ∧ shapeB (rd_T33 l (j : Int)).f0 false = true := by
  have hl := flash_len h
  unfold flashOkB at h
  rw [Bool.and_eq_true] at h
  have := blocksB_all l [] h.2 j (by omega)
  unfold blockB at this
  rw [Bool.and_eq_true, decide_eq_true_eq] at this
  exact ⟨by omega, this.1.2.1, this.1.2.2, this.2⟩
theorem dropP_cons {l : List S30} {i : Nat} (h : i < l.length) : l.drop i = rd_T30 l (i : Int) :: l.drop (i + 1) := by
  rw [List.drop_eq_getElem_cons h]
  simp [rd_T30, List.getD_eq_getElem?_getD, h]
theorem pages_spotsB (i : Nat) : ∀ (j : Nat) (ps : List S30), (spotsB i j ps).map (·.2.2) = ps
  | _, [] => rfl
  | j, p :: ps => by rw [spotsB, List.map_cons, pages_spotsB i (j + 1) ps]
theorem pagesL_flat : ∀ (i : Nat) (l : List S33), (spotsF i l).map (·.2.2) = l.flatMap (·.f0)
  | _, [] => rfl
  | i, b :: bs => by rw [spotsF, List.map_append, pages_spotsB, pagesL_flat (i + 1) bs, List.flatMap_cons]
theorem pagesB_all : ∀ (ps : List S30) (S S' : List Int), pagesB ps S = some S' → ∀ p ∈ ps, pageB p = true
  | [], _, _, _, _, h => by cases h
  | p :: ps, S, S', h, q, hq => by
    rw [pagesB] at h
    by_cases hp : pageB p = true
    · rw [if_pos hp] at h
      rcases List.mem_cons.1 hq with rfl | hq
      · exact hp
      · by_cases h1 : p.f0 = 1
        · rw [if_pos h1] at h
          by_cases hm : p.f1.f1 ∈ S
          · rw [if_pos hm] at h; cases h
          · rw [if_neg hm] at h; exact pagesB_all ps _ _ h q hq
        · rw [if_neg h1] at h; exact pagesB_all ps _ _ h q hq
    · rw [if_neg hp] at h; cases h
theorem blocksB_pages : ∀ (l : List S33) (S : List Int), blocksB l S = true → ∀ b ∈ l, ∀ p ∈ b.f0, pageB p = true
  | [], _, _, _, h, _, _ => by cases h
  | b :: bs, S, h, c, hc, p, hp => by
    rw [blocksB, Bool.and_eq_true] at h
    cases he : pagesB b.f0 S with
    | none => rw [he] at h; exact absurd h.2 (by simp)
    | some S' =>
      rw [he] at h
      rcases List.mem_cons.1 hc with rfl | hc
      · exact pagesB_all _ _ _ he p hp
      · exact blocksB_pages bs S' h.2 c hc p hp
theorem flash_pages {l : List S33} (h : flashOkB l = true) : ∀ b ∈ l, ∀ p ∈ b.f0, pageB p = true := by
  unfold flashOkB at h
  rw [Bool.and_eq_true] at h
  exact blocksB_pages l [] h.2
theorem page_written {p : S30} (h : pageB p = true) (h1 : p.f0 = 1) : (p.f1.f0 = 1 ∨ p.f1.f0 = 2) ∧ 1 ≤ p.f1.f1 ∧ p.f1.f1 ≤ 600 ∧ 1 ≤ p.f1.f2 ∧ p.f1.f2 ≤ 6 ∧ 0 ≤ p.f1.f3 ∧ p.f1.f3 ≤ 9 := by
  unfold pageB at h
  rw [if_pos h1] at h
  unfold recOkB at h
  simp only [decide_eq_true_eq] at h
  omega
theorem page_other {p : S30} (h : pageB p = true) (h1 : p.f0 ≠ 1) : p.f1.f0 = 0 ∧ p.f1.f1 = 0 ∧ p.f1.f2 = 0 ∧ p.f1.f3 = 0 := by
  unfold pageB at h
  rw [if_neg h1] at h
  split at h
  · simp only [Bool.and_eq_true, beq_iff_eq] at h
    exact h
  · cases h
theorem page_seq {p : S30} (h : pageB p = true) : 0 ≤ p.f1.f1 ∧ p.f1.f1 ≤ 600 := by
  by_cases h1 : p.f0 = 1
  · have := page_written h h1
    omega
  · have := page_other h h1
    omega
theorem dropB_cons {l : List S33} {i : Nat} (h : i < l.length) : l.drop i = rd_T33 l (i : Int) :: l.drop (i + 1) := by
  rw [List.drop_eq_getElem_cons h]
  simp [rd_T33, List.getD_eq_getElem?_getD, h]
theorem rdB_mem {l : List S33} {i : Nat} (h : i < l.length) : rd_T33 l (i : Int) ∈ l := by
  simp [rd_T33, List.getD_eq_getElem?_getD, h]
theorem rdP_mem {l : List S30} {i : Nat} (h : i < l.length) : rd_T30 l (i : Int) ∈ l := by
  simp [rd_T30, List.getD_eq_getElem?_getD, h]
def mostP (m : Int) (ps : List S30) : Int := ps.foldl (fun m p => mx m p.f1.f1) m
theorem mostP_cons (m : Int) (p : S30) (ps : List S30) : mostP m (p :: ps) = mostP (mx m p.f1.f1) ps := rfl
theorem mostP_shift : ∀ (ps : List S30) (m : Int), 0 ≤ m → (∀ p ∈ ps, 0 ≤ p.f1.f1) → mostP m ps = mx m (mostP 0 ps) ∧ 0 ≤ mostP 0 ps
  | [], m, hm, _ => by
    show m = mx m 0 ∧ (0 : Int) ≤ 0
    exact ⟨by unfold mx; rw [if_neg (by omega)], by omega⟩
  | p :: ps, m, hm, h => by
    have hp := h p (by simp)
    have hr : ∀ q ∈ ps, 0 ≤ q.f1.f1 := fun q hq => h q (by simp [hq])
    have h1 := (mostP_shift ps (mx m p.f1.f1) (by unfold mx; split <;> omega) hr).1
    have h2 := mostP_shift ps (mx 0 p.f1.f1) (by unfold mx; split <;> omega) hr
    rw [mostP_cons, mostP_cons, h1, h2.1]
    have h3 := h2.2
    generalize mostP 0 ps = y at *
    unfold mx
    constructor
    · repeat' split
      all_goals omega
    · repeat' split
      all_goals omega
theorem most_loop (l : List S30) (b : Int) (hl : l.length ≤ 1048576) (K : Nat) : ∀ (n i : Nat) (m : Int), i + n = l.length → spec_l3Most.l0 (K + n + 1) m (i : Int) l b = some (mostP m (l.drop i))
  | 0, i, m, h => by
    rw [spec_l3Most.l0, if_neg (by omega), List.drop_eq_nil_of_le (by omega)]
    rfl
  | n + 1, i, m, h => by
    have ih := fun m => most_loop l b hl K n (i + 1) m (by omega)
    have e1 : wrap64 ((i : Int) + 1) = ((i + 1 : Nat) : Int) := by rw [wrap64_in _ (by omega)]; omega
    rw [dropP_cons (by omega : i < l.length), mostP_cons, spec_l3Most.l0, if_pos (by omega), if_pos (by omega), e1]
    exact ih _
theorem l3Most_ok (l : List S30) (b : Int) (hl : l.length ≤ 1048576) (k : Nat) (hk : l.length < k) : spec_l3Most.f k l b = some (mostP 0 l) := by
  have := most_loop l b hl (k - l.length - 1) l.length 0 0 (by omega)
  rw [show k - l.length - 1 + l.length + 1 = k by omega, List.drop_zero] at this
  exact this
theorem stepNext_most : ∀ (ps : List S30) (m : Int), 0 ≤ m → (∀ p ∈ ps, pageB p = true) → ps.foldl stepNext m = mostP m ps
  | [], _, _, _ => rfl
  | p :: ps, m, hm, h => by
    have hp := page_seq (h p (by simp))
    have hr : ∀ q ∈ ps, pageB q = true := fun q hq => h q (by simp [hq])
    have e : stepNext m p = mx m p.f1.f1 := by
      unfold stepNext
      by_cases h1 : p.f0 = 1
      · rw [if_pos h1]
      · rw [if_neg h1, (page_other (h p (by simp)) h1).2.1]
        unfold mx
        split <;> omega
    rw [List.foldl_cons, mostP_cons, e]
    exact stepNext_most ps _ (by unfold mx; split <;> omega) hr
def nextV (l : List S33) : Int := if flashOkB l = true then wrap64 (mostP 0 (l.flatMap (·.f0)) + 1) else 0
theorem implNext_ok (l : List S33) : impl_FindNext.f l = some (nextV l) := by
  unfold impl_FindNext.f nextV pagesL
  cases hf : flashOkB l with
  | false => rfl
  | true =>
    rw [if_pos rfl, if_pos rfl, pagesL_flat, stepNext_most _ _ (by omega) (fun p hp => by
      obtain ⟨b, hb, hp⟩ := List.mem_flatMap.1 hp
      exact flash_pages hf b hb p hp)]
theorem next_loop (l : List S33) (hl : l.length = 4) (hb : ∀ j : Nat, j < 4 → (rd_T33 l (j : Int)).f0.length = 4) (hp : ∀ b ∈ l, ∀ p ∈ b.f0, 0 ≤ p.f1.f1) (K : Nat) (hK : 4 < K) : ∀ (n i : Nat) (m : Int), i + n = 4 → 0 ≤ m →
    spec_l3Next.l0 (K + n + 1) l m (i : Int) = some (wrap64 (mostP m ((l.drop i).flatMap (·.f0)) + 1))
  | 0, i, m, h, _ => by
    rw [spec_l3Next.l0, if_neg (by omega), List.drop_eq_nil_of_le (by omega)]
    rfl
  | n + 1, i, m, h, hm => by
    have e1 : wrap64 ((i : Int) + 1) = ((i + 1 : Nat) : Int) := by rw [wrap64_in _ (by omega)]; omega
    have hbi := hb i (by omega)
    have hps : ∀ p ∈ (rd_T33 l (i : Int)).f0, 0 ≤ p.f1.f1 := hp _ (rdB_mem (by omega))
    have hsh := mostP_shift _ m hm hps
    rw [spec_l3Next.l0, if_pos (by omega), if_pos (by omega), l3Most_ok _ _ (by omega) _ (by omega), Option.bind_some, e1, dropB_cons (by omega : i < l.length), List.flatMap_cons]
    have ih := next_loop l hl hb hp K hK n (i + 1) (mx m (mostP 0 (rd_T33 l (i : Int)).f0)) (by omega) (by unfold mx; split <;> omega)
    rw [show K + (n + 1) = K + n + 1 by omega, ih, ← hsh.1]
    unfold mostP
    rw [List.foldl_append]
theorem specNext_ok (l : List S33) (k : Nat) (hk : 100 < k) : spec_FindNext.f k l = some (nextV l) := by
  unfold spec_FindNext.f spec_FlashOk.f nextV
  rw [Option.bind_some]
  cases hf : flashOkB l with
  | false => rw [if_neg (by simp), if_neg (by simp)]
  | true =>
    have := next_loop l (flash_len hf) (fun j hj => (flash_block hf j hj).1) (fun b hb p hp => (page_seq (flash_pages hf b hb p hp)).1) (k - 5) (by omega) 4 0 0 (by omega) (by omega)
    rw [show k - 5 + 4 + 1 = k by omega, List.drop_zero] at this
    rw [if_pos rfl, if_pos rfl]
    unfold spec_l3Next.f
    have this2 : spec_l3Next.l0 k l 0 0 = _ := this
    rw [this2, Option.bind_some]
def freeN : List S30 → Nat
  | [] => 0
  | p :: ps => (if p.f0 = 0 then 1 else 0) + freeN ps
theorem freeN_le : ∀ ps : List S30, freeN ps ≤ ps.length
  | [] => Nat.le_refl _
  | p :: ps => by
    have := freeN_le ps
    rw [freeN, List.length_cons]
    split <;> omega
theorem clean_loop (l : List S30) (b : Int) (hl : l.length ≤ 1048576) (K : Nat) : ∀ (n i m : Nat), i + n = l.length → m ≤ i →
    spec_l2Clean.l0 (K + n + 1) (m : Int) (i : Int) l b = some ((m + freeN (l.drop i) : Nat) : Int) ∧
    impl_freePages.l0 (K + n + 1) (m : Int) l (l.length : Int) (i : Int) = some ((m + freeN (l.drop i) : Nat) : Int)
  | 0, i, m, h, hm => by
    rw [spec_l2Clean.l0, impl_freePages.l0, if_neg (by omega), if_neg (by omega), List.drop_eq_nil_of_le (by omega)]
    exact ⟨rfl, rfl⟩
  | n + 1, i, m, h, hm => by
    have ih1 := clean_loop l b hl K n (i + 1) (m + 1) (by omega) (by omega)
    have ih2 := clean_loop l b hl K n (i + 1) m (by omega) (by omega)
    have e1 : wrap64 ((i : Int) + 1) = ((i + 1 : Nat) : Int) := by rw [wrap64_in _ (by omega)]; omega
    have e2 : wrap64 ((m : Int) + 1) = ((m + 1 : Nat) : Int) := by rw [wrap64_in _ (by omega)]; omega
    rw [dropP_cons (by omega : i < l.length), freeN]
    refine ⟨?_, ?_⟩
    · rw [spec_l2Clean.l0, if_pos (by omega), if_pos (by omega), e1, e2]
      by_cases hs : (rd_T30 l (i : Int)).f0 = 0
      · rw [if_pos hs, if_pos hs, show m + (1 + freeN (l.drop (i + 1))) = m + 1 + freeN (l.drop (i + 1)) by omega]
        exact ih1.1
      · rw [if_neg hs, if_neg hs, Nat.zero_add]
        exact ih2.1
    · rw [impl_freePages.l0, if_pos (by omega), if_pos (by omega), if_pos (by omega), e1, e2]
      by_cases hs : (rd_T30 l (i : Int)).f0 = 0
      · rw [if_pos hs, if_pos hs, show m + (1 + freeN (l.drop (i + 1))) = m + 1 + freeN (l.drop (i + 1)) by omega]
        exact ih1.2
      · rw [if_neg hs, if_neg hs, Nat.zero_add]
        exact ih2.2
theorem l2Clean_ok (l : List S30) (b : Int) (hl : l.length ≤ 1048576) (k : Nat) (hk : l.length < k) : spec_l2Clean.f k l b = some ((freeN l : Nat) : Int) := by
  have := (clean_loop l b hl (k - l.length - 1) l.length 0 0 (by omega) (by omega)).1
  rw [show k - l.length - 1 + l.length + 1 = k by omega, List.drop_zero, Nat.zero_add] at this
  exact this
theorem freePages_ok (l : List S30) (b : Int) (hl : l.length ≤ 1048576) (k : Nat) (hk : l.length < k) : impl_freePages.f k l b = some ((freeN l : Nat) : Int) := by
  have := (clean_loop l b hl (k - l.length - 1) l.length 0 0 (by omega) (by omega)).2
  rw [show k - l.length - 1 + l.length + 1 = k by omega, List.drop_zero, Nat.zero_add] at this
  exact this
def clN (l : List S33) (i : Nat) : Nat := freeN (rd_T33 l (i : Int)).f0
def partL (l : List S33) : Nat → Nat → Option Nat
  | 0, _ => none
  | n + 1, i => if 0 < clN l i ∧ clN l i < 4 then some i else partL l n (i + 1)
def bestL (l : List S33) : Nat → Nat → Int → Int
  | 0, _, o => o
  | n + 1, i, o => if clN l i = 4 ∧ (o < 0 ∨ (rd_T33 l (i : Int)).f1 < (rd_T33 l o).f1) then bestL l n (i + 1) (i : Int) else bestL l n (i + 1) o
def openE (o : Int) : Int × Bool := (mx o 0, decide (o ≥ 0))
def openV (l : List S33) (n i : Nat) (o : Int) : Int × Bool := match partL l n i with
  | some j => ((j : Int), true)
  | none => openE (bestL l n i o)
theorem cl_le (l : List S33) (hp : ∀ j : Nat, j < 4 → (rd_T33 l (j : Int)).f0.length = 4) {i : Nat} (hi : i < 4) : clN l i ≤ 4 := by
  have := freeN_le (rd_T33 l (i : Int)).f0
  have := hp i hi
  unfold clN
  omega
section
variable (l : List S33) (hl : l.length = 4) (hp : ∀ j : Nat, j < 4 → (rd_T33 l (j : Int)).f0.length = 4)
include hl hp
theorem specOpen_loop (K : Nat) (hK : 4 < K) : ∀ (n i : Nat) (o : Int), i + n = 4 → -1 ≤ o → o < i → spec_l3Open.l0 (K + 2 * n + 1) l o i = some (openV l n i o)
  | 0, i, o, h, _, _ => by
    rw [spec_l3Open.l0, if_neg (by omega)]
    rfl
  | n + 1, i, o, h, ho, ho2 => by
    have hi : i < 4 := by omega
    have hc := cl_le l hp hi
    have e1 : wrap64 ((i : Int) + 1) = ((i + 1 : Nat) : Int) := by rw [wrap64_in _ (by omega)]; omega
    have ih1 := specOpen_loop K hK n (i + 1) (i : Int) (by omega) (by omega) (by omega)
    have ih2 := specOpen_loop K hK n (i + 1) o (by omega) (by omega) (by omega)
    have hpi := hp i hi
    rw [show K + 2 * (n + 1) + 1 = K + 2 * n + 2 + 1 by omega, spec_l3Open.l0, if_pos (by omega), if_pos (by omega), l2Clean_ok _ _ (by omega) _ (by omega), Option.bind_some]
    show (if ((clN l i : Nat) : Int) > 0 then spec_l3Open.j1 (K + 2 * n + 2) l o i (clN l i : Nat) (decide (((clN l i : Nat) : Int) < 4)) else spec_l3Open.j1 (K + 2 * n + 2) l o i (clN l i : Nat) false) = _
    unfold openV
    rw [partL]
    by_cases h0 : 0 < clN l i
    · rw [if_pos (by omega)]
      by_cases h4 : clN l i < 4
      · rw [decide_eq_true (by omega : ((clN l i : Nat) : Int) < 4), if_pos ⟨h0, h4⟩, show K + 2 * n + 2 = K + 2 * n + 1 + 1 by omega, spec_l3Open.j1, if_pos rfl]
      · have h44 : clN l i = 4 := by omega
        rw [decide_eq_false (by omega : ¬ ((clN l i : Nat) : Int) < 4), if_neg (fun h => h4 h.2), show K + 2 * n + 2 = K + 2 * n + 1 + 1 by omega, spec_l3Open.j1, if_neg (by simp), if_pos (by omega), bestL, e1]
        by_cases hn : o < 0
        · rw [if_pos hn, if_pos ⟨h44, Or.inl hn⟩]
          exact ih1
        · rw [if_neg hn, if_pos (by omega), if_pos (by omega), if_pos (by omega), if_pos (by omega)]
          by_cases hw : (rd_T33 l (i : Int)).f1 < (rd_T33 l o).f1
          · rw [if_pos hw, if_pos ⟨h44, Or.inr hw⟩]
            exact ih1
          · rw [if_neg hw, if_neg (fun h => h.2.elim hn hw)]
            exact ih2
    · rw [if_neg (by omega), if_neg (fun h => h0 h.1), show K + 2 * n + 2 = K + 2 * n + 1 + 1 by omega, spec_l3Open.j1, if_neg (by simp), if_neg (by omega), bestL, if_neg (fun h => by omega), e1]
      exact ih2
theorem implBest_loop (K : Nat) (hK : 4 < K) : ∀ (n i : Nat) (o : Int), i + n = 4 → -1 ≤ o → o < i → impl_FindOpen.l1 (K + n + 1) l (mx o 0) (decide (o ≥ 0)) l (l.length : Int) i = some (openE (bestL l n i o))
  | 0, i, o, h, _, _ => by
    rw [impl_FindOpen.l1, if_neg (by omega)]
    rfl
  | n + 1, i, o, h, ho, ho2 => by
    have hi : i < 4 := by omega
    have hc := cl_le l hp hi
    have e1 : wrap64 ((i : Int) + 1) = ((i + 1 : Nat) : Int) := by rw [wrap64_in _ (by omega)]; omega
    have hpi := hp i hi
    have ih1 := implBest_loop K hK n (i + 1) (i : Int) (by omega) (by omega) (by omega)
    have ih2 := implBest_loop K hK n (i + 1) o (by omega) (by omega) (by omega)
    rw [show mx (i : Int) 0 = (i : Int) from by unfold mx; omega, decide_eq_true (by omega : (i : Int) ≥ 0)] at ih1
    rw [impl_FindOpen.l1, if_pos (by omega), if_pos (by omega), if_pos (by omega), freePages_ok _ _ (by omega) _ (by omega), Option.bind_some, e1, bestL]
    show (if ((clN l i : Nat) : Int) = 4 then _ else _) = _
    by_cases h4 : clN l i = 4
    · rw [if_pos (by omega)]
      by_cases hn : o < 0
      · rw [decide_eq_false (by omega : ¬ o ≥ 0), if_neg (by simp), if_pos ⟨h4, Or.inl hn⟩]
        exact ih1
      · have em : mx o 0 = o := by unfold mx; omega
        rw [decide_eq_true (by omega : o ≥ 0), if_pos rfl, em, if_pos (by omega), if_pos (by omega)]
        rw [decide_eq_true (by omega : o ≥ 0), em] at ih2
        by_cases hw : (rd_T33 l (i : Int)).f1 < (rd_T33 l o).f1
        · rw [if_pos hw, if_pos ⟨h4, Or.inr hw⟩]
          exact ih1
        · rw [if_neg hw, if_neg (fun h => h.2.elim hn hw)]
          exact ih2
    · rw [if_neg (by omega), if_neg (fun h => h4 h.1)]
      exact ih2
theorem implOpen_loop (K : Nat) (hK : 10 < K) : ∀ (n i : Nat), i + n = 4 → impl_FindOpen.l0 (K + n + 1) l l (l.length : Int) i = some (match partL l n i with | some j => ((j : Int), true) | none => openE (bestL l 4 0 (-1)))
  | 0, i, h => by
    have hb := implBest_loop l hl hp (K - 5) (by omega) 4 0 (-1) (by omega) (by omega) (by omega)
    rw [show K - 5 + 4 + 1 = K by omega] at hb
    rw [impl_FindOpen.l0, if_neg (by omega), partL]
    exact hb
  | n + 1, i, h => by
    have hi : i < 4 := by omega
    have hc := cl_le l hp hi
    have e1 : wrap64 ((i : Int) + 1) = ((i + 1 : Nat) : Int) := by rw [wrap64_in _ (by omega)]; omega
    have hpi := hp i hi
    have ih := implOpen_loop K hK n (i + 1) (by omega)
    rw [impl_FindOpen.l0, if_pos (by omega), if_pos (by omega), if_pos (by omega), e1, partL]
    unfold impl_partlyUsed.f
    rw [freePages_ok _ _ (by omega) _ (by omega), Option.bind_some]
    show ((if ((clN l i : Nat) : Int) > 0 then some (decide (((clN l i : Nat) : Int) < 4)) else some false).bind _) = _
    by_cases h0 : 0 < clN l i
    · rw [if_pos (by omega), Option.bind_some]
      by_cases h4 : clN l i < 4
      · rw [decide_eq_true (by omega : ((clN l i : Nat) : Int) < 4), if_pos rfl, if_pos ⟨h0, h4⟩]
      · rw [decide_eq_false (by omega : ¬ ((clN l i : Nat) : Int) < 4), if_neg (by simp), if_neg (fun h => h4 h.2)]
        exact ih
    · rw [if_neg (by omega), Option.bind_some, if_neg (by simp), if_neg (fun h => h0 h.1)]
      exact ih
end
def openR (l : List S33) : Int × Bool := if flashOkB l = true then openV l 4 0 (-1) else (0, false)
theorem implFindOpen_ok (l : List S33) (k : Nat) (hk : 100 < k) : impl_FindOpen.f k l = some (openR l) := by
  unfold impl_FindOpen.f impl_FlashOk.f openR
  rw [Option.bind_some]
  cases hf : flashOkB l with
  | false => rw [if_neg (by simp), if_neg (by simp)]
  | true =>
    rw [if_pos rfl, if_pos rfl]
    have := implOpen_loop l (flash_len hf) (fun j hj => (flash_block hf j hj).1) (k - 5) (by omega) 4 0 (by omega)
    rw [show k - 5 + 4 + 1 = k by omega] at this
    exact this
theorem part_some (l : List S33) : ∀ (n i j : Nat), partL l n i = some j → i ≤ j ∧ j < i + n ∧ (0 < clN l j ∧ clN l j < 4) ∧ ∀ m, i ≤ m → m < j → ¬ (0 < clN l m ∧ clN l m < 4)
  | 0, i, j, h => by cases h
  | n + 1, i, j, h => by
    rw [partL] at h
    by_cases hc : 0 < clN l i ∧ clN l i < 4
    · rw [if_pos hc] at h
      cases h
      exact ⟨Nat.le_refl _, by omega, hc, fun m h1 h2 => by omega⟩
    · rw [if_neg hc] at h
      obtain ⟨h1, h2, h3, h4⟩ := part_some l n (i + 1) j h
      refine ⟨by omega, by omega, h3, fun m g1 g2 => ?_⟩
      by_cases hm : m = i
      · rw [hm]
        exact hc
      · exact h4 m (by omega) g2
theorem part_none (l : List S33) : ∀ (n i : Nat), partL l n i = none → ∀ m, i ≤ m → m < i + n → ¬ (0 < clN l m ∧ clN l m < 4)
  | 0, i, h, m, h1, h2 => by omega
  | n + 1, i, h, m, h1, h2 => by
    rw [partL] at h
    by_cases hc : 0 < clN l i ∧ clN l i < 4
    · rw [if_pos hc] at h
      cases h
    · rw [if_neg hc] at h
      by_cases hm : m = i
      · rw [hm]
        exact hc
      · exact part_none l n (i + 1) h m (by omega) (by omega)
def wornL (l : List S33) (o : Int) : Int := (rd_T33 l o).f1
def BestOf (l : List S33) (i : Nat) (o : Int) : Prop := -1 ≤ o ∧ o < 4 ∧ (0 ≤ o → clN l o.toNat = 4) ∧ (o < 0 → ∀ m, m < i → clN l m ≠ 4) ∧ (0 ≤ o → ∀ m : Nat, m < i → clN l m = 4 → wornL l o ≤ wornL l (m : Int) ∧ ((m : Int) < o → wornL l o < wornL l (m : Int)))
theorem best_of (l : List S33) : ∀ (n i : Nat) (o : Int), i + n = 4 → o < i → BestOf l i o → BestOf l 4 (bestL l n i o)
  | 0, i, o, h, _, hB => by
    obtain rfl : i = 4 := by omega
    exact hB
  | n + 1, i, o, h, ho, hB => by
    obtain ⟨b1, b2, b3, b4, b5⟩ := hB
    rw [bestL]
    by_cases hc : clN l i = 4 ∧ (o < 0 ∨ (rd_T33 l (i : Int)).f1 < (rd_T33 l o).f1)
    · rw [if_pos hc]
      refine best_of l n (i + 1) _ (by omega) (by omega) ⟨by omega, by omega, fun _ => by rw [Int.toNat_natCast]; exact hc.1, fun h => by omega, fun _ m hm hm4 => ?_⟩
      by_cases hmi : m = i
      · rw [hmi]
        exact ⟨Int.le_refl _, fun h => by omega⟩
      · rcases hc.2 with h1 | h1
        · exact absurd hm4 (b4 h1 m (by omega))
        · by_cases ho0 : 0 ≤ o
          · have := (b5 ho0 m (by omega) hm4).1
            unfold wornL at *
            exact ⟨by omega, fun _ => by omega⟩
          · exact absurd hm4 (b4 (by omega) m (by omega))
    · rw [if_neg hc]
      refine best_of l n (i + 1) o (by omega) (by omega) ⟨b1, b2, b3, fun h m hm hm4 => ?_, fun h m hm hm4 => ?_⟩
      · by_cases hmi : m = i
        · rw [hmi] at hm4
          exact hc ⟨hm4, .inl h⟩
        · exact b4 h m (by omega) hm4
      · by_cases hmi : m = i
        · rw [hmi] at hm4 ⊢
          have : ¬ (rd_T33 l (i : Int)).f1 < (rd_T33 l o).f1 := fun hq => hc ⟨hm4, .inr hq⟩
          unfold wornL
          exact ⟨by omega, fun h => by omega⟩
        · exact b5 h m (by omega) hm4
theorem open_fact {l : List S33} (h : (openV l 4 0 (-1)).2 = true) : 0 ≤ (openV l 4 0 (-1)).1 ∧ (openV l 4 0 (-1)).1 < 4 ∧ 0 < clN l (openV l 4 0 (-1)).1.toNat := by
  unfold openV at h ⊢
  cases hp : partL l 4 0 with
  | some j =>
    obtain ⟨_, h2, h3, _⟩ := part_some l 4 0 j hp
    rw [hp] at h
    show 0 ≤ (j : Int) ∧ (j : Int) < 4 ∧ 0 < clN l (j : Int).toNat
    rw [Int.toNat_natCast]
    exact ⟨by omega, by omega, h3.1⟩
  | none =>
    rw [hp] at h
    have hB := best_of l 4 0 (-1) rfl (by omega) ⟨by omega, by omega, fun h => by omega, fun _ m hm => by omega, fun h => by omega⟩
    have h : (openE (bestL l 4 0 (-1))).2 = true := h
    show 0 ≤ (openE (bestL l 4 0 (-1))).1 ∧ _ ∧ _
    generalize bestL l 4 0 (-1) = o at hB h
    obtain ⟨b1, b2, b3, b4, b5⟩ := hB
    unfold openE at h ⊢
    have ho : 0 ≤ o := of_decide_eq_true h
    have e : mx o 0 = o := by unfold mx; rw [if_neg (by omega)]
    show 0 ≤ mx o 0 ∧ mx o 0 < 4 ∧ 0 < clN l (mx o 0).toNat
    rw [e]
    have := b3 ho
    exact ⟨ho, b2, by omega⟩
theorem w64_up {i n : Nat} (h : i < n) (hn : n ≤ 9223372036854775807) : wrap64 ((i : Int) + 1) = ((i + 1 : Nat) : Int) := by
  rw [wrap64_in _ (by omega)]
  omega
def usedP : List S30 → Int → Bool
  | [], _ => false
  | p :: ps, s => if p.f0 = 1 ∧ p.f1.f1 = s then true else usedP ps s
def usedN : List S33 → Int → Bool
  | [], _ => false
  | b :: bs, s => if usedP b.f0 s = true then true else usedN bs s
theorem usedP_hit {p : S30} {ps : List S30} {s : Int} (h : p.f0 = 1 ∧ p.f1.f1 = s) : usedP (p :: ps) s = true := by rw [usedP, if_pos h]
theorem usedP_miss {p : S30} {ps : List S30} {s : Int} (h : ¬ (p.f0 = 1 ∧ p.f1.f1 = s)) : usedP (p :: ps) s = usedP ps s := by rw [usedP, if_neg h]
theorem dropB_rd {l : List S33} {i : Nat} (h : i < l.length) : l.drop i = rd_T33 l (i : Int) :: l.drop (i + 1) := by
  rw [List.drop_eq_getElem_cons h]
  simp [rd_T33, List.getD_eq_getElem?_getD, h]
theorem implSeq_in (l : List S33) (s : Int) (i : Nat) (hi : i < l.length) (hl : l.length ≤ 1048576) (hp : (rd_T33 l (i : Int)).f0.length ≤ 1048576) (K : Nat) : ∀ (n j : Nat), j + n = (rd_T33 l (i : Int)).f0.length →
    impl_seqUsed.l1 (K + n + 1) s l (l.length : Int) (i : Int) (rd_T33 l (i : Int)).f0 ((rd_T33 l (i : Int)).f0.length : Int) (j : Int) = if usedP ((rd_T33 l (i : Int)).f0.drop j) s = true then some true else impl_seqUsed.l0 K s l (l.length : Int) ((i + 1 : Nat) : Int)
  | 0, j, h => by
    rw [impl_seqUsed.l1, if_neg (by omega), List.drop_eq_nil_of_le (by omega), w64_up hi (by omega), usedP, if_neg (by decide)]
  | n + 1, j, h => by
    have ih := implSeq_in l s i hi hl hp K n (j + 1) (by omega)
    rw [impl_seqUsed.l1, if_pos (by omega), if_pos (by omega), if_pos (by omega), dropP_cons (by omega : j < _), w64_up (by omega : j < (rd_T33 l (i : Int)).f0.length) (by omega)]
    by_cases h1 : (rd_T30 (rd_T33 l (i : Int)).f0 (j : Int)).f0 = 1
    · rw [if_pos h1]
      by_cases h2 : (rd_T30 (rd_T33 l (i : Int)).f0 (j : Int)).f1.f1 = s
      · rw [if_pos h2, usedP_hit ⟨h1, h2⟩, if_pos rfl]
      · rw [if_neg h2, usedP_miss (fun h => h2 h.2)]
        exact ih
    · rw [if_neg h1, usedP_miss (fun h => h1 h.1)]
      exact ih
theorem implSeq_out (l : List S33) (s : Int) (hl : l.length ≤ 1048576) (P : Nat) (hP : P ≤ 1048576) (hp : ∀ i : Nat, i < l.length → (rd_T33 l (i : Int)).f0.length ≤ P) : ∀ (n i K : Nat), i + n = l.length →
    impl_seqUsed.l0 (K + n * (P + 2) + 1) s l (l.length : Int) (i : Int) = some (usedN (l.drop i) s)
  | 0, i, K, h => by
    rw [impl_seqUsed.l0, if_neg (by omega), List.drop_eq_nil_of_le (by omega), usedN]
  | n + 1, i, K, h => by
    have hpi := hp i (by omega)
    have ih := implSeq_out l s hl P hP hp n (i + 1) (K + (P - (rd_T33 l (i : Int)).f0.length)) (by omega)
    have e : K + (n + 1) * (P + 2) = (K + (P - (rd_T33 l (i : Int)).f0.length) + n * (P + 2) + 1) + (rd_T33 l (i : Int)).f0.length + 1 := by rw [Nat.add_mul]; omega
    have h1 := implSeq_in l s i (by omega) hl (by omega) (K + (P - (rd_T33 l (i : Int)).f0.length) + n * (P + 2) + 1) (rd_T33 l (i : Int)).f0.length 0 (by omega)
    rw [impl_seqUsed.l0, if_pos (by omega), if_pos (by omega), if_pos (by omega), e, dropB_rd (by omega : i < l.length), usedN]
    refine h1.trans ?_
    rw [List.drop_zero, ih]
    split <;> rfl
theorem flash_small {l : List S33} (h : flashOkB l = true) : ∀ i : Nat, i < l.length → (rd_T33 l (i : Int)).f0.length ≤ 4 := fun i hi => by
  have := flash_len h
  have := (flash_block h i (by omega)).1
  omega
theorem implSeq_ok {l : List S33} (h : flashOkB l = true) (s : Int) (k : Nat) (hk : 26 ≤ k) : impl_seqUsed.f k l s = some (usedN l s) := by
  have hl := flash_len h
  have h1 := implSeq_out l s (by omega) 4 (by decide) (flash_small h) 4 0 (k - 25) (by omega)
  rw [show k - 25 + 4 * (4 + 2) + 1 = k by omega, List.drop_zero] at h1
  exact h1
def fwN (l : List S33) (b : Int) : Int := ((freeN (rd_T33 l b).f0 : Nat) : Int)
theorem fwN_le {l : List S33} {b : Int} (h : (rd_T33 l b).f0.length = 4) : 0 ≤ fwN l b ∧ fwN l b ≤ 4 := by
  have := freeN_le (rd_T33 l b).f0
  unfold fwN
  omega
theorem pages_at {l : List S33} (hf : flashOkB l = true) {b : Int} (hb : 0 ≤ b ∧ b < 4) : (rd_T33 l b).f0.length = 4 := by
  obtain ⟨j, rfl⟩ := Int.eq_ofNat_of_zero_le hb.1
  exact (flash_block hf j (by omega)).1
def FwG (l : List S33) (b r0 r1 r2 r3 : Int) : Prop := flashOkB l = true ∧ (0 ≤ b ∧ b < 4) ∧ recOkB r0 r1 r2 r3 = true
instance (l : List S33) (b r0 r1 r2 r3 : Int) : Decidable (FwG l b r0 r1 r2 r3) := by unfold FwG; exact inferInstance
def fwV (l : List S33) (b r0 r1 r2 r3 : Int) (tn : Bool) : List S33 := if FwG l b r0 r1 r2 r3 then outFW l b (fwN l b) (usedN l r1) (pageFW r0 r1 r2 r3 tn) else []
def fwB (l : List S33) (b r0 r1 r2 r3 : Int) : Bool := if FwG l b r0 r1 r2 r3 then okFW (fwN l b) (usedN l r1) else false
theorem implFW_ok (l : List S33) (b r0 r1 r2 r3 : Int) (tn : Bool) (k : Nat) (hk : 40 ≤ k) : impl_FlashWrite.f k l b r0 r1 r2 r3 tn = some (fwV l b r0 r1 r2 r3 tn, fwB l b r0 r1 r2 r3) := by
  unfold impl_FlashWrite.f fwV fwB
  by_cases hg : FwG l b r0 r1 r2 r3
  · have hp := pages_at hg.1 hg.2.1
    have hle := fwN_le hp
    rw [if_pos hg, if_pos hg, if_pos (show flashOkB l = true ∧ (0 ≤ b ∧ b < 4) ∧ recOkB r0 r1 r2 r3 = true from hg), freePages_ok _ _ (by omega) k (by omega), Option.bind_some, implSeq_ok hg.1 r1 k (by omega), Option.bind_some]
    show (if 0 ≤ fwN l b ∧ fwN l b ≤ 4 then some (outFW l b (fwN l b) (usedN l r1) (pageFW r0 r1 r2 r3 tn), okFW (fwN l b) (usedN l r1)) else none) = _
    rw [if_pos hle]
  · rw [if_neg hg, if_neg hg, if_neg (show ¬ (flashOkB l = true ∧ (0 ≤ b ∧ b < 4) ∧ recOkB r0 r1 r2 r3 = true) from hg)]
theorem usedP_at : ∀ (ps : List S30) (s : Int), usedP ps s = true ↔ ∃ p ∈ ps, p.f0 = 1 ∧ p.f1.f1 = s
  | [], s => ⟨fun h => (by cases h), fun ⟨p, hp, _⟩ => (by cases hp)⟩
  | q :: ps, s => by
    by_cases hc : q.f0 = 1 ∧ q.f1.f1 = s
    · rw [usedP_hit hc]
      exact ⟨fun _ => ⟨q, List.mem_cons_self, hc⟩, fun _ => rfl⟩
    · rw [usedP_miss hc, usedP_at ps s]
      constructor
      · rintro ⟨p, hp, h⟩
        exact ⟨p, List.mem_cons_of_mem _ hp, h⟩
      · rintro ⟨p, hp, h⟩
        rcases List.mem_cons.1 hp with rfl | hp
        · exact absurd h hc
        · exact ⟨p, hp, h⟩
theorem usedN_at : ∀ (l : List S33) (s : Int), usedN l s = true ↔ ∃ p ∈ l.flatMap (·.f0), p.f0 = 1 ∧ p.f1.f1 = s
  | [], s => ⟨fun h => (by cases h), fun ⟨p, hp, _⟩ => (by cases hp)⟩
  | b :: bs, s => by
    rw [usedN, List.flatMap_cons]
    by_cases hc : usedP b.f0 s = true
    · rw [if_pos hc]
      obtain ⟨p, hp, h⟩ := (usedP_at _ _).1 hc
      exact ⟨fun _ => ⟨p, List.mem_append_left _ hp, h⟩, fun _ => rfl⟩
    · rw [if_neg hc, usedN_at bs s]
      constructor
      · rintro ⟨p, hp, h⟩
        exact ⟨p, List.mem_append_right _ hp, h⟩
      · rintro ⟨p, hp, h⟩
        rcases List.mem_append.1 hp with hp | hp
        · exact absurd ((usedP_at _ _).2 ⟨p, hp, h⟩) hc
        · exact ⟨p, hp, h⟩
def pg (l : List S33) (i j : Nat) : S30 := rd_T30 (rd_T33 l (i : Int)).f0 (j : Int)
def Later (c : Nat → Nat → Prop) (i j : Nat) : Prop := ∃ i' j', i' < 4 ∧ j' < 4 ∧ (i < i' ∨ (i = i' ∧ j ≤ j')) ∧ c i' j'
theorem later_step {c : Nat → Nat → Prop} {i j : Nat} (hi : i < 4) (hj : j < 4) : Later c i j ↔ c i j ∨ Later c i (j + 1) := by
  constructor
  · rintro ⟨i', j', h1, h2, h3, h4⟩
    by_cases h : i = i' ∧ j = j'
    · obtain ⟨rfl, rfl⟩ := h
      exact .inl h4
    · exact .inr ⟨i', j', h1, h2, by omega, h4⟩
  · rintro (h | ⟨i', j', h1, h2, h3, h4⟩)
    · exact ⟨i, j, hi, hj, by omega, h⟩
    · exact ⟨i', j', h1, h2, by omega, h4⟩
theorem later_row {c : Nat → Nat → Prop} {i : Nat} : Later c i 4 ↔ Later c (i + 1) 0 := by
  constructor
  · rintro ⟨i', j', h1, h2, h3, h4⟩
    exact ⟨i', j', h1, h2, by omega, h4⟩
  · rintro ⟨i', j', h1, h2, h3, h4⟩
    exact ⟨i', j', h1, h2, by omega, h4⟩
theorem later_end {c : Nat → Nat → Prop} : ¬ Later c 4 0 := by
  rintro ⟨i', j', h1, h2, h3, h4⟩
  omega
theorem later_all {c : Nat → Nat → Prop} : Later c 0 0 ↔ ∃ i j, i < 4 ∧ j < 4 ∧ c i j := by
  constructor
  · rintro ⟨i', j', h1, h2, h3, h4⟩
    exact ⟨i', j', h1, h2, h4⟩
  · rintro ⟨i', j', h1, h2, h4⟩
    exact ⟨i', j', h1, h2, by omega, h4⟩
theorem mem_pg {l : List S33} (hf : flashOkB l = true) {p : S30} : p ∈ l.flatMap (·.f0) ↔ ∃ i j, i < 4 ∧ j < 4 ∧ pg l i j = p := by
  have hl := flash_len hf
  rw [List.mem_flatMap]
  constructor
  · rintro ⟨b, hb, hp⟩
    obtain ⟨i, hi, rfl⟩ := List.getElem_of_mem hb
    obtain ⟨j, hj, rfl⟩ := List.getElem_of_mem hp
    have h4 := (flash_block hf i (by omega)).1
    have e : rd_T33 l (i : Int) = l[i] := by simp [rd_T33, List.getD_eq_getElem?_getD, hi]
    refine ⟨i, j, by omega, by rw [← h4, e]; exact hj, ?_⟩
    unfold pg
    rw [e]
    unfold rd_T30
    rw [Int.toNat_natCast, List.getD_eq_getElem?_getD, List.getElem?_eq_getElem hj]
    rfl
  · rintro ⟨i, j, hi, hj, rfl⟩
    have h4 := (flash_block hf i hi).1
    exact ⟨_, rdB_mem (by omega), rdP_mem (by omega)⟩
theorem pg_ok {l : List S33} (hf : flashOkB l = true) {i j : Nat} (hi : i < 4) (hj : j < 4) : pageB (pg l i j) = true := flash_pages hf _ (rdB_mem (by rw [flash_len hf]; exact hi)) _ (rdP_mem (by rw [(flash_block hf i hi).1]; exact hj))
theorem mostP_ge : ∀ (ps : List S30) (m : Int), m ≤ mostP m ps ∧ ∀ p ∈ ps, p.f1.f1 ≤ mostP m ps
  | [], m => ⟨Int.le_refl _, fun p hp => (by cases hp)⟩
  | q :: ps, m => by
    obtain ⟨h1, h2⟩ := mostP_ge ps (mx m q.f1.f1)
    rw [mostP_cons]
    have : m ≤ mx m q.f1.f1 ∧ q.f1.f1 ≤ mx m q.f1.f1 := by unfold mx; split <;> omega
    refine ⟨by omega, fun p hp => ?_⟩
    rcases List.mem_cons.1 hp with rfl | hp
    · omega
    · exact h2 p hp
theorem mostP_at : ∀ (ps : List S30) (m : Int), mostP m ps = m ∨ ∃ p ∈ ps, p.f1.f1 = mostP m ps
  | [], m => .inl rfl
  | q :: ps, m => by
    rw [mostP_cons]
    rcases mostP_at ps (mx m q.f1.f1) with h | ⟨p, hp, h⟩
    · rw [h]
      unfold mx
      split
      · exact .inr ⟨q, List.mem_cons_self, rfl⟩
      · exact .inl rfl
    · exact .inr ⟨p, List.mem_cons_of_mem _ hp, h⟩
theorem pg_small {l : List S33} (hf : flashOkB l = true) {i j : Nat} (hi : i < 4) (hj : j < 4) : 0 ≤ (pg l i j).f1.f1 ∧ (pg l i j).f1.f1 ≤ 600 := by
  have h := pg_ok hf hi hj
  unfold pageB at h
  by_cases h1 : (pg l i j).f0 = 1
  · rw [if_pos h1] at h
    unfold recOkB at h
    rw [decide_eq_true_eq] at h
    omega
  · rw [if_neg h1] at h
    by_cases h2 : (pg l i j).f0 = 0 ∨ (pg l i j).f0 = 2
    · rw [if_pos h2] at h
      simp only [Bool.and_eq_true, beq_iff_eq] at h
      omega
    · rw [if_neg h2] at h
      cases h
def most (l : List S33) : Int := mostP 0 (l.flatMap (·.f0))
theorem most_fact {l : List S33} (hf : flashOkB l = true) : 0 ≤ most l ∧ most l ≤ 600 ∧ (∀ i j, i < 4 → j < 4 → (pg l i j).f1.f1 ≤ most l) ∧ (most l = 0 ∨ ∃ i j, i < 4 ∧ j < 4 ∧ (pg l i j).f1.f1 = most l) := by
  have h1 := mostP_ge (l.flatMap (·.f0)) 0
  have h2 := mostP_at (l.flatMap (·.f0)) 0
  unfold most
  have h3 : ∀ i j, i < 4 → j < 4 → (pg l i j).f1.f1 ≤ mostP 0 (l.flatMap (·.f0)) := fun i j hi hj => h1.2 _ ((mem_pg hf).2 ⟨i, j, hi, hj, rfl⟩)
  rcases h2 with h2 | ⟨p, hp, h2⟩
  · exact ⟨h1.1, by omega, h3, .inl h2⟩
  · obtain ⟨i, j, hi, hj, rfl⟩ := (mem_pg hf).1 hp
    have := pg_small hf hi hj
    exact ⟨h1.1, by omega, h3, .inr ⟨i, j, hi, hj, h2⟩⟩
theorem nextV_eq {l : List S33} (hf : flashOkB l = true) : nextV l = most l + 1 := by
  have h := most_fact hf
  unfold nextV
  rw [if_pos hf]
  exact wrap64_in _ (by unfold most at h; omega)
theorem draw_ok {l : List Int} (hb : Bytes l) : ∃ fl, spec_DrawFindNext.f 1000 l = some fl := by
  obtain ⟨s, e0, hs⟩ := open_ok hb
  obtain ⟨fl, q, e1, hq0, hq1⟩ := flash_ok hs 1000 (by omega)
  unfold spec_DrawFindNext.f
  rw [e0]
  simp only [Option.bind_some]
  rw [e1]
  exact ⟨_, rfl⟩
theorem used_no {l : List S33} (hf : flashOkB l = true) {s : Int} (h : most l < s) : usedN l s = false := by
  cases hc : usedN l s with
  | false => rfl
  | true =>
    obtain ⟨p, hp, h1, h2⟩ := (usedN_at l s).1 hc
    obtain ⟨i, j, hi, hj, rfl⟩ := (mem_pg hf).1 hp
    have := (most_fact hf).2.2.1 i j hi hj
    omega
theorem next_end {l : List S33} (hf : flashOkB l = true) (k : Nat) (hk : 200 ≤ k) : laws_FnNext.l0 (k + 1) l (most l + 1) true 4 = some true := by
  have hl := flash_len hf
  have hm := most_fact hf
  have e : openR l = openV l 4 0 (-1) := if_pos hf
  rw [laws_FnNext.l0, if_neg (by omega), implFindOpen_ok l k (by omega), e, Option.bind_some]
  cases ho : (openV l 4 0 (-1)).2 with
  | false => rw [if_neg (by simp)]
  | true =>
    obtain ⟨h0, h4, hc⟩ := open_fact ho
    rw [if_pos rfl]
    by_cases h6 : most l + 1 > 600
    · rw [if_pos h6]
    · have hg : FwG l (openV l 4 0 (-1)).1 1 (most l + 1) 1 0 := ⟨hf, ⟨h0, h4⟩, by unfold recOkB; rw [decide_eq_true_eq]; omega⟩
      rw [if_neg h6, implFW_ok l _ _ _ _ _ _ k (by omega), Option.bind_some, if_pos rfl]
      show some (fwB l (openV l 4 0 (-1)).1 1 (most l + 1) 1 0) = some true
      unfold fwB okFW
      rw [if_pos hg, used_no hf (by omega)]
      obtain ⟨b, hb⟩ := Int.eq_ofNat_of_zero_le h0
      rw [hb] at hc ⊢
      rw [Int.toNat_natCast] at hc
      have : fwN l (b : Int) ≠ 0 := by
        unfold fwN
        unfold clN at hc
        omega
      rw [decide_eq_true this]
      rfl
def topAt (l : List S33) (i j : Nat) : Prop := (pg l i j).f1.f1 = most l
theorem next_in {l : List S33} (hf : flashOkB l = true) (i : Nat) (hi : i < 4) (K : Nat) (h0 : ∀ any : Bool, (any = true ∨ Later (topAt l) (i + 1) 0) → laws_FnNext.l0 K l (most l + 1) any ((i + 1 : Nat) : Int) = some true) : ∀ (n j : Nat) (any : Bool), j + n = 4 → (any = true ∨ Later (topAt l) i j) → laws_FnNext.l1 (K + n + 1) l (most l + 1) any (i : Int) (j : Int) = some true
  | 0, j, any, h, hL => by
    obtain rfl : j = 4 := by omega
    rw [later_row] at hL
    rw [laws_FnNext.l1, if_neg (by omega), upN i (by omega)]
    exact h0 any hL
  | n + 1, j, any, h, hL => by
    have hl := flash_len hf
    have hb := (flash_block hf i hi).1
    have hj : j < 4 := by omega
    have hm := most_fact hf
    have hle := hm.2.2.1 i j hi hj
    have ih := fun any => next_in hf i hi K h0 n (j + 1) any (by omega)
    have e2 : wrap64 (most l + 1 - 1) = most l := by rw [wrap64_in _ (by omega)]; omega
    rw [show K + (n + 1) + 1 = (K + n + 1) + 1 from rfl, laws_FnNext.l1, if_pos (by omega), if_pos (by omega), if_pos (by omega), if_pos (by omega), if_pos (by omega), upN j (by omega), e2]
    show (if (pg l i j).f1.f1 ≥ most l + 1 then some false else (if any = true then laws_FnNext.l1 (K + n + 1) l (most l + 1) true (i : Int) ((j + 1 : Nat) : Int) else laws_FnNext.l1 (K + n + 1) l (most l + 1) ((pg l i j).f1.f1 == most l) (i : Int) ((j + 1 : Nat) : Int))) = some true
    rw [if_neg (by omega)]
    cases any with
    | true =>
      rw [if_pos rfl]
      exact ih true (.inl rfl)
    | false =>
      rw [if_neg (by simp)]
      have hL := hL.resolve_left (by simp)
      rw [later_step hi hj] at hL
      refine ih _ ?_
      rcases hL with hL | hL
      · exact .inl (beq_iff_eq.2 hL)
      · exact .inr hL
theorem next_out {l : List S33} (hf : flashOkB l = true) (K : Nat) (hK : 200 ≤ K) : ∀ (n i : Nat) (any : Bool), i + n = 4 → (any = true ∨ Later (topAt l) i 0) → laws_FnNext.l0 (K + n * 6 + 1) l (most l + 1) any (i : Int) = some true
  | 0, i, any, h, hL => by
    obtain rfl : i = 4 := by omega
    have : any = true := hL.elim id (fun h => absurd h later_end)
    rw [this]
    exact next_end hf _ (by omega)
  | n + 1, i, any, h, hL => by
    have hl := flash_len hf
    rw [laws_FnNext.l0, if_pos (by omega), show K + (n + 1) * 6 = (K + n * 6 + 1) + 4 + 1 by omega]
    exact next_in hf i (by omega) (K + n * 6 + 1) (fun any hL => next_out hf K hK n (i + 1) any (by omega) hL) 4 0 any (by omega) hL
theorem FnNext : laws_FnNext.Pure := by
  intro l0 _ _ hw
  refine ⟨1000, ?_⟩
  obtain ⟨fl, eD⟩ := draw_ok (bytes_of hw)
  unfold laws_FnNext.f
  split
  · rfl
  rw [eD]
  simp only [Option.bind_some]
  rw [implNext_ok fl, specNext_ok fl 1000 (by omega)]
  simp only [Option.bind_some, if_true]
  unfold spec_FlashOk.f
  rw [Option.bind_some]
  cases hf : flashOkB fl with
  | false => rw [laws_FnNext.j0, if_pos (by rfl), specNext_ok fl _ (by omega), Option.bind_some, beq_self_eq_true]
  | true =>
    rw [laws_FnNext.j0, if_neg (by simp), nextV_eq hf]
    refine next_out hf 974 (by omega) 4 0 _ (by omega) ?_
    rcases (most_fact hf).2.2.2 with h | ⟨i, j, hi, hj, h⟩
    · exact .inl (by rw [h]; rfl)
    · exact .inr (later_all.2 ⟨i, j, hi, hj, h⟩)
end Go.Proofs.Ytjfbiobjegnibaa.Pure
