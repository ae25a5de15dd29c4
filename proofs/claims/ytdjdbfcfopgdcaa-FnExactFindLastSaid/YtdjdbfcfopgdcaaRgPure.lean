/- FindLast, in plain Lean: both look for the record of the address with the greatest number, page by page, if the blocks are ok and there is such an address. -/
import Derived.Test.YtdjdbfcfopgdcaaRg16
import Derived.IntWalk
namespace Go.Proofs.Ytdjdbfcfopgdcaa.Pure
open Go.RowKit Go.IntWalk Go.Proofs.Ytdjdbfcfopgdcaa.Rg Go.Proofs.YtdjdbfcfopgdcaaW.PrintWords Go.Proofs.YtdjdbfcfopgdcaaW.PrintLast
/-! ### the law's copies of blocks -/
def Fits (l : List S85) : Prop := l.length ≤ 9223372036854775807 ∧ ∀ i : Nat, i < l.length → (rd_T85 l (i : Int)).f0.length ≤ 9223372036854775807
theorem fits_of {w : World} {A : Option Addr} {l : List S85} (h : Kd.C k85 w A l.length l) : Fits l := ⟨Kd.C_max h, fun i hi => by
  obtain ⟨_, _, _, _, _, _, _, h5⟩ := at_T85 h (i : Int) (by omega) (by omega)
  exact Kd.C_max h5⟩
def cPage (p : S136) : S91 := ⟨p.f0, ⟨p.f1.f0, p.f1.f1, p.f1.f2, p.f1.f3⟩⟩
def cBlock (b : S85) : S89 := ⟨b.f0.map cPage, b.f1⟩
theorem w64_up {i n : Nat} (h : i < n) (hn : n ≤ 9223372036854775807) : wrap64 ((i : Int) + 1) = ((i + 1 : Nat) : Int) := by
  rw [wrap64_in _ (by omega)]
  omega
theorem szPageS_ok (l : List S136) (a : Int) (hl : l.length ≤ 9223372036854775807) (h0 : 0 ≤ a) (h1 : a ≤ 1048576) :
    ∃ v, laws_szPageS.f l a = some v ∧ v ≤ a ∧ (0 ≤ v → l.length ≤ 1048576) := by
  unfold laws_szPageS.f
  rw [wrap64_in _ (by omega)]
  by_cases h : a - (l.length : Int) < 0
  · rw [if_pos h]
    exact ⟨_, rfl, by omega, fun hv => by omega⟩
  · rw [if_neg h]
    exact ⟨_, rfl, by omega, fun hv => by omega⟩
theorem szBlock_ok (l : List S136) (b a : Int) (hl : l.length ≤ 9223372036854775807) (h0 : 0 ≤ a) (h1 : a ≤ 1048576) :
    ∃ v, laws_szBlock.f l b a = some v ∧ v ≤ a ∧ (0 ≤ v → l.length ≤ 1048576) := by
  obtain ⟨v, hv, h2, h3⟩ := szPageS_ok l a hl h0 h1
  unfold laws_szBlock.f
  rw [hv, Option.bind_some]
  by_cases h : v < 0
  · rw [if_pos h]
    exact ⟨_, rfl, by omega, fun h => by omega⟩
  · rw [if_neg h]
    exact ⟨_, rfl, h2, h3⟩
theorem szLoop (l : List S85) (hl : Fits l) (K : Nat) : ∀ (n i : Nat) (a : Int), i + n = l.length → 0 ≤ a → a ≤ 1048576 →
    ∃ v, laws_szBlockS.l0 (K + n + 1) l a i = some v ∧ v ≤ a ∧ (0 ≤ v → ∀ j, i ≤ j → j < l.length → (rd_T85 l (j : Int)).f0.length ≤ 1048576)
  | 0, i, a, h, h0, h1 => by
    rw [laws_szBlockS.l0, if_neg (by omega)]
    exact ⟨_, rfl, by omega, fun _ j h2 h3 => by omega⟩
  | n + 1, i, a, h, h0, h1 => by
    obtain ⟨v, hv, h2, h3⟩ := szBlock_ok (rd_T85 l (i : Int)).f0 (rd_T85 l (i : Int)).f1 a (hl.2 i (by omega)) h0 h1
    rw [laws_szBlockS.l0, if_pos (by omega), if_pos (by omega), hv, Option.bind_some, w64_up (by omega : i < l.length) hl.1]
    by_cases hv0 : v < 0
    · rw [if_pos hv0]
      exact ⟨_, rfl, by omega, fun h => by omega⟩
    · rw [if_neg hv0]
      obtain ⟨u, hu, h4, h5⟩ := szLoop l hl K n (i + 1) v (by omega) (by omega) (by omega)
      refine ⟨u, hu, by omega, fun hu0 j hj hj2 => ?_⟩
      by_cases e : j = i
      · subst e
        exact h3 (by omega)
      · exact h5 hu0 j (by omega) hj2
theorem szBlockS_ok (l : List S85) (hl : Fits l) (k : Nat) (hk : l.length < k) :
    ∃ v, laws_szBlockS.f k l 1048576 = some v ∧ (0 ≤ v → l.length ≤ 1048576 ∧ ∀ j, j < l.length → (rd_T85 l (j : Int)).f0.length ≤ 1048576) := by
  unfold laws_szBlockS.f
  have := hl.1
  rw [wrap64_in _ (by omega)]
  by_cases h : (1048576 : Int) - (l.length : Int) < 0
  · rw [if_pos h]
    exact ⟨_, rfl, fun h => by omega⟩
  · rw [if_neg h]
    obtain ⟨v, hv, _, h2⟩ := szLoop l hl (k - l.length - 1) l.length 0 ((1048576 : Int) - (l.length : Int)) (by omega) (by omega) (by omega)
    rw [show k - l.length - 1 + l.length + 1 = k by omega] at hv
    exact ⟨v, hv, fun h0 => ⟨by omega, fun j hj => h2 h0 j (Nat.zero_le _) hj⟩⟩
theorem fill_step {α : Type} (xs : List α) (m : Nat) (z v : α) (i : Nat) (hi : xs.length = i) : (xs ++ List.replicate (m + 1) z).set i v = (xs ++ [v]) ++ List.replicate m z := by
  subst hi
  rw [List.set_append_right _ _ (Nat.le_refl _), Nat.sub_self, List.replicate_succ, List.set_cons_zero, List.append_assoc]
  rfl
theorem take_up_T136 {l : List S136} {i : Nat} (h : i < l.length) : l.take (i + 1) = l.take i ++ [rd_T136 l (i : Int)] := by
  rw [List.take_succ_eq_append_getElem h]
  simp [rd_T136, List.getD_eq_getElem?_getD, h]
theorem take_up_T85 {l : List S85} {i : Nat} (h : i < l.length) : l.take (i + 1) = l.take i ++ [rd_T85 l (i : Int)] := by
  rw [List.take_succ_eq_append_getElem h]
  simp [rd_T85, List.getD_eq_getElem?_getD, h]
theorem toPage_loop (l : List S136) (hl : l.length ≤ 9223372036854775807) (K : Nat) : ∀ (n i : Nat), i + n = l.length →
    laws_toPageS.l0 (K + n + 1) l ((l.take i).map cPage ++ List.replicate n z91) i = some (l.map cPage)
  | 0, i, h => by
    rw [laws_toPageS.l0, if_neg (by omega), List.take_of_length_le (by omega), List.replicate_zero, List.append_nil]
  | n + 1, i, h => by
    have hlen : ((l.take i).map cPage).length = i := by rw [List.length_map, List.length_take]; omega
    rw [laws_toPageS.l0, if_pos (by omega), if_pos (by omega), w64_up (by omega : i < l.length) hl]
    unfold laws_toPage.f laws_toRec.f
    rw [Option.bind_some, Option.bind_some, if_pos (by rw [List.length_append, hlen, List.length_replicate]; omega), Int.toNat_natCast, fill_step _ _ _ _ _ hlen]
    have ih := toPage_loop l hl K n (i + 1) (by omega)
    rw [take_up_T136 (by omega), List.map_append] at ih
    exact ih
theorem toPageS_ok (l : List S136) (hl : l.length ≤ 1048576) (k : Nat) (hk : l.length < k) : laws_toPageS.f k l = some (l.map cPage) := by
  unfold laws_toPageS.f
  rw [if_pos (by omega), Int.toNat_natCast, if_pos (by omega)]
  have := toPage_loop l (by omega) (k - l.length - 1) l.length 0 (by omega)
  rw [show k - l.length - 1 + l.length + 1 = k by omega] at this
  exact this
theorem toBlock_loop (l : List S85) (hl : l.length ≤ 1048576) (hp : ∀ j : Nat, j < l.length → (rd_T85 l (j : Int)).f0.length ≤ 1048576) (K : Nat) (hK : 1048576 < K) : ∀ (n i : Nat), i + n = l.length →
    laws_toBlockS.l0 (K + n + 1) l ((l.take i).map cBlock ++ List.replicate n z89) i = some (l.map cBlock)
  | 0, i, h => by
    rw [laws_toBlockS.l0, if_neg (by omega), List.take_of_length_le (by omega), List.replicate_zero, List.append_nil]
  | n + 1, i, h => by
    have hlen : ((l.take i).map cBlock).length = i := by rw [List.length_map, List.length_take]; omega
    rw [laws_toBlockS.l0, if_pos (by omega), if_pos (by omega), w64_up (by omega : i < l.length) (by omega)]
    unfold laws_toBlock.f
    rw [toPageS_ok _ (hp i (by omega)) _ (by have := hp i (by omega); omega), Option.bind_some, Option.bind_some, if_pos (by rw [List.length_append, hlen, List.length_replicate]; omega), Int.toNat_natCast, fill_step _ _ _ _ _ hlen]
    have ih := toBlock_loop l hl hp K hK n (i + 1) (by omega)
    rw [take_up_T85 (by omega), List.map_append] at ih
    exact ih
theorem toBlockS_ok (l : List S85) (hl : l.length ≤ 1048576) (hp : ∀ j : Nat, j < l.length → (rd_T85 l (j : Int)).f0.length ≤ 1048576) (k : Nat) (hk : l.length + 1048578 ≤ k) : laws_toBlockS.f k l = some (l.map cBlock) := by
  unfold laws_toBlockS.f
  rw [if_pos (by omega), Int.toNat_natCast, if_pos (by omega)]
  have := toBlock_loop l hl hp (k - l.length - 1) (by omega) l.length 0 (by omega)
  rw [show k - l.length - 1 + l.length + 1 = k by omega] at this
  exact this
theorem eqPage_loop (l : List S91) (hl : l.length ≤ 9223372036854775807) (K : Nat) : ∀ (n i : Nat), i + n = l.length → laws_eqPageS.l0 (K + n + 1) l l i = some true
  | 0, i, h => by rw [laws_eqPageS.l0, if_neg (by omega)]
  | n + 1, i, h => by
    rw [laws_eqPageS.l0, if_pos (by omega), if_pos (by omega), if_pos (by omega), w64_up (by omega : i < l.length) hl]
    unfold laws_eqPage.f laws_eqRec.f
    rw [if_pos rfl, if_pos rfl, if_pos rfl, if_pos rfl, if_pos rfl, Option.bind_some, if_pos rfl, Option.bind_some, if_pos rfl]
    exact eqPage_loop l hl K n (i + 1) (by omega)
theorem eqPageS_ok (l : List S91) (hl : l.length ≤ 1048576) (k : Nat) (hk : l.length < k) : laws_eqPageS.f k l l = some true := by
  unfold laws_eqPageS.f
  rw [if_pos rfl]
  have := eqPage_loop l (by omega) (k - l.length - 1) l.length 0 (by omega)
  rw [show k - l.length - 1 + l.length + 1 = k by omega] at this
  exact this
theorem eqBlock_loop (l : List S89) (hl : l.length ≤ 9223372036854775807) (hp : ∀ j : Nat, j < l.length → (rd_T89 l (j : Int)).f0.length ≤ 1048576) (K : Nat) (hK : 1048576 < K) : ∀ (n i : Nat), i + n = l.length → laws_eqBlockS.l0 (K + n + 1) l l i = some true
  | 0, i, h => by rw [laws_eqBlockS.l0, if_neg (by omega)]
  | n + 1, i, h => by
    rw [laws_eqBlockS.l0, if_pos (by omega), if_pos (by omega), if_pos (by omega), w64_up (by omega : i < l.length) hl]
    unfold laws_eqBlock.f
    rw [eqPageS_ok _ (hp i (by omega)) _ (by have := hp i (by omega); omega), Option.bind_some, if_pos rfl, if_pos rfl, Option.bind_some, if_pos rfl]
    exact eqBlock_loop l hl hp K hK n (i + 1) (by omega)
theorem eqBlockS_ok (l : List S89) (hl : l.length ≤ 1048576) (hp : ∀ j : Nat, j < l.length → (rd_T89 l (j : Int)).f0.length ≤ 1048576) (k : Nat) (hk : l.length + 1048578 ≤ k) : laws_eqBlockS.f k l l = some true := by
  unfold laws_eqBlockS.f
  rw [if_pos rfl]
  have := eqBlock_loop l (by omega) hp (k - l.length - 1) (by omega) l.length 0 (by omega)
  rw [show k - l.length - 1 + l.length + 1 = k by omega] at this
  exact this
theorem rd_cBlock (l : List S85) (j : Nat) (hj : j < l.length) : rd_T89 (l.map cBlock) (j : Int) = cBlock (rd_T85 l (j : Int)) := by
  simp [rd_T89, rd_T85, List.getD_eq_getElem?_getD, hj]
theorem cPages_len (l : List S85) (hp : ∀ j : Nat, j < l.length → (rd_T85 l (j : Int)).f0.length ≤ 1048576) : ∀ j : Nat, j < (l.map cBlock).length → (rd_T89 (l.map cBlock) (j : Int)).f0.length ≤ 1048576 := fun j hj => by
  rw [List.length_map] at hj
  rw [rd_cBlock l j hj]
  simpa [cBlock] using hp j hj
/-- What the law has of a list that is not too long. -/
theorem copies_ok (l : List S85) (hl : Fits l) : ∃ v, laws_szBlockS.f (l.length + 1048578) l 1048576 = some v ∧ (¬ v < 0 →
    laws_toBlockS.f (l.length + 1048578) l = some (l.map cBlock) ∧ laws_eqBlockS.f (l.length + 1048578) (l.map cBlock) (l.map cBlock) = some true) := by
  obtain ⟨v, hv, hs⟩ := szBlockS_ok l hl (l.length + 1048578) (by omega)
  refine ⟨v, hv, fun h => ?_⟩
  obtain ⟨h1, h2⟩ := hs (by omega)
  exact ⟨toBlockS_ok l h1 h2 _ (Nat.le_refl _), eqBlockS_ok _ (by rw [List.length_map]; exact h1) (cPages_len l h2) _ (by rw [List.length_map]; exact Nat.le_refl _)⟩
/-- The same with any number of rounds that is great enough, and one round less. -/
theorem copies_ok_at (l : List S85) (hl : Fits l) (k : Nat) (hk : l.length + 1048579 ≤ k) : ∃ v, laws_szBlockS.f k l 1048576 = some v ∧ (¬ v < 0 →
    laws_toBlockS.f k l = some (l.map cBlock) ∧ laws_toBlockS.f (k - 1) l = some (l.map cBlock) ∧ laws_eqBlockS.f (k - 1) (l.map cBlock) (l.map cBlock) = some true) := by
  obtain ⟨v, hv, hs⟩ := szBlockS_ok l hl k (by omega)
  refine ⟨v, hv, fun h => ?_⟩
  obtain ⟨h1, h2⟩ := hs (by omega)
  exact ⟨toBlockS_ok l h1 h2 _ (by omega), toBlockS_ok l h1 h2 _ (by omega), eqBlockS_ok _ (by rw [List.length_map]; exact h1) (cPages_len l h2) _ (by rw [List.length_map]; omega)⟩
/-! ### what ok blocks are -/
theorem rdB_cons {b : S89} {bs : List S89} (j : Nat) : rd_T89 (b :: bs) ((j + 1 : Nat) : Int) = rd_T89 bs (j : Int) := by
  unfold rd_T89
  rw [Int.toNat_natCast, Int.toNat_natCast]
  rfl
theorem blocksB_all : ∀ (l : List S89) (S : List Int), blocksB l S = true → ∀ j : Nat, j < l.length → blockB (rd_T89 l (j : Int)) = true
  | [], _, _, j, hj => by cases hj
  | b :: bs, S, h, j, hj => by
    rw [blocksB, Bool.and_eq_true] at h
    obtain ⟨h1, h2⟩ := h
    cases j with
    | zero => exact h1
    | succ j =>
      rw [rdB_cons]
      cases hp : pagesB b.f0 S with
      | none => rw [hp] at h2; cases h2
      | some S' =>
        rw [hp] at h2
        exact blocksB_all bs S' h2 j (by simpa using hj)
theorem flash_len {l : List S89} (h : flashOkB l = true) : l.length = 4 := by
  unfold flashOkB at h
  rw [Bool.and_eq_true, decide_eq_true_eq] at h
  omega
theorem flash_block {l : List S89} (h : flashOkB l = true) (j : Nat) (hj : j < 4) : (rd_T89 l (j : Int)).f0.length = 4 ∧ 0 ≤ (rd_T89 l (j : Int)).f1 ∧ (rd_T89 l (j : Int)).f1 ≤ 200 ∧ shapeB (rd_T89 l (j : Int)).f0 false = true := by
  have hl := flash_len h
  unfold flashOkB at h
  rw [Bool.and_eq_true] at h
  have := blocksB_all l [] h.2 j (by omega)
  unfold blockB at this
  rw [Bool.and_eq_true, decide_eq_true_eq] at this
  exact ⟨by omega, this.1.2.1, this.1.2.2, this.2⟩
theorem dropP_cons {l : List S91} {i : Nat} (h : i < l.length) : l.drop i = rd_T91 l (i : Int) :: l.drop (i + 1) := by
  rw [List.drop_eq_getElem_cons h]
  simp [rd_T91, List.getD_eq_getElem?_getD, h]
/-! ### the pages of ok blocks -/
theorem pages_spotsB (i : Nat) : ∀ (j : Nat) (ps : List S91), (spotsB i j ps).map (·.2.2) = ps
  | _, [] => rfl
  | j, p :: ps => by rw [spotsB, List.map_cons, pages_spotsB i (j + 1) ps]
theorem pagesL_flat : ∀ (i : Nat) (l : List S89), (spotsF i l).map (·.2.2) = l.flatMap (·.f0)
  | _, [] => rfl
  | i, b :: bs => by rw [spotsF, List.map_append, pages_spotsB, pagesL_flat (i + 1) bs, List.flatMap_cons]
theorem pagesB_all : ∀ (ps : List S91) (S S' : List Int), pagesB ps S = some S' → ∀ p ∈ ps, pageB p = true
  | [], _, _, _, _, h => by cases h
  | p :: ps, S, S', h, q, hq => by
    rw [pagesB] at h
    by_cases hp : pageB p = true
    · rw [if_pos hp] at h
      rcases List.mem_cons.1 hq with rfl | hq
      · exact hp
      · by_cases h1 : p.f0 = 1
        · rw [if_pos h1] at h
          by_cases hm : p.f1.f1 ∈ S
          · rw [if_pos hm] at h; cases h
          · rw [if_neg hm] at h; exact pagesB_all ps _ _ h q hq
        · rw [if_neg h1] at h; exact pagesB_all ps _ _ h q hq
    · rw [if_neg hp] at h; cases h
theorem blocksB_pages : ∀ (l : List S89) (S : List Int), blocksB l S = true → ∀ b ∈ l, ∀ p ∈ b.f0, pageB p = true
  | [], _, _, _, h, _, _ => by cases h
  | b :: bs, S, h, c, hc, p, hp => by
    rw [blocksB, Bool.and_eq_true] at h
    cases he : pagesB b.f0 S with
    | none => rw [he] at h; exact absurd h.2 (by simp)
    | some S' =>
      rw [he] at h
      rcases List.mem_cons.1 hc with rfl | hc
      · exact pagesB_all _ _ _ he p hp
      · exact blocksB_pages bs S' h.2 c hc p hp
theorem flash_pages {l : List S89} (h : flashOkB l = true) : ∀ b ∈ l, ∀ p ∈ b.f0, pageB p = true := by
  unfold flashOkB at h
  rw [Bool.and_eq_true] at h
  exact blocksB_pages l [] h.2
theorem page_written {p : S91} (h : pageB p = true) (h1 : p.f0 = 1) : (p.f1.f0 = 1 ∨ p.f1.f0 = 2) ∧ 1 ≤ p.f1.f1 ∧ p.f1.f1 ≤ 600 ∧ 1 ≤ p.f1.f2 ∧ p.f1.f2 ≤ 6 ∧ 0 ≤ p.f1.f3 ∧ p.f1.f3 ≤ 9 := by
  unfold pageB at h
  rw [if_pos h1] at h
  unfold recOkB at h
  simp only [decide_eq_true_eq] at h
  omega
theorem page_other {p : S91} (h : pageB p = true) (h1 : p.f0 ≠ 1) : p.f1.f0 = 0 ∧ p.f1.f1 = 0 ∧ p.f1.f2 = 0 ∧ p.f1.f3 = 0 := by
  unfold pageB at h
  rw [if_neg h1] at h
  split at h
  · simp only [Bool.and_eq_true, beq_iff_eq] at h
    exact h
  · cases h
theorem page_seq {p : S91} (h : pageB p = true) : 0 ≤ p.f1.f1 ∧ p.f1.f1 ≤ 600 := by
  by_cases h1 : p.f0 = 1
  · have := page_written h h1
    omega
  · have := page_other h h1
    omega
theorem dropB_cons {l : List S89} {i : Nat} (h : i < l.length) : l.drop i = rd_T89 l (i : Int) :: l.drop (i + 1) := by
  rw [List.drop_eq_getElem_cons h]
  simp [rd_T89, List.getD_eq_getElem?_getD, h]
theorem rdB_mem {l : List S89} {i : Nat} (h : i < l.length) : rd_T89 l (i : Int) ∈ l := by
  simp [rd_T89, List.getD_eq_getElem?_getD, h]
theorem rdP_mem {l : List S91} {i : Nat} (h : i < l.length) : rd_T91 l (i : Int) ∈ l := by
  simp [rd_T91, List.getD_eq_getElem?_getD, h]
/-! ### the last record of an address -/
theorem spec_last_loops (l : List S89) (a : Int) (hl : l.length ≤ 1048576) (K : Nat) (hb : ∀ b ∈ l, b.f0.length ≤ K) (hK : K ≤ 1048576) :
    ∀ (n i : Nat) (r : S26), i + n = l.length → spec_l3Last.l0 ((K + 2) * n + 1) l a (i : Int) r.f0 r.f1 r.f2 r.f3 = some (let q := ((l.drop i).flatMap (·.f0)).foldl (lastStep a) r; (q.f0, q.f1, q.f2, q.f3, decide (q.f1 > 0)))
  | 0, i, r, h => by
    rw [show (K + 2) * 0 + 1 = 0 + 1 by omega, spec_l3Last.l0, if_neg (by omega), List.drop_eq_nil_of_le (by omega)]
    rfl
  | n + 1, i, r, h => by
    have ih := fun r => spec_last_loops l a hl K hb hK n (i + 1) r (by omega)
    have e1 : wrap64 ((i : Int) + 1) = ((i + 1 : Nat) : Int) := by rw [wrap64_in _ (by omega)]; omega
    have hbi := hb _ (rdB_mem (by omega : i < l.length))
    have inner : ∀ (m j : Nat) (r : S26), j + m = (rd_T89 l (i : Int)).f0.length → spec_l3Last.l1 ((K + 2) * n + 1 + (m + 1)) l a (i : Int) (j : Int) r.f0 r.f1 r.f2 r.f3 =
        some (let q := (((rd_T89 l (i : Int)).f0.drop j) ++ ((l.drop (i + 1)).flatMap (·.f0))).foldl (lastStep a) r; (q.f0, q.f1, q.f2, q.f3, decide (q.f1 > 0))) := by
      intro m
      induction m with
      | zero =>
        intro j r hj
        rw [show (K + 2) * n + 1 + (0 + 1) = (K + 2) * n + 1 + 1 by omega, spec_l3Last.l1, if_pos (by omega), if_pos (by omega), if_neg (by omega), e1, List.drop_eq_nil_of_le (by omega), List.nil_append]
        exact ih r
      | succ m im =>
        intro j r hj
        have e2 : wrap64 ((j : Int) + 1) = ((j + 1 : Nat) : Int) := by rw [wrap64_in _ (by omega)]; omega
        rw [show (K + 2) * n + 1 + (m + 1 + 1) = (K + 2) * n + 1 + (m + 1) + 1 by omega, spec_l3Last.l1, if_pos (by omega), if_pos (by omega), if_pos (by omega), if_pos (by omega), e2, dropP_cons (by omega : j < (rd_T89 l (i : Int)).f0.length), List.cons_append, List.foldl_cons]
        unfold lastStep
        by_cases h1 : (rd_T91 (rd_T89 l (i : Int)).f0 (j : Int)).f0 = 1
        · rw [if_pos h1]
          by_cases h2 : (rd_T91 (rd_T89 l (i : Int)).f0 (j : Int)).f1.f2 = a
          · rw [if_pos h2]
            by_cases h3 : (rd_T91 (rd_T89 l (i : Int)).f0 (j : Int)).f1.f1 > r.f1
            · rw [if_pos h3, if_pos ⟨h1, h2, h3⟩]
              exact im (j + 1) _ (by omega)
            · rw [if_neg h3, if_neg (fun h => h3 h.2.2)]
              exact im (j + 1) r (by omega)
          · rw [if_neg h2, if_neg (fun h => h2 h.2.1)]
            exact im (j + 1) r (by omega)
        · rw [if_neg h1, if_neg (fun h => h1 h.1)]
          exact im (j + 1) r (by omega)
    have hlift := inner ((rd_T89 l (i : Int)).f0.length) 0 r (by omega)
    rw [dropB_cons (by omega : i < l.length), List.flatMap_cons]
    rw [List.drop_zero] at hlift
    refine at_rounds (g := fun k => spec_l3Last.l0 k l a (i : Int) r.f0 r.f1 r.f2 r.f3) (fun k => (spec_l3Last.mono_l k).1 _ _ _ _ _ _ _) (k := (K + 2) * n + 1 + ((rd_T89 l (i : Int)).f0.length + 1) + 1) (by rw [Nat.mul_add]; omega) ?_
    show spec_l3Last.l0 _ _ _ _ _ _ _ _ = _
    rw [spec_l3Last.l0, if_pos (by omega)]
    exact hlift
theorem l3Last_ok {l : List S89} (hf : flashOkB l = true) (a : Int) (k : Nat) (hk : 25 ≤ k) : spec_l3Last.f k l a = some ((lastA l a).f0, (lastA l a).f1, (lastA l a).f2, (lastA l a).f3, decide ((lastA l a).f1 > 0)) := by
  have hlen := flash_len hf
  have h4 : ∀ b ∈ l, b.f0.length ≤ 4 := fun b hb => by
    obtain ⟨i, hi, rfl⟩ := List.getElem_of_mem hb
    have := (flash_block hf i (by omega)).1
    rw [show rd_T89 l (i : Int) = l[i] by simp [rd_T89, List.getD_eq_getElem?_getD, hi]] at this
    omega
  have := spec_last_loops l a (by omega) 4 h4 (by omega) 4 0 ⟨0, 0, 0, 0⟩ (by omega)
  unfold spec_l3Last.f lastA pagesL
  rw [pagesL_flat]
  exact at_rounds (g := fun k => spec_l3Last.l0 k l a 0 0 0 0 0) (fun k => (spec_l3Last.mono_l k).1 _ _ _ _ _ _ _) (k := (4 + 2) * 4 + 1) (by omega) this
def lastV (l : List S89) (a : Int) : Int × Int × Int × Int × Bool := if addrB a = true ∧ flashOkB l = true then ((lastA l a).f0, (lastA l a).f1, (lastA l a).f2, (lastA l a).f3, decide ((lastA l a).f1 > 0)) else (0, 0, 0, 0, false)
theorem implLast_ok (l : List S89) (a : Int) : impl_FindLast.f l a = some (lastV l a) := rfl
theorem specLast_ok (l : List S89) (a : Int) (k : Nat) (hk : 25 ≤ k) : spec_FindLast.f k l a = some (lastV l a) := by
  unfold spec_FindLast.f spec_FlashOk.f spec_l6In.f lastV addrB
  rw [Option.bind_some]
  cases hf : flashOkB l with
  | false => rw [if_neg (by simp), if_neg (by simp)]
  | true =>
    rw [if_pos rfl]
    by_cases h0 : a ≥ 1
    · rw [if_pos h0, Option.bind_some]
      by_cases h6 : a ≤ 6
      · rw [decide_eq_true h6, if_pos rfl, l3Last_ok hf a k hk, decide_eq_true (by omega : 1 ≤ a ∧ a ≤ 6), if_pos ⟨rfl, rfl⟩]
        rfl
      · rw [decide_eq_false h6, if_neg (by simp), decide_eq_false (by omega : ¬ (1 ≤ a ∧ a ≤ 6)), if_neg (by simp)]
    · rw [if_neg h0, Option.bind_some, if_neg (by simp), decide_eq_false (by omega : ¬ (1 ≤ a ∧ a ≤ 6)), if_neg (by simp)]
theorem FnExactFindLast (l : List S85) (hl : Fits l) (a : Int) : ∃ k, laws_FnExactFindLast.f k l a = some true := by
  refine ⟨l.length + 1048578 + 1, ?_⟩
  obtain ⟨v, hv, hs⟩ := copies_ok_at l hl (l.length + 1048578 + 1) (by omega)
  unfold laws_FnExactFindLast.f
  rw [hv, Option.bind_some]
  by_cases h : v < 0
  · rw [if_pos h]
  · obtain ⟨ht, _⟩ := hs h
    rw [if_neg h]
    simp only [ht, Option.bind_some, specLast_ok (l.map cBlock) a (l.length + 1048578 + 1) (by omega), implLast_ok (l.map cBlock) a]
    unfold laws_eqRec.f
    simp only [if_true, Option.bind_some, bne_self_eq_false]
    rw [laws_FnExactFindLast.j0, if_neg (by simp)]
    obtain ⟨ht2, he2⟩ := (hs h).2
    rw [show l.length + 1048578 + 1 - 1 = l.length + 1048578 by omega] at ht2 he2
    simp only [ht2, he2, Option.bind_some, if_true]
end Go.Proofs.Ytdjdbfcfopgdcaa.Pure
