/- StoreRead, in plain Lean: of a store that is ok both give the value of the last record of the address, or else the slow disk's. -/
import Derived.Test.YtdjdbfcfopgdcaaRo29
import Derived.IntWalk
namespace Go.Proofs.Ytdjdbfcfopgdcaa.Pure
open Go.RowKit Go.IntWalk Go.Proofs.Ytdjdbfcfopgdcaa.Ro Go.Proofs.YtdjdbfcfopgdcaaW Go.Proofs.YtdjdbfcfopgdcaaW.PrintWords Go.Proofs.YtdjdbfcfopgdcaaW.PrintLast
def Fits (l : List S85) : Prop := l.length ≤ 9223372036854775807 ∧ ∀ i : Nat, i < l.length → (rd_T85 l (i : Int)).f0.length ≤ 9223372036854775807
theorem fits_of {w : World} {A : Option Addr} {l : List S85} (h : Kd.C k85 w A l.length l) : Fits l := ⟨Kd.C_max h, fun i hi => by
  obtain ⟨_, _, _, _, _, _, _, h5⟩ := at_T85 h (i : Int) (by omega) (by omega)
  exact Kd.C_max h5⟩
def cPage (p : S136) : S91 := ⟨p.f0, ⟨p.f1.f0, p.f1.f1, p.f1.f2, p.f1.f3⟩⟩
def cBlock (b : S85) : S89 := ⟨b.f0.map cPage, b.f1⟩
theorem w64_up {i n : Nat} (h : i < n) (hn : n ≤ 9223372036854775807) : wrap64 ((i : Int) + 1) = ((i + 1 : Nat) : Int) := by
  rw [wrap64_in _ (by omega)]
  omega
theorem szPageS_ok (l : List S136) (a : Int) (hl : l.length ≤ 9223372036854775807) (h0 : 0 ≤ a) (h1 : a ≤ 1048576) :
    ∃ v, laws_szPageS.f l a = some v ∧ v ≤ a ∧ (0 ≤ v → l.length ≤ 1048576) := by
  unfold laws_szPageS.f
  rw [wrap64_in _ (by omega)]
  by_cases h : a - (l.length : Int) < 0
  · rw [if_pos h]
    exact ⟨_, rfl, by omega, fun hv => by omega⟩
  · rw [if_neg h]
    exact ⟨_, rfl, by omega, fun hv => by omega⟩
theorem szBlock_ok (l : List S136) (b a : Int) (hl : l.length ≤ 9223372036854775807) (h0 : 0 ≤ a) (h1 : a ≤ 1048576) :
    ∃ v, laws_szBlock.f l b a = some v ∧ v ≤ a ∧ (0 ≤ v → l.length ≤ 1048576) := by
  obtain ⟨v, hv, h2, h3⟩ := szPageS_ok l a hl h0 h1
  unfold laws_szBlock.f
  rw [hv, Option.bind_some]
  by_cases h : v < 0
  · rw [if_pos h]
    exact ⟨_, rfl, by omega, fun h => by omega⟩
  · rw [if_neg h]
    exact ⟨_, rfl, h2, h3⟩
theorem szLoop (l : List S85) (hl : Fits l) (K : Nat) : ∀ (n i : Nat) (a : Int), i + n = l.length → 0 ≤ a → a ≤ 1048576 →
    ∃ v, laws_szBlockS.l0 (K + n + 1) l a i = some v ∧ v ≤ a ∧ (0 ≤ v → ∀ j, i ≤ j → j < l.length → (rd_T85 l (j : Int)).f0.length ≤ 1048576)
  | 0, i, a, h, h0, h1 => by
    rw [laws_szBlockS.l0, if_neg (by omega)]
    exact ⟨_, rfl, by omega, fun _ j h2 h3 => by omega⟩
  | n + 1, i, a, h, h0, h1 => by
    obtain ⟨v, hv, h2, h3⟩ := szBlock_ok (rd_T85 l (i : Int)).f0 (rd_T85 l (i : Int)).f1 a (hl.2 i (by omega)) h0 h1
    rw [laws_szBlockS.l0, if_pos (by omega), if_pos (by omega), hv, Option.bind_some, w64_up (by omega : i < l.length) hl.1]
    by_cases hv0 : v < 0
    · rw [if_pos hv0]
      exact ⟨_, rfl, by omega, fun h => by omega⟩
    · rw [if_neg hv0]
      obtain ⟨u, hu, h4, h5⟩ := szLoop l hl K n (i + 1) v (by omega) (by omega) (by omega)
      refine ⟨u, hu, by omega, fun hu0 j hj hj2 => ?_⟩
      by_cases e : j = i
      · subst e
        exact h3 (by omega)
      · exact h5 hu0 j (by omega) hj2
theorem szBlockS_ok (l : List S85) (hl : Fits l) (k : Nat) (hk : l.length < k) :
    ∃ v, laws_szBlockS.f k l 1048576 = some v ∧ (0 ≤ v → l.length ≤ 1048576 ∧ ∀ j, j < l.length → (rd_T85 l (j : Int)).f0.length ≤ 1048576) := by
  unfold laws_szBlockS.f
  have := hl.1
  rw [wrap64_in _ (by omega)]
  by_cases h : (1048576 : Int) - (l.length : Int) < 0
  · rw [if_pos h]
    exact ⟨_, rfl, fun h => by omega⟩
  · rw [if_neg h]
    obtain ⟨v, hv, _, h2⟩ := szLoop l hl (k - l.length - 1) l.length 0 ((1048576 : Int) - (l.length : Int)) (by omega) (by omega) (by omega)
    rw [show k - l.length - 1 + l.length + 1 = k by omega] at hv
    exact ⟨v, hv, fun h0 => ⟨by omega, fun j hj => h2 h0 j (Nat.zero_le _) hj⟩⟩
theorem fill_step {α : Type} (xs : List α) (m : Nat) (z v : α) (i : Nat) (hi : xs.length = i) : (xs ++ List.replicate (m + 1) z).set i v = (xs ++ [v]) ++ List.replicate m z := by
  subst hi
  rw [List.set_append_right _ _ (Nat.le_refl _), Nat.sub_self, List.replicate_succ, List.set_cons_zero, List.append_assoc]
  rfl
theorem take_up_T136 {l : List S136} {i : Nat} (h : i < l.length) : l.take (i + 1) = l.take i ++ [rd_T136 l (i : Int)] := by
  rw [List.take_succ_eq_append_getElem h]
  simp [rd_T136, List.getD_eq_getElem?_getD, h]
theorem take_up_T85 {l : List S85} {i : Nat} (h : i < l.length) : l.take (i + 1) = l.take i ++ [rd_T85 l (i : Int)] := by
  rw [List.take_succ_eq_append_getElem h]
  simp [rd_T85, List.getD_eq_getElem?_getD, h]
theorem toPage_loop (l : List S136) (hl : l.length ≤ 9223372036854775807) (K : Nat) : ∀ (n i : Nat), i + n = l.length →
    laws_toPageS.l0 (K + n + 1) l ((l.take i).map cPage ++ List.replicate n z91) i = some (l.map cPage)
  | 0, i, h => by
    rw [laws_toPageS.l0, if_neg (by omega), List.take_of_length_le (by omega), List.replicate_zero, List.append_nil]
  | n + 1, i, h => by
    have hlen : ((l.take i).map cPage).length = i := by rw [List.length_map, List.length_take]; omega
    rw [laws_toPageS.l0, if_pos (by omega), if_pos (by omega), w64_up (by omega : i < l.length) hl]
    unfold laws_toPage.f laws_toRec.f
    rw [Option.bind_some, Option.bind_some, if_pos (by rw [List.length_append, hlen, List.length_replicate]; omega), Int.toNat_natCast, fill_step _ _ _ _ _ hlen]
    have ih := toPage_loop l hl K n (i + 1) (by omega)
    rw [take_up_T136 (by omega), List.map_append] at ih
    exact ih
theorem toPageS_ok (l : List S136) (hl : l.length ≤ 1048576) (k : Nat) (hk : l.length < k) : laws_toPageS.f k l = some (l.map cPage) := by
  unfold laws_toPageS.f
  rw [if_pos (by omega), Int.toNat_natCast, if_pos (by omega)]
  have := toPage_loop l (by omega) (k - l.length - 1) l.length 0 (by omega)
  rw [show k - l.length - 1 + l.length + 1 = k by omega] at this
  exact this
theorem toBlock_loop (l : List S85) (hl : l.length ≤ 1048576) (hp : ∀ j : Nat, j < l.length → (rd_T85 l (j : Int)).f0.length ≤ 1048576) (K : Nat) (hK : 1048576 < K) : ∀ (n i : Nat), i + n = l.length →
    laws_toBlockS.l0 (K + n + 1) l ((l.take i).map cBlock ++ List.replicate n z89) i = some (l.map cBlock)
  | 0, i, h => by
    rw [laws_toBlockS.l0, if_neg (by omega), List.take_of_length_le (by omega), List.replicate_zero, List.append_nil]
  | n + 1, i, h => by
    have hlen : ((l.take i).map cBlock).length = i := by rw [List.length_map, List.length_take]; omega
    rw [laws_toBlockS.l0, if_pos (by omega), if_pos (by omega), w64_up (by omega : i < l.length) (by omega)]
    unfold laws_toBlock.f
    rw [toPageS_ok _ (hp i (by omega)) _ (by have := hp i (by omega); omega), Option.bind_some, Option.bind_some, if_pos (by rw [List.length_append, hlen, List.length_replicate]; omega), Int.toNat_natCast, fill_step _ _ _ _ _ hlen]
    have ih := toBlock_loop l hl hp K hK n (i + 1) (by omega)
    rw [take_up_T85 (by omega), List.map_append] at ih
    exact ih
theorem toBlockS_ok (l : List S85) (hl : l.length ≤ 1048576) (hp : ∀ j : Nat, j < l.length → (rd_T85 l (j : Int)).f0.length ≤ 1048576) (k : Nat) (hk : l.length + 1048578 ≤ k) : laws_toBlockS.f k l = some (l.map cBlock) := by
  unfold laws_toBlockS.f
  rw [if_pos (by omega), Int.toNat_natCast, if_pos (by omega)]
  have := toBlock_loop l hl hp (k - l.length - 1) (by omega) l.length 0 (by omega)
  rw [show k - l.length - 1 + l.length + 1 = k by omega] at this
  exact this
theorem eqPage_loop (l : List S91) (hl : l.length ≤ 9223372036854775807) (K : Nat) : ∀ (n i : Nat), i + n = l.length → laws_eqPageS.l0 (K + n + 1) l l i = some true
  | 0, i, h => by rw [laws_eqPageS.l0, if_neg (by omega)]
  | n + 1, i, h => by
    rw [laws_eqPageS.l0, if_pos (by omega), if_pos (by omega), if_pos (by omega), w64_up (by omega : i < l.length) hl]
    unfold laws_eqPage.f laws_eqRec.f
    rw [if_pos rfl, if_pos rfl, if_pos rfl, if_pos rfl, if_pos rfl, Option.bind_some, if_pos rfl, Option.bind_some, if_pos rfl]
    exact eqPage_loop l hl K n (i + 1) (by omega)
theorem eqPageS_ok (l : List S91) (hl : l.length ≤ 1048576) (k : Nat) (hk : l.length < k) : laws_eqPageS.f k l l = some true := by
  unfold laws_eqPageS.f
  rw [if_pos rfl]
  have := eqPage_loop l (by omega) (k - l.length - 1) l.length 0 (by omega)
  rw [show k - l.length - 1 + l.length + 1 = k by omega] at this
  exact this
theorem eqBlock_loop (l : List S89) (hl : l.length ≤ 9223372036854775807) (hp : ∀ j : Nat, j < l.length → (rd_T89 l (j : Int)).f0.length ≤ 1048576) (K : Nat) (hK : 1048576 < K) : ∀ (n i : Nat), i + n = l.length → laws_eqBlockS.l0 (K + n + 1) l l i = some true
  | 0, i, h => by rw [laws_eqBlockS.l0, if_neg (by omega)]
  | n + 1, i, h => by
    rw [laws_eqBlockS.l0, if_pos (by omega), if_pos (by omega), if_pos (by omega), w64_up (by omega : i < l.length) hl]
    unfold laws_eqBlock.f
    rw [eqPageS_ok _ (hp i (by omega)) _ (by have := hp i (by omega); omega), Option.bind_some, if_pos rfl, if_pos rfl, Option.bind_some, if_pos rfl]
    exact eqBlock_loop l hl hp K hK n (i + 1) (by omega)
theorem eqBlockS_ok (l : List S89) (hl : l.length ≤ 1048576) (hp : ∀ j : Nat, j < l.length → (rd_T89 l (j : Int)).f0.length ≤ 1048576) (k : Nat) (hk : l.length + 1048578 ≤ k) : laws_eqBlockS.f k l l = some true := by
  unfold laws_eqBlockS.f
  rw [if_pos rfl]
  have := eqBlock_loop l (by omega) hp (k - l.length - 1) (by omega) l.length 0 (by omega)
  rw [show k - l.length - 1 + l.length + 1 = k by omega] at this
  exact this
theorem rd_cBlock (l : List S85) (j : Nat) (hj : j < l.length) : rd_T89 (l.map cBlock) (j : Int) = cBlock (rd_T85 l (j : Int)) := by
  simp [rd_T89, rd_T85, List.getD_eq_getElem?_getD, hj]
theorem cPages_len (l : List S85) (hp : ∀ j : Nat, j < l.length → (rd_T85 l (j : Int)).f0.length ≤ 1048576) : ∀ j : Nat, j < (l.map cBlock).length → (rd_T89 (l.map cBlock) (j : Int)).f0.length ≤ 1048576 := fun j hj => by
  rw [List.length_map] at hj
  rw [rd_cBlock l j hj]
  simpa [cBlock] using hp j hj
theorem copies_ok (l : List S85) (hl : Fits l) : ∃ v, laws_szBlockS.f (l.length + 1048578) l 1048576 = some v ∧ (¬ v < 0 →
    laws_toBlockS.f (l.length + 1048578) l = some (l.map cBlock) ∧ laws_eqBlockS.f (l.length + 1048578) (l.map cBlock) (l.map cBlock) = some true) := by
  obtain ⟨v, hv, hs⟩ := szBlockS_ok l hl (l.length + 1048578) (by omega)
  refine ⟨v, hv, fun h => ?_⟩
  obtain ⟨h1, h2⟩ := hs (by omega)
  exact ⟨toBlockS_ok l h1 h2 _ (Nat.le_refl _), eqBlockS_ok _ (by rw [List.length_map]; exact h1) (cPages_len l h2) _ (by rw [List.length_map]; exact Nat.le_refl _)⟩
theorem copies_ok_at (l : List S85) (hl : Fits l) (k : Nat) (hk : l.length + 1048579 ≤ k) : ∃ v, laws_szBlockS.f k l 1048576 = some v ∧ (¬ v < 0 →
    laws_toBlockS.f k l = some (l.map cBlock) ∧ laws_toBlockS.f (k - 1) l = some (l.map cBlock) ∧ laws_eqBlockS.f (k - 1) (l.map cBlock) (l.map cBlock) = some true) := by
  obtain ⟨v, hv, hs⟩ := szBlockS_ok l hl k (by omega)
  refine ⟨v, hv, fun h => ?_⟩
  obtain ⟨h1, h2⟩ := hs (by omega)
  exact ⟨toBlockS_ok l h1 h2 _ (by omega), toBlockS_ok l h1 h2 _ (by omega), eqBlockS_ok _ (by rw [List.length_map]; exact h1) (cPages_len l h2) _ (by rw [List.length_map]; omega)⟩
theorem rdB_cons {b : S89} {bs : List S89} (j : Nat) : rd_T89 (b :: bs) ((j + 1 : Nat) : Int) = rd_T89 bs (j : Int) := by
  unfold rd_T89
  rw [Int.toNat_natCast, Int.toNat_natCast]
  rfl
theorem blocksB_all : ∀ (l : List S89) (S : List Int), blocksB l S = true → ∀ j : Nat, j < l.length → blockB (rd_T89 l (j : Int)) = true
  | [], _, _, j, hj => by cases hj
  | b :: bs, S, h, j, hj => by
    rw [blocksB, Bool.and_eq_true] at h
    obtain ⟨h1, h2⟩ := h
    cases j with
    | zero => exact h1
    | succ j =>
      rw [rdB_cons]
      cases hp : pagesB b.f0 S with
      | none => rw [hp] at h2; cases h2
      | some S' =>
        rw [hp] at h2
        exact blocksB_all bs S' h2 j (by simpa using hj)
theorem flash_len {l : List S89} (h : flashOkB l = true) : l.length = 4 := by
  unfold flashOkB at h
  rw [Bool.and_eq_true, decide_eq_true_eq] at h
  omega
theorem flash_block {l : List S89} (h : flashOkB l = true) (j : Nat) (hj : j < 4) : (rd_T89 l (j : Int)).f0.length = 4 ∧ 0 ≤ (rd_T89 l (j : Int)).f1 ∧ (rd_T89 l (j : Int)).f1 ≤ 200 ∧ shapeB (rd_T89 l (j : Int)).f0 false = true := by
  have hl := flash_len h
  unfold flashOkB at h
  rw [Bool.and_eq_true] at h
  have := blocksB_all l [] h.2 j (by omega)
  unfold blockB at this
  rw [Bool.and_eq_true, decide_eq_true_eq] at this
  exact ⟨by omega, this.1.2.1, this.1.2.2, this.2⟩
theorem dropP_cons {l : List S91} {i : Nat} (h : i < l.length) : l.drop i = rd_T91 l (i : Int) :: l.drop (i + 1) := by
  rw [List.drop_eq_getElem_cons h]
  simp [rd_T91, List.getD_eq_getElem?_getD, h]
theorem pages_spotsB (i : Nat) : ∀ (j : Nat) (ps : List S91), (spotsB i j ps).map (·.2.2) = ps
  | _, [] => rfl
  | j, p :: ps => by rw [spotsB, List.map_cons, pages_spotsB i (j + 1) ps]
theorem pagesL_flat : ∀ (i : Nat) (l : List S89), (spotsF i l).map (·.2.2) = l.flatMap (·.f0)
  | _, [] => rfl
  | i, b :: bs => by rw [spotsF, List.map_append, pages_spotsB, pagesL_flat (i + 1) bs, List.flatMap_cons]
theorem pagesB_all : ∀ (ps : List S91) (S S' : List Int), pagesB ps S = some S' → ∀ p ∈ ps, pageB p = true
  | [], _, _, _, _, h => by cases h
  | p :: ps, S, S', h, q, hq => by
    rw [pagesB] at h
    by_cases hp : pageB p = true
    · rw [if_pos hp] at h
      rcases List.mem_cons.1 hq with rfl | hq
      · exact hp
      · by_cases h1 : p.f0 = 1
        · rw [if_pos h1] at h
          by_cases hm : p.f1.f1 ∈ S
          · rw [if_pos hm] at h; cases h
          · rw [if_neg hm] at h; exact pagesB_all ps _ _ h q hq
        · rw [if_neg h1] at h; exact pagesB_all ps _ _ h q hq
    · rw [if_neg hp] at h; cases h
theorem blocksB_pages : ∀ (l : List S89) (S : List Int), blocksB l S = true → ∀ b ∈ l, ∀ p ∈ b.f0, pageB p = true
  | [], _, _, _, h, _, _ => by cases h
  | b :: bs, S, h, c, hc, p, hp => by
    rw [blocksB, Bool.and_eq_true] at h
    cases he : pagesB b.f0 S with
    | none => rw [he] at h; exact absurd h.2 (by simp)
    | some S' =>
      rw [he] at h
      rcases List.mem_cons.1 hc with rfl | hc
      · exact pagesB_all _ _ _ he p hp
      · exact blocksB_pages bs S' h.2 c hc p hp
theorem flash_pages {l : List S89} (h : flashOkB l = true) : ∀ b ∈ l, ∀ p ∈ b.f0, pageB p = true := by
  unfold flashOkB at h
  rw [Bool.and_eq_true] at h
  exact blocksB_pages l [] h.2
theorem page_written {p : S91} (h : pageB p = true) (h1 : p.f0 = 1) : (p.f1.f0 = 1 ∨ p.f1.f0 = 2) ∧ 1 ≤ p.f1.f1 ∧ p.f1.f1 ≤ 600 ∧ 1 ≤ p.f1.f2 ∧ p.f1.f2 ≤ 6 ∧ 0 ≤ p.f1.f3 ∧ p.f1.f3 ≤ 9 := by
  unfold pageB at h
  rw [if_pos h1] at h
  unfold recOkB at h
  simp only [decide_eq_true_eq] at h
  omega
theorem page_other {p : S91} (h : pageB p = true) (h1 : p.f0 ≠ 1) : p.f1.f0 = 0 ∧ p.f1.f1 = 0 ∧ p.f1.f2 = 0 ∧ p.f1.f3 = 0 := by
  unfold pageB at h
  rw [if_neg h1] at h
  split at h
  · simp only [Bool.and_eq_true, beq_iff_eq] at h
    exact h
  · cases h
theorem page_seq {p : S91} (h : pageB p = true) : 0 ≤ p.f1.f1 ∧ p.f1.f1 ≤ 600 := by
  by_cases h1 : p.f0 = 1
  · have := page_written h h1
    omega
  · have := page_other h h1
    omega
theorem dropB_cons {l : List S89} {i : Nat} (h : i < l.length) : l.drop i = rd_T89 l (i : Int) :: l.drop (i + 1) := by
  rw [List.drop_eq_getElem_cons h]
  simp [rd_T89, List.getD_eq_getElem?_getD, h]
theorem rdB_mem {l : List S89} {i : Nat} (h : i < l.length) : rd_T89 l (i : Int) ∈ l := by
  simp [rd_T89, List.getD_eq_getElem?_getD, h]
theorem rdP_mem {l : List S91} {i : Nat} (h : i < l.length) : rd_T91 l (i : Int) ∈ l := by
  simp [rd_T91, List.getD_eq_getElem?_getD, h]
def mostP (m : Int) (ps : List S91) : Int := ps.foldl (fun m p => mx m p.f1.f1) m
theorem mostP_cons (m : Int) (p : S91) (ps : List S91) : mostP m (p :: ps) = mostP (mx m p.f1.f1) ps := rfl
theorem mostP_shift : ∀ (ps : List S91) (m : Int), 0 ≤ m → (∀ p ∈ ps, 0 ≤ p.f1.f1) → mostP m ps = mx m (mostP 0 ps) ∧ 0 ≤ mostP 0 ps
  | [], m, hm, _ => by
    show m = mx m 0 ∧ (0 : Int) ≤ 0
    exact ⟨by unfold mx; rw [if_neg (by omega)], by omega⟩
  | p :: ps, m, hm, h => by
    have hp := h p (by simp)
    have hr : ∀ q ∈ ps, 0 ≤ q.f1.f1 := fun q hq => h q (by simp [hq])
    have h1 := (mostP_shift ps (mx m p.f1.f1) (by unfold mx; split <;> omega) hr).1
    have h2 := mostP_shift ps (mx 0 p.f1.f1) (by unfold mx; split <;> omega) hr
    rw [mostP_cons, mostP_cons, h1, h2.1]
    have h3 := h2.2
    generalize mostP 0 ps = y at *
    unfold mx
    constructor
    · repeat' split
      all_goals omega
    · repeat' split
      all_goals omega
theorem most_loop (l : List S91) (b : Int) (hl : l.length ≤ 1048576) (K : Nat) : ∀ (n i : Nat) (m : Int), i + n = l.length → spec_l3Most.l0 (K + n + 1) m (i : Int) l b = some (mostP m (l.drop i))
  | 0, i, m, h => by
    rw [spec_l3Most.l0, if_neg (by omega), List.drop_eq_nil_of_le (by omega)]
    rfl
  | n + 1, i, m, h => by
    have ih := fun m => most_loop l b hl K n (i + 1) m (by omega)
    have e1 : wrap64 ((i : Int) + 1) = ((i + 1 : Nat) : Int) := by rw [wrap64_in _ (by omega)]; omega
    rw [dropP_cons (by omega : i < l.length), mostP_cons, spec_l3Most.l0, if_pos (by omega), if_pos (by omega), e1]
    exact ih _
theorem l3Most_ok (l : List S91) (b : Int) (hl : l.length ≤ 1048576) (k : Nat) (hk : l.length < k) : spec_l3Most.f k l b = some (mostP 0 l) := by
  have := most_loop l b hl (k - l.length - 1) l.length 0 0 (by omega)
  rw [show k - l.length - 1 + l.length + 1 = k by omega, List.drop_zero] at this
  exact this
theorem spans_foldB (i : Nat) : ∀ (ps : List S91) (j : Nat) (s : Spans), (spotsB i j ps).foldl spansStep s = fun k => if k = i then ps.foldl stepSpan (s i) else s k
  | [], _, s => by
    funext k
    by_cases h : k = i
    · subst h
      rw [if_pos rfl]
      rfl
    · rw [if_neg h]
      rfl
  | p :: ps, j, s => by
    rw [spotsB, List.foldl_cons, spans_foldB i ps (j + 1)]
    funext k
    by_cases h : k = i
    · rw [if_pos h, if_pos h, List.foldl_cons]
      unfold spansStep
      rw [if_pos rfl]
    · rw [if_neg h, if_neg h]
      unfold spansStep
      rw [if_neg h]
theorem spans_foldF : ∀ (l : List S89) (i : Nat) (s : Spans) (k : Nat), (∀ j : Nat, j < l.length → k = i + j → (spotsF i l).foldl spansStep s k = (rd_T89 l (j : Int)).f0.foldl stepSpan (s k)) ∧ (k < i → (spotsF i l).foldl spansStep s k = s k)
  | [], i, s, k => ⟨fun j h => absurd h (by simp), fun _ => rfl⟩
  | b :: bs, i, s, k => by
    have ih := spans_foldF bs (i + 1) (fun k => if k = i then b.f0.foldl stepSpan (s i) else s k) k
    rw [spotsF, List.foldl_append, spans_foldB]
    refine ⟨fun j hj hk => ?_, fun hk => ?_⟩
    · cases j with
      | zero =>
        rw [ih.2 (by omega), if_pos (by omega), show k = i by omega]
        rfl
      | succ j =>
        have hr := ih.1 j (by simpa using hj) (by omega)
        rw [hr, if_neg (by omega), rdB_cons]
    · rw [ih.2 (by omega), if_neg (by omega)]
theorem spansF_at {l : List S89} (k : Nat) (hk : k < l.length) : spansF l k = (rd_T89 l (k : Int)).f0.foldl stepSpan (0, 0) := (spans_foldF l 0 (fun _ => (0, 0)) k).1 k hk (by omega)
theorem span_hi : ∀ (ps : List S91) (s : Int × Int), 0 ≤ s.2 → (∀ p ∈ ps, pageB p = true) → (ps.foldl stepSpan s).2 = mostP s.2 ps
  | [], _, _, _ => rfl
  | p :: ps, s, hs, h => by
    have hr : ∀ q ∈ ps, pageB q = true := fun q hq => h q (by simp [hq])
    have hq := page_seq (h p (by simp))
    have e : (stepSpan s p).2 = mx s.2 p.f1.f1 := by
      unfold stepSpan
      by_cases h1 : p.f0 = 1
      · rw [if_pos h1]
      · rw [if_neg h1, (page_other (h p (by simp)) h1).2.1]
        unfold mx
        rw [if_neg (by omega)]
    rw [List.foldl_cons, mostP_cons, span_hi ps _ (by rw [e]; unfold mx; split <;> omega) hr, e]
theorem spansF_hi {l : List S89} (hf : flashOkB l = true) (k : Nat) (hk : k < 4) : (spansF l k).2 = mostP 0 (rd_T89 l (k : Int)).f0 := by
  have hl := flash_len hf
  rw [spansF_at k (by omega), span_hi _ _ (by simp) (flash_pages hf _ (rdB_mem (by omega)))]
theorem pagesB_seqs : ∀ (ps : List S91) (S S' : List Int), pagesB ps S = some S' → (∀ x ∈ S, x ∈ S') ∧ ∀ p ∈ ps, p.f0 = 1 → p.f1.f1 ∈ S' ∧ p.f1.f1 ∉ S
  | [], S, S', h => by
    rw [pagesB] at h
    cases h
    exact ⟨fun x hx => hx, fun p hp => by cases hp⟩
  | p :: ps, S, S', h => by
    rw [pagesB] at h
    by_cases hp : pageB p = true
    · rw [if_pos hp] at h
      by_cases h1 : p.f0 = 1
      · rw [if_pos h1] at h
        by_cases hm : p.f1.f1 ∈ S
        · rw [if_pos hm] at h; cases h
        · rw [if_neg hm] at h
          obtain ⟨i1, i2⟩ := pagesB_seqs ps _ _ h
          refine ⟨fun x hx => i1 x (by simp [hx]), fun q hq hq1 => ?_⟩
          rcases List.mem_cons.1 hq with rfl | hq
          · exact ⟨i1 _ (by simp), hm⟩
          · exact ⟨(i2 q hq hq1).1, fun hs => (i2 q hq hq1).2 (by simp [hs])⟩
      · rw [if_neg h1] at h
        obtain ⟨i1, i2⟩ := pagesB_seqs ps _ _ h
        refine ⟨i1, fun q hq hq1 => ?_⟩
        rcases List.mem_cons.1 hq with rfl | hq
        · exact absurd hq1 h1
        · exact i2 q hq hq1
    · rw [if_neg hp] at h; cases h
theorem blocksB_new : ∀ (l : List S89) (S : List Int), blocksB l S = true → ∀ b ∈ l, ∀ q ∈ b.f0, q.f0 = 1 → q.f1.f1 ∉ S
  | [], _, _, _, h, _, _ => by cases h
  | b :: bs, S, h, c, hc, q, hq => by
    rw [blocksB, Bool.and_eq_true] at h
    cases he : pagesB b.f0 S with
    | none => rw [he] at h; exact absurd h.2 (by simp)
    | some S' =>
      rw [he] at h
      obtain ⟨i1, i2⟩ := pagesB_seqs _ _ _ he
      rcases List.mem_cons.1 hc with rfl | hc
      · exact fun h1 => (i2 q hq h1).2
      · exact fun h1 hs => blocksB_new bs S' h.2 c hc q hq h1 (i1 _ hs)
theorem blocksB_apart : ∀ (l : List S89) (S : List Int), blocksB l S = true → ∀ i j : Nat, i < j → j < l.length → ∀ p ∈ (rd_T89 l (i : Int)).f0, ∀ q ∈ (rd_T89 l (j : Int)).f0, p.f0 = 1 → q.f0 = 1 → p.f1.f1 ≠ q.f1.f1
  | [], _, _, _, j, _, hj, _, _, _, _ => by cases hj
  | b :: bs, S, h, i, j, hij, hj, p, hp, q, hq => by
    rw [blocksB, Bool.and_eq_true] at h
    cases he : pagesB b.f0 S with
    | none => rw [he] at h; exact absurd h.2 (by simp)
    | some S' =>
      rw [he] at h
      obtain ⟨i1, i2⟩ := pagesB_seqs _ _ _ he
      obtain ⟨j, rfl⟩ : ∃ m, j = m + 1 := ⟨j - 1, by omega⟩
      rw [List.length_cons] at hj
      rw [rdB_cons] at hq
      cases i with
      | zero => exact fun h1 h2 e => blocksB_new bs S' h.2 _ (rdB_mem (by omega)) q hq h2 (e ▸ (i2 p hp h1).1)
      | succ i =>
        rw [rdB_cons] at hp
        exact blocksB_apart bs S' h.2 i j (by omega) (by omega) p hp q hq
theorem flash_apart {l : List S89} (hf : flashOkB l = true) {i j : Nat} (hi : i < 4) (hj : j < 4) (hne : i ≠ j) {p q : S91} (hp : p ∈ (rd_T89 l (i : Int)).f0) (hq : q ∈ (rd_T89 l (j : Int)).f0) (h1 : p.f1.f1 > 0) (h2 : q.f1.f1 > 0) : p.f1.f1 ≠ q.f1.f1 := by
  have hl := flash_len hf
  have hw : ∀ (m : Nat), m < 4 → ∀ r ∈ (rd_T89 l (m : Int)).f0, r.f1.f1 > 0 → r.f0 = 1 := fun m hm r hr h => by
    by_cases h0 : r.f0 = 1
    · exact h0
    · have := (page_other (flash_pages hf _ (rdB_mem (by omega)) r hr) h0).2.1
      omega
  have h1' := hw i hi p hp h1
  have h2' := hw j hj q hq h2
  unfold flashOkB at hf
  rw [Bool.and_eq_true] at hf
  rcases Nat.lt_or_ge i j with h | h
  · exact blocksB_apart l [] hf.2 i j h (by omega) p hp q hq h1' h2'
  · exact fun e => blocksB_apart l [] hf.2 j i (by omega) (by omega) q hq p hp h2' h1' e.symm
theorem mostP_is : ∀ (ps : List S91) (m : Int), mostP m ps = m ∨ ∃ p ∈ ps, p.f1.f1 = mostP m ps
  | [], m => .inl rfl
  | p :: ps, m => by
    rw [mostP_cons]
    rcases mostP_is ps (mx m p.f1.f1) with h | ⟨q, hq, h⟩
    · rw [h]
      unfold mx
      split
      · exact .inr ⟨p, by simp, rfl⟩
      · exact .inl rfl
    · exact .inr ⟨q, by simp [hq], h⟩
theorem leastQ_is : ∀ (ps : List S91) (m : Int), leastQ m ps = m ∨ ∃ p ∈ ps, p.f1.f1 > 0 ∧ p.f1.f1 = leastQ m ps
  | [], m => .inl rfl
  | p :: ps, m => by
    have e : leastQ m (p :: ps) = leastQ (leastStep m p) ps := rfl
    rw [e]
    rcases leastQ_is ps (leastStep m p) with h | ⟨q, hq, h⟩
    · rw [h]
      unfold leastStep
      split
      · rename_i h0
        exact .inr ⟨p, by simp, h0.1, rfl⟩
      · exact .inl rfl
    · exact .inr ⟨q, by simp [hq], h⟩
theorem leastQ_pos : ∀ (ps : List S91) (m : Int), 0 ≤ m → (0 < m ∨ ∃ p ∈ ps, p.f1.f1 > 0) → 0 < leastQ m ps
  | [], m, _, h => by
    rcases h with h | ⟨p, hp, _⟩
    · exact h
    · cases hp
  | p :: ps, m, hm, h => by
    show 0 < leastQ (leastStep m p) ps
    refine leastQ_pos ps _ (by unfold leastStep; split <;> omega) ?_
    unfold leastStep
    by_cases h1 : p.f1.f1 > 0
    · left
      split
      · omega
      · rename_i h2
        by_cases h3 : m = 0
        · exact absurd ⟨h1, Or.inl h3⟩ h2
        · omega
    · rw [if_neg (fun h => h1 h.1)]
      rcases h with h | ⟨q, hq, hq1⟩
      · exact .inl h
      · rcases List.mem_cons.1 hq with rfl | hq
        · exact absurd hq1 h1
        · exact .inr ⟨q, hq, hq1⟩
theorem span_lo : ∀ (ps : List S91) (s : Int × Int), (∀ p ∈ ps, pageB p = true) → (ps.foldl stepSpan s).1 = leastQ s.1 ps
  | [], _, _ => rfl
  | p :: ps, s, h => by
    have hr : ∀ q ∈ ps, pageB q = true := fun q hq => h q (by simp [hq])
    have e : (stepSpan s p).1 = leastStep s.1 p := by
      unfold stepSpan leastStep
      by_cases h1 : p.f0 = 1
      · have hw := page_written (h p (by simp)) h1
        rw [if_pos h1]
        by_cases h2 : s.1 = 0 ∨ p.f1.f1 < s.1
        · rw [if_pos h2, if_pos ⟨by omega, h2⟩]
        · rw [if_neg h2, if_neg (fun h => h2 h.2)]
      · rw [if_neg h1, if_neg (fun q => by have := (page_other (h p (by simp)) h1).2.1; omega)]
    rw [List.foldl_cons, span_lo ps _ hr, e]
    rfl
theorem spansF_lo {l : List S89} (hf : flashOkB l = true) (k : Nat) (hk : k < 4) : (spansF l k).1 = leastQ 0 (rd_T89 l (k : Int)).f0 := by
  have hl := flash_len hf
  rw [spansF_at k (by omega), span_lo _ _ (flash_pages hf _ (rdB_mem (by omega)))]
theorem cross_apart {l : List S89} (hf : flashOkB l = true) {i j : Nat} (hi : i < 4) (hj : j < 4) (hne : i ≠ j) (h1 : 0 < (spansF l i).2) (h2 : 0 < (spansF l j).2) : (spansF l i).2 ≠ (spansF l j).1 := by
  rw [spansF_hi hf i hi] at h1 ⊢
  rw [spansF_hi hf j hj] at h2
  rw [spansF_lo hf j hj]
  obtain ⟨p, hp, ep⟩ := (mostP_is (rd_T89 l (i : Int)).f0 0).resolve_left (by omega)
  obtain ⟨q0, hq0, eq0⟩ := (mostP_is (rd_T89 l (j : Int)).f0 0).resolve_left (by omega)
  have hpos := leastQ_pos (rd_T89 l (j : Int)).f0 0 (by omega) (.inr ⟨q0, hq0, by omega⟩)
  obtain ⟨q, hq, hq1, eq1⟩ := (leastQ_is (rd_T89 l (j : Int)).f0 0).resolve_left (by omega)
  have := flash_apart hf hi hj hne hp hq (by omega) hq1
  omega
theorem overI_iff (s : Spans) (i : Nat) : ∀ n, overI s i n = true ↔ ∃ j, j < n ∧ crossB (s i) (s j) = true
  | 0 => ⟨fun h => (by cases h), fun ⟨j, h, _⟩ => (by omega)⟩
  | n + 1 => by
    rw [overI, Bool.or_eq_true, overI_iff s i n]
    constructor
    · rintro (⟨j, h, h2⟩ | h)
      · exact ⟨j, by omega, h2⟩
      · exact ⟨n, by omega, h⟩
    · rintro ⟨j, h, h2⟩
      by_cases e : j = n
      · subst e; exact .inr h2
      · exact .inl ⟨j, by omega, h2⟩
theorem overN_iff (s : Spans) : ∀ n, overN s n = true ↔ ∃ i j, j < i ∧ i < n ∧ crossB (s i) (s j) = true
  | 0 => ⟨fun h => (by cases h), fun ⟨i, j, _, h, _⟩ => (by omega)⟩
  | n + 1 => by
    rw [overN, Bool.or_eq_true, overN_iff s n, overI_iff]
    constructor
    · rintro (⟨i, j, h, h1, h2⟩ | ⟨j, h, h2⟩)
      · exact ⟨i, j, h, by omega, h2⟩
      · exact ⟨n, j, h, by omega, h2⟩
    · rintro ⟨i, j, h, h1, h2⟩
      by_cases e : i = n
      · subst e; exact .inr ⟨j, h, h2⟩
      · exact .inl ⟨i, j, h, by omega, h2⟩
theorem badN_iff (l : List S89) (s : Spans) (m : Int) : ∀ n, badN l s m n = true ↔ ∃ i, i < n ∧ partB (rd_T89 l (i : Int)) = true ∧ 0 < (s i).2 ∧ (s i).2 < m
  | 0 => ⟨fun h => (by cases h), fun ⟨j, h, _⟩ => (by omega)⟩
  | n + 1 => by
    rw [badN, Bool.or_eq_true, badN_iff l s m n, Bool.and_eq_true, decide_eq_true_eq]
    constructor
    · rintro (⟨j, h, h2⟩ | ⟨h, h2, h3⟩)
      · exact ⟨j, by omega, h2⟩
      · exact ⟨n, by omega, h, h2, h3⟩
    · rintro ⟨j, h, h2, h3⟩
      by_cases e : j = n
      · subst e; exact .inr ⟨h2, h3⟩
      · exact .inl ⟨j, by omega, h2, h3⟩
theorem newestN_lt (s : Spans) (x : Int) (hx : 0 ≤ x) : ∀ n, x < newestN s n ↔ ∃ k, k < n ∧ x < (s k).2
  | 0 => ⟨fun h => (by rw [newestN] at h; omega), fun ⟨j, h, _⟩ => (by omega)⟩
  | n + 1 => by
    have ih := newestN_lt s x hx n
    have e : x < mx (newestN s n) (s n).2 ↔ x < newestN s n ∨ x < (s n).2 := by
      unfold mx
      split <;> omega
    rw [newestN, e, ih]
    constructor
    · rintro (⟨j, h, h2⟩ | h)
      · exact ⟨j, by omega, h2⟩
      · exact ⟨n, by omega, h⟩
    · rintro ⟨j, h, h2⟩
      by_cases e : j = n
      · subst e; exact .inr h2
      · exact .inl ⟨j, by omega, h2⟩
theorem partN_one (l : List S89) : ∀ n, 1 ≤ partN l n ↔ ∃ i, i < n ∧ partB (rd_T89 l (i : Int)) = true
  | 0 => ⟨fun h => (by rw [partN] at h; omega), fun ⟨j, h, _⟩ => (by omega)⟩
  | n + 1 => by
    have ih := partN_one l n
    rw [partN]
    constructor
    · intro h
      by_cases hp : partB (rd_T89 l (n : Int)) = true
      · exact ⟨n, by omega, hp⟩
      · rw [if_neg hp] at h
        obtain ⟨i, h1, h2⟩ := ih.1 (by omega)
        exact ⟨i, by omega, h2⟩
    · rintro ⟨j, h, h2⟩
      by_cases e : j = n
      · subst e; rw [if_pos h2]; omega
      · have := ih.2 ⟨j, by omega, h2⟩
        omega
theorem partN_two (l : List S89) : ∀ n, 2 ≤ partN l n ↔ ∃ i j, j < i ∧ i < n ∧ partB (rd_T89 l (i : Int)) = true ∧ partB (rd_T89 l (j : Int)) = true
  | 0 => ⟨fun h => (by rw [partN] at h; omega), fun ⟨i, j, _, h, _⟩ => (by omega)⟩
  | n + 1 => by
    have ih := partN_two l n
    have i1 := partN_one l n
    rw [partN]
    constructor
    · intro h
      by_cases hp : partB (rd_T89 l (n : Int)) = true
      · rw [if_pos hp] at h
        obtain ⟨j, h1, h2⟩ := i1.1 (by omega)
        exact ⟨n, j, h1, by omega, hp, h2⟩
      · rw [if_neg hp] at h
        obtain ⟨i, j, h1, h2, h3⟩ := ih.1 (by omega)
        exact ⟨i, j, h1, by omega, h3⟩
    · rintro ⟨i, j, h, h1, h2, h3⟩
      by_cases e : i = n
      · subst e
        have := i1.2 ⟨j, h, h3⟩
        rw [if_pos h2]
        omega
      · have := ih.2 ⟨i, j, h, by omega, h2, h3⟩
        omega
theorem rowB_iff (l : List S89) (i : Nat) : ∀ n, rowB l i n = true ↔ ∃ j, j < n ∧ pairB l i j = true
  | 0 => ⟨fun h => (by cases h), fun ⟨j, h, _⟩ => (by omega)⟩
  | n + 1 => by
    rw [rowB, Bool.or_eq_true, rowB_iff l i n]
    constructor
    · rintro (⟨j, h, h2⟩ | h)
      · exact ⟨j, by omega, h2⟩
      · exact ⟨n, by omega, h⟩
    · rintro ⟨j, h, h2⟩
      by_cases e : j = n
      · subst e; exact .inr h2
      · exact .inl ⟨j, by omega, h2⟩
theorem allB_iff (l : List S89) : ∀ n, allB l n = true ↔ ∃ i j, i < n ∧ j < 4 ∧ pairB l i j = true
  | 0 => ⟨fun h => (by cases h), fun ⟨j, _, h, _⟩ => (by omega)⟩
  | n + 1 => by
    rw [allB, Bool.or_eq_true, allB_iff l n, rowB_iff]
    constructor
    · rintro (⟨i, j, h, h1, h2⟩ | ⟨j, h, h2⟩)
      · exact ⟨i, j, by omega, h1, h2⟩
      · exact ⟨n, j, by omega, h, h2⟩
    · rintro ⟨i, j, h, h1, h2⟩
      by_cases e : i = n
      · subst e; exact .inr ⟨j, h1, h2⟩
      · exact .inl ⟨i, j, by omega, h1, h2⟩
theorem order_same (l : List S89) : specOrderB l = orderI l := by
  unfold specOrderB orderI
  cases hf : flashOkB l with
  | false => rfl
  | true =>
    rw [Bool.true_and, Bool.true_and]
    have hM : ∀ j : Nat, j < 4 → mostQ 0 (rd_T89 l (j : Int)).f0 = (spansF l j).2 := fun j hj => (spansF_hi hf j hj).symm
    have hL : ∀ j : Nat, j < 4 → leastQ 0 (rd_T89 l (j : Int)).f0 = (spansF l j).1 := fun j hj => (spansF_lo hf j hj).symm
    have hP : ∀ i k : Nat, i < 4 → k < 4 → (pairB l i k = true ↔ i ≠ k ∧ ((0 < (spansF l i).2 ∧ 0 < (spansF l k).2 ∧ (spansF l i).1 < (spansF l k).2 ∧ (spansF l k).1 < (spansF l i).2) ∨ (partB (rd_T89 l (i : Int)) = true ∧ (partB (rd_T89 l (k : Int)) = true ∨ (0 < (spansF l i).2 ∧ (spansF l i).2 < (spansF l k).2))))) := fun i k hi hk => by
      unfold pairB c11B c13B partB
      rw [Bool.or_eq_true, hM i hi, hM k hk, hL i hi, hL k hk]
      simp only [decide_eq_true_eq]
      omega
    have key : allB l 4 = true ↔ (overN (spansF l) 4 = true ∨ badN l (spansF l) (newestN (spansF l) 4) 4 = true ∨ 2 ≤ partN l 4) := by
      rw [allB_iff, overN_iff, badN_iff, partN_two]
      constructor
      · rintro ⟨i, k, hi, hk, h⟩
        obtain ⟨hne, h | ⟨h1, h2 | ⟨h2, h3⟩⟩⟩ := (hP i k hi hk).1 h
        · left
          rcases Nat.lt_or_ge k i with hc | hc
          · exact ⟨i, k, hc, hi, by unfold crossB; simp only [decide_eq_true_eq]; omega⟩
          · exact ⟨k, i, by omega, hk, by unfold crossB; simp only [decide_eq_true_eq]; omega⟩
        · right; right
          rcases Nat.lt_or_ge k i with hc | hc
          · exact ⟨i, k, hc, hi, h1, h2⟩
          · exact ⟨k, i, by omega, hk, h2, h1⟩
        · right; left
          exact ⟨i, hi, h1, h2, (newestN_lt (spansF l) _ (by omega) 4).2 ⟨k, hk, h3⟩⟩
      · rintro (⟨i, j, hji, hi, h⟩ | ⟨i, hi, h1, h2, h3⟩ | ⟨i, j, hji, hi, h1, h2⟩)
        · unfold crossB at h
          simp only [decide_eq_true_eq] at h
          have a1 := cross_apart hf hi (by omega : j < 4) (by omega) h.1 h.2.1
          have a2 := cross_apart hf (by omega : j < 4) hi (by omega) h.2.1 h.1
          exact ⟨i, j, hi, by omega, (hP i j hi (by omega)).2 ⟨by omega, .inl (by omega)⟩⟩
        · obtain ⟨k, hk, h4⟩ := (newestN_lt (spansF l) _ (by omega) 4).1 h3
          exact ⟨i, k, hi, hk, (hP i k hi hk).2 ⟨fun e => by subst e; omega, .inr ⟨h1, .inr ⟨h2, h4⟩⟩⟩⟩
        · exact ⟨i, j, hi, by omega, (hP i j hi (by omega)).2 ⟨by omega, .inr ⟨h1, .inl h2⟩⟩⟩
    have hd : decide (partN l 4 ≤ 1) = !decide (2 ≤ partN l 4) := by
      by_cases h : partN l 4 ≤ 1
      · rw [decide_eq_true h, decide_eq_false (by omega)]; rfl
      · rw [decide_eq_false h, decide_eq_true (by omega)]; rfl
    rw [hd]
    cases ha : allB l 4 with
    | false =>
      have hn : ¬ (overN (spansF l) 4 = true ∨ badN l (spansF l) (newestN (spansF l) 4) 4 = true ∨ 2 ≤ partN l 4) := fun h => by rw [key.2 h] at ha; cases ha
      cases ho : overN (spansF l) 4 with
      | true => exact absurd (.inl ho) hn
      | false =>
        cases hb : badN l (spansF l) (newestN (spansF l) 4) 4 with
        | true => exact absurd (.inr (.inl hb)) hn
        | false => rw [decide_eq_false (fun h => hn (.inr (.inr h)))]; rfl
    | true =>
      rcases key.1 ha with h | h | h
      · rw [h]; rfl
      · rw [h]; simp
      · rw [decide_eq_true h]; simp
def lastStep (a : Int) (r : S26) (p : S91) : S26 := if p.f0 = 1 ∧ p.f1.f2 = a ∧ p.f1.f1 > r.f1 then p.f1 else r
def lastA (l : List S89) (a : Int) : S26 := (pagesL l).foldl (lastStep a) ⟨0, 0, 0, 0⟩
theorem spec_last_loops (l : List S89) (a : Int) (hl : l.length ≤ 1048576) (K : Nat) (hb : ∀ b ∈ l, b.f0.length ≤ K) (hK : K ≤ 1048576) :
    ∀ (n i : Nat) (r : S26), i + n = l.length → spec_l3Last.l0 ((K + 2) * n + 1) l a (i : Int) r.f0 r.f1 r.f2 r.f3 = some (let q := ((l.drop i).flatMap (·.f0)).foldl (lastStep a) r; (q.f0, q.f1, q.f2, q.f3, decide (q.f1 > 0)))
  | 0, i, r, h => by
    rw [show (K + 2) * 0 + 1 = 0 + 1 by omega, spec_l3Last.l0, if_neg (by omega), List.drop_eq_nil_of_le (by omega)]
    rfl
  | n + 1, i, r, h => by
    have ih := fun r => spec_last_loops l a hl K hb hK n (i + 1) r (by omega)
    have e1 : wrap64 ((i : Int) + 1) = ((i + 1 : Nat) : Int) := by rw [wrap64_in _ (by omega)]; omega
    have hbi := hb _ (rdB_mem (by omega : i < l.length))
    have inner : ∀ (m j : Nat) (r : S26), j + m = (rd_T89 l (i : Int)).f0.length → spec_l3Last.l1 ((K + 2) * n + 1 + (m + 1)) l a (i : Int) (j : Int) r.f0 r.f1 r.f2 r.f3 =
        some (let q := (((rd_T89 l (i : Int)).f0.drop j) ++ ((l.drop (i + 1)).flatMap (·.f0))).foldl (lastStep a) r; (q.f0, q.f1, q.f2, q.f3, decide (q.f1 > 0))) := by
      intro m
      induction m with
      | zero =>
        intro j r hj
        rw [show (K + 2) * n + 1 + (0 + 1) = (K + 2) * n + 1 + 1 by omega, spec_l3Last.l1, if_pos (by omega), if_pos (by omega), if_neg (by omega), e1, List.drop_eq_nil_of_le (by omega), List.nil_append]
        exact ih r
      | succ m im =>
        intro j r hj
        have e2 : wrap64 ((j : Int) + 1) = ((j + 1 : Nat) : Int) := by rw [wrap64_in _ (by omega)]; omega
        rw [show (K + 2) * n + 1 + (m + 1 + 1) = (K + 2) * n + 1 + (m + 1) + 1 by omega, spec_l3Last.l1, if_pos (by omega), if_pos (by omega), if_pos (by omega), if_pos (by omega), e2, dropP_cons (by omega : j < (rd_T89 l (i : Int)).f0.length), List.cons_append, List.foldl_cons]
        unfold lastStep
        by_cases h1 : (rd_T91 (rd_T89 l (i : Int)).f0 (j : Int)).f0 = 1
        · rw [if_pos h1]
          by_cases h2 : (rd_T91 (rd_T89 l (i : Int)).f0 (j : Int)).f1.f2 = a
          · rw [if_pos h2]
            by_cases h3 : (rd_T91 (rd_T89 l (i : Int)).f0 (j : Int)).f1.f1 > r.f1
            · rw [if_pos h3, if_pos ⟨h1, h2, h3⟩]
              exact im (j + 1) _ (by omega)
            · rw [if_neg h3, if_neg (fun h => h3 h.2.2)]
              exact im (j + 1) r (by omega)
          · rw [if_neg h2, if_neg (fun h => h2 h.2.1)]
            exact im (j + 1) r (by omega)
        · rw [if_neg h1, if_neg (fun h => h1 h.1)]
          exact im (j + 1) r (by omega)
    have hlift := inner ((rd_T89 l (i : Int)).f0.length) 0 r (by omega)
    rw [dropB_cons (by omega : i < l.length), List.flatMap_cons]
    rw [List.drop_zero] at hlift
    refine at_rounds (g := fun k => spec_l3Last.l0 k l a (i : Int) r.f0 r.f1 r.f2 r.f3) (fun k => (spec_l3Last.mono_l k).1 _ _ _ _ _ _ _) (k := (K + 2) * n + 1 + ((rd_T89 l (i : Int)).f0.length + 1) + 1) (by rw [Nat.mul_add]; omega) ?_
    show spec_l3Last.l0 _ _ _ _ _ _ _ _ = _
    rw [spec_l3Last.l0, if_pos (by omega)]
    exact hlift
theorem l3Last_ok {l : List S89} (hf : flashOkB l = true) (a : Int) (k : Nat) (hk : 25 ≤ k) : spec_l3Last.f k l a = some ((lastA l a).f0, (lastA l a).f1, (lastA l a).f2, (lastA l a).f3, decide ((lastA l a).f1 > 0)) := by
  have hlen := flash_len hf
  have h4 : ∀ b ∈ l, b.f0.length ≤ 4 := fun b hb => by
    obtain ⟨i, hi, rfl⟩ := List.getElem_of_mem hb
    have := (flash_block hf i (by omega)).1
    rw [show rd_T89 l (i : Int) = l[i] by simp [rd_T89, List.getD_eq_getElem?_getD, hi]] at this
    omega
  have := spec_last_loops l a (by omega) 4 h4 (by omega) 4 0 ⟨0, 0, 0, 0⟩ (by omega)
  unfold spec_l3Last.f lastA pagesL
  rw [pagesL_flat]
  exact at_rounds (g := fun k => spec_l3Last.l0 k l a 0 0 0 0 0) (fun k => (spec_l3Last.mono_l k).1 _ _ _ _ _ _ _) (k := (4 + 2) * 4 + 1) (by omega) this
theorem szBlockS_le (l : List S85) (hl : Fits l) (k : Nat) (hk : l.length < k) (v : Int) (h0 : laws_szBlockS.f k l 1048576 = some v) : v ≤ 1048576 := by
  unfold laws_szBlockS.f at h0
  have := hl.1
  rw [wrap64_in _ (by omega)] at h0
  by_cases h : (1048576 : Int) - (l.length : Int) < 0
  · rw [if_pos h] at h0
    injection h0 with h0
    omega
  · rw [if_neg h] at h0
    obtain ⟨u, hu, h1, _⟩ := szLoop l hl (k - l.length - 1) l.length 0 ((1048576 : Int) - (l.length : Int)) (by omega) (by omega) (by omega)
    rw [show k - l.length - 1 + l.length + 1 = k by omega] at hu
    have e : some u = some v := hu.symm.trans h0
    injection e with e
    omega
theorem take_up_int {l : List Int} {i : Nat} (h : i < l.length) : l.take (i + 1) = l.take i ++ [rd l (i : Int)] := by
  rw [List.take_succ_eq_append_getElem h]
  simp [rd, List.getD_eq_getElem?_getD, h]
theorem toInt_loop (l : List Int) (hl : l.length ≤ 9223372036854775807) (K : Nat) : ∀ (n i : Nat), i + n = l.length →
    laws_toIntS.l0 (K + n + 1) l (l.take i ++ List.replicate n 0) i = some l
  | 0, i, h => by
    rw [laws_toIntS.l0, if_neg (by omega), List.take_of_length_le (by omega), List.replicate_zero, List.append_nil]
  | n + 1, i, h => by
    have hlen : (l.take i).length = i := by rw [List.length_take]; omega
    rw [laws_toIntS.l0, if_pos (by omega), if_pos (by omega), if_pos (by rw [List.length_append, hlen, List.length_replicate]; omega), w64_up (by omega : i < l.length) hl, Int.toNat_natCast, fill_step _ _ _ _ _ hlen]
    have ih := toInt_loop l hl K n (i + 1) (by omega)
    rw [take_up_int (by omega)] at ih
    exact ih
theorem toIntS_ok (l : List Int) (hl : l.length ≤ 1048576) (k : Nat) (hk : l.length < k) : laws_toIntS.f k l = some l := by
  unfold laws_toIntS.f
  rw [if_pos (by omega), Int.toNat_natCast, if_pos (by omega)]
  have := toInt_loop l (by omega) (k - l.length - 1) l.length 0 (by omega)
  rw [show k - l.length - 1 + l.length + 1 = k by omega, List.take_zero, List.nil_append] at this
  exact this
theorem eqInt_loop (l : List Int) (hl : l.length ≤ 9223372036854775807) (K : Nat) : ∀ (n i : Nat), i + n = l.length → laws_eqIntS.l0 (K + n + 1) l l i = some true
  | 0, i, h => by rw [laws_eqIntS.l0, if_neg (by omega)]
  | n + 1, i, h => by
    rw [laws_eqIntS.l0, if_pos (by omega), if_pos (by omega), if_pos (by omega), if_pos rfl, w64_up (by omega : i < l.length) hl]
    exact eqInt_loop l hl K n (i + 1) (by omega)
theorem eqIntS_ok (l : List Int) (hl : l.length ≤ 1048576) (k : Nat) (hk : l.length < k) : laws_eqIntS.f k l l = some true := by
  unfold laws_eqIntS.f
  rw [if_pos rfl]
  have := eqInt_loop l (by omega) (k - l.length - 1) l.length 0 (by omega)
  rw [show k - l.length - 1 + l.length + 1 = k by omega] at this
  exact this
theorem store_ok (l0 : List S85) (l1 : List Int) (hl : Fits l0) (h1 : l1.length ≤ 9223372036854775807) (k : Nat) (hk : l0.length + 2097158 ≤ k) : ∃ v, laws_szStore.f k l0 l1 1048576 = some v ∧ (¬ v < 0 →
    ∀ j, j ≤ 1 → laws_toStore.f (k - j) l0 l1 = some (l0.map cBlock, l1) ∧ laws_eqStore.f (k - j) (l0.map cBlock) l1 (l0.map cBlock) l1 = some true) := by
  obtain ⟨v, hv, hs⟩ := szBlockS_ok l0 hl k (by omega)
  have hle := szBlockS_le l0 hl k (by omega) v hv
  unfold laws_szStore.f
  rw [hv, Option.bind_some]
  by_cases h : v < 0
  · rw [if_pos h]
    exact ⟨-1, rfl, fun h => absurd (by decide) h⟩
  · rw [if_neg h]
    obtain ⟨b1, b2⟩ := hs (by omega)
    unfold laws_szIntS.f
    rw [wrap64_in _ (by omega)]
    by_cases g : v - (l1.length : Int) < 0
    · rw [if_pos g, Option.bind_some, if_pos (by decide)]
      exact ⟨-1, rfl, fun h => absurd (by decide) h⟩
    · rw [if_neg g, Option.bind_some, if_neg g]
      refine ⟨_, rfl, fun _ j hj => ?_⟩
      unfold laws_toStore.f laws_eqStore.f
      rw [toBlockS_ok l0 b1 b2 _ (by omega), Option.bind_some, toIntS_ok l1 (by omega) _ (by omega), Option.bind_some, eqBlockS_ok _ (by rw [List.length_map]; exact b1) (cPages_len l0 b2) _ (by rw [List.length_map]; omega), Option.bind_some, if_pos rfl, eqIntS_ok l1 (by omega) _ (by omega), Option.bind_some, if_pos rfl]
      exact ⟨rfl, rfl⟩
theorem map_last : ∀ (ps : List S91) (M : RecMap) (r : Int → S26), (∀ p ∈ ps, pageB p = true) → (∀ a, M a = (if 0 < (r a).f1 then some (recOf (r a)) else none) ∧ 0 ≤ (r a).f1) →
    ∀ a, ps.foldl mapStep M a = (if 0 < (ps.foldl (lastStep a) (r a)).f1 then some (recOf (ps.foldl (lastStep a) (r a))) else none)
  | [], M, r, _, h, a => (h a).1
  | p :: ps, M, r, hp, h, a => by
    have hr : ∀ q ∈ ps, pageB q = true := fun q hq => hp q (by simp [hq])
    rw [List.foldl_cons, List.foldl_cons]
    refine map_last ps (mapStep M p) (fun a => lastStep a (r a) p) hr (fun a => ?_) a
    have h0 : ((M p.f1.f2).getD (0, 0, 0, 0)).2.1 = (r p.f1.f2).f1 := by
      obtain ⟨e, g⟩ := h p.f1.f2
      rw [e]
      by_cases k : 0 < (r p.f1.f2).f1
      · rw [if_pos k]; rfl
      · rw [if_neg k]
        show (0 : Int) = _
        omega
    unfold mapStep
    rw [h0]
    show _ = (if 0 < (lastStep a (r a) p).f1 then some (recOf (lastStep a (r a) p)) else none) ∧ 0 ≤ (lastStep a (r a) p).f1
    obtain ⟨e, g⟩ := h a
    by_cases c1 : p.f0 = 1
    · have hw := page_written (hp p (by simp)) c1
      by_cases c2 : p.f1.f2 = a
      · subst c2
        by_cases c3 : p.f1.f1 > (r p.f1.f2).f1
        · have hq : lastStep p.f1.f2 (r p.f1.f2) p = p.f1 := by unfold lastStep; rw [if_pos ⟨c1, rfl, c3⟩]
          rw [hq, if_pos (show p.f0 = 1 ∧ p.f1.f1 > (r p.f1.f2).f1 from ⟨c1, c3⟩), if_pos (show 0 < p.f1.f1 by omega)]
          unfold putM
          rw [if_pos rfl]
          exact ⟨rfl, by omega⟩
        · have hq : lastStep p.f1.f2 (r p.f1.f2) p = r p.f1.f2 := by unfold lastStep; rw [if_neg (fun q => c3 q.2.2)]
          rw [hq, if_neg (show ¬ (p.f0 = 1 ∧ p.f1.f1 > (r p.f1.f2).f1) from fun q => c3 q.2)]
          exact ⟨e, g⟩
      · have hq : lastStep a (r a) p = r a := by unfold lastStep; rw [if_neg (fun q => c2 q.2.1)]
        rw [hq]
        refine ⟨?_, g⟩
        split
        · unfold putM
          rw [if_neg (fun q => c2 q.symm)]
          exact e
        · exact e
    · have hq : lastStep a (r a) p = r a := by unfold lastStep; rw [if_neg (fun q => c1 q.1)]
      rw [hq, if_neg (show ¬ (p.f0 = 1 ∧ p.f1.f1 > (r p.f1.f2).f1) from fun q => c1 q.1)]
      exact ⟨e, g⟩
theorem lastMap_at {l : List S89} (hf : flashOkB l = true) (a : Int) : lastMap l a = if 0 < (lastA l a).f1 then some (recOf (lastA l a)) else none := by
  unfold lastMap lastA pagesL
  rw [pagesL_flat]
  refine map_last _ _ (fun _ => ⟨0, 0, 0, 0⟩) (fun p hp => ?_) (fun a => ⟨by rw [if_neg (by simp)], by simp⟩) a
  obtain ⟨b, hb, hp⟩ := List.mem_flatMap.1 hp
  exact flash_pages hf b hb p hp
theorem last_kind (a : Int) : ∀ (ps : List S91) (r : S26), (∀ p ∈ ps, pageB p = true) → (0 < r.f1 → r.f0 = 1 ∨ r.f0 = 2) → 0 < (ps.foldl (lastStep a) r).f1 → (ps.foldl (lastStep a) r).f0 = 1 ∨ (ps.foldl (lastStep a) r).f0 = 2
  | [], r, _, h => h
  | p :: ps, r, hp, h => by
    rw [List.foldl_cons]
    refine last_kind a ps _ (fun q hq => hp q (by simp [hq])) ?_
    unfold lastStep
    split
    · rename_i c
      exact fun _ => (page_written (hp p (by simp)) c.1).1
    · exact h
theorem lastA_kind {l : List S89} (hf : flashOkB l = true) (a : Int) (h : 0 < (lastA l a).f1) : (lastA l a).f0 = 1 ∨ (lastA l a).f0 = 2 := by
  unfold lastA pagesL at h ⊢
  rw [pagesL_flat] at h ⊢
  refine last_kind a _ _ (fun p hp => ?_) (fun h => absurd h (by simp)) h
  obtain ⟨b, hb, hp⟩ := List.mem_flatMap.1 hp
  exact flash_pages hf b hb p hp
def tailOk (M : RecMap) (l1 : List Int) : Nat → Nat → Bool
  | 0, _ => true
  | n + 1, i => okAt M (rd l1 (i : Int)) i && tailOk M l1 n (i + 1)
theorem tail_disk (M : RecMap) (l1 : List Int) : tailOk M l1 6 0 = diskN M l1 6 := by
  simp [tailOk, diskN, Bool.and_assoc]
theorem storeOk_loop (l0 : List S89) (l1 : List Int) (hf : flashOkB l0 = true) (h6 : (l1.length : Int) = 6) (K : Nat) (hK : 25 ≤ K) : ∀ (n i : Nat), i + n = 6 → spec_StoreOk.l0 (K + n + 1) (i : Int) l0 l1 = some (tailOk (lastMap l0) l1 n i)
  | 0, i, h => by
    rw [spec_StoreOk.l0, if_neg (by omega)]
    rfl
  | n + 1, i, h => by
    have e1 : wrap64 ((i : Int) + 1) = ((i + 1 : Nat) : Int) := by rw [wrap64_in _ (by omega)]; omega
    have ih := storeOk_loop l0 l1 hf h6 K hK n (i + 1) (by omega)
    have hM := lastMap_at hf ((i : Int) + 1)
    have hk := lastA_kind hf ((i : Int) + 1)
    rw [spec_StoreOk.l0, if_pos (by omega), e1, l3Last_ok hf _ _ (by omega), Option.bind_some, if_pos (by omega), if_pos (by omega), tailOk]
    rw [show ((i + 1 : Nat) : Int) = (i : Int) + 1 by omega] at *
    unfold okAt spec_l6In.f valB
    rw [hM]
    generalize rd l1 (i : Int) = d
    generalize lastA l0 ((i : Int) + 1) = q at hk ⊢
    show _ = some ((decide (0 ≤ d ∧ d ≤ 9) && _) && _)
    rw [show K + (n + 1) = K + n + 1 by omega]
    by_cases d0 : d ≥ 0
    · rw [if_pos d0, Option.bind_some]
      by_cases d9 : d ≤ 9
      · rw [decide_eq_true d9, if_pos rfl, decide_eq_true (show 0 ≤ d ∧ d ≤ 9 from ⟨d0, d9⟩), Bool.true_and]
        by_cases k0 : 0 < q.f1
        · rw [if_pos (decide_eq_true (by omega : q.f1 > 0)), if_pos k0]
          show _ = some (decide (q.f0 = 1 ∨ q.f3 = d) && _)
          by_cases k1 : q.f0 = 2
          · rw [if_pos k1]
            by_cases k2 : q.f3 = d
            · rw [if_pos k2, decide_eq_true (Or.inr k2), Bool.true_and]
              exact ih
            · rw [if_neg k2, decide_eq_false (fun h => h.elim (by omega) k2), Bool.false_and]
          · rw [if_neg k1, decide_eq_true (Or.inl ((hk k0).resolve_right k1)), Bool.true_and]
            exact ih
        · rw [if_neg (by simp; omega), if_neg k0]
          show _ = some (true && _)
          rw [Bool.true_and]
          exact ih
      · rw [decide_eq_false d9, if_neg (by simp), decide_eq_false (fun h => d9 h.2), Bool.false_and, Bool.false_and]
    · rw [if_neg d0, Option.bind_some, if_neg (by simp), decide_eq_false (fun h => d0 h.1), Bool.false_and, Bool.false_and]
theorem specStoreOk_ok (l0 : List S89) (l1 : List Int) (k : Nat) (hk : 100 < k) : spec_StoreOk.f k l0 l1 = some (storeOkB l0 l1) := by
  obtain ⟨k, rfl⟩ : ∃ m, k = m + 1 := ⟨k - 1, by omega⟩
  unfold spec_StoreOk.f spec_FindOrder.f storeOkB
  rw [Option.bind_some, order_same]
  cases ho : orderI l0 with
  | false => rw [if_neg (by simp), spec_StoreOk.j0, if_pos rfl, Bool.false_and, Bool.and_false]
  | true =>
    rw [if_pos rfl, spec_StoreOk.j0]
    by_cases h6 : (l1.length : Int) = 6
    · rw [if_neg (by simp [h6]), decide_eq_true h6, Bool.true_and, Bool.true_and, ← tail_disk]
      have := storeOk_loop l0 l1 (order_flash ho) h6 (k - 7) (by omega) 6 0 (by omega)
      rw [show k - 7 + 6 + 1 = k by omega] at this
      exact this
    · rw [if_pos (by simp [h6]), decide_eq_false h6, Bool.false_and]
theorem l11Read_ok {l0 : List S89} {l1 : List Int} (hf : flashOkB l0 = true) (h6 : l1.length = 6) (a : Int) (h1 : 1 ≤ a) (h2 : a ≤ 6) (k : Nat) (hk : 25 ≤ k) : spec_l11Read.f k l0 l1 a = some (match lastMap l0 a with
  | some r => r.2.2.2
  | none => rd l1 (a - 1)) := by
  unfold spec_l11Read.f
  rw [l3Last_ok hf a k hk, Option.bind_some, lastMap_at hf a, wrap64_in _ (by omega)]
  by_cases k0 : 0 < (lastA l0 a).f1
  · rw [if_pos (decide_eq_true (by omega : (lastA l0 a).f1 > 0)), if_pos k0]
    rfl
  · rw [if_neg (by simp; omega), if_neg k0, if_pos (by omega), if_pos (by omega)]
theorem specRead_ok (l0 : List S89) (l1 : List Int) (a : Int) (k : Nat) (hk : 100 < k) : spec_StoreRead.f k l0 l1 a = some (readV l0 l1 a) := by
  unfold spec_StoreRead.f spec_l6In.f readV addrB
  rw [specStoreOk_ok l0 l1 k hk, Option.bind_some]
  cases hs : storeOkB l0 l1 with
  | false => rw [if_neg (by simp), if_neg (by simp)]
  | true =>
    have hl : l1.length = 6 ∧ orderI l0 = true := by
      unfold storeOkB at hs
      rw [Bool.and_eq_true, Bool.and_eq_true, decide_eq_true_eq] at hs
      exact ⟨by omega, hs.2.1⟩
    rw [if_pos rfl]
    by_cases h1 : a ≥ 1
    · rw [if_pos h1, Option.bind_some]
      by_cases h6 : a ≤ 6
      · rw [decide_eq_true h6, if_pos rfl, l11Read_ok (order_flash hl.2) hl.1 a h1 h6 k (by omega), decide_eq_true (by omega : 1 ≤ a ∧ a ≤ 6), if_pos ⟨rfl, rfl⟩]
        rfl
      · rw [decide_eq_false h6, if_neg (by simp), decide_eq_false (by omega : ¬ (1 ≤ a ∧ a ≤ 6)), if_neg (by simp)]
    · rw [if_neg h1, Option.bind_some, if_neg (by simp), decide_eq_false (by omega : ¬ (1 ≤ a ∧ a ≤ 6)), if_neg (by simp)]
theorem FnExactStoreRead (l0 : List S85) (l1 : List Int) (hl : Fits l0) (h1 : l1.length ≤ 9223372036854775807) (a : Int) : ∃ k, laws_FnExactStoreRead.f k l0 l1 a = some true := by
  refine ⟨l0.length + 2097158, ?_⟩
  obtain ⟨v, hv, hs⟩ := store_ok l0 l1 hl h1 (l0.length + 2097158) (Nat.le_refl _)
  unfold laws_FnExactStoreRead.f
  rw [hv, Option.bind_some]
  by_cases h : v < 0
  · rw [if_pos h]
  · obtain ⟨ht, he⟩ := hs h 0 (by omega)
    rw [Nat.sub_zero] at ht he
    rw [if_neg h]
    unfold impl_StoreRead.f
    simp only [ht, he, Option.bind_some, specRead_ok (l0.map cBlock) l1 a (l0.length + 2097158) (by omega), if_true]
end Go.Proofs.Ytdjdbfcfopgdcaa.Pure
