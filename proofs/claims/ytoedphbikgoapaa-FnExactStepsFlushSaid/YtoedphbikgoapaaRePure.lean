/- StepsFlush, in plain Lean: of a store that is ok both give the same steps. -/
import Derived.Test.YtoedphbikgoapaaRe0
import Derived.Test.YtoedphbikgoapaaRe1
import Derived.Test.YtoedphbikgoapaaRe2
import Derived.Test.YtoedphbikgoapaaRe3
import Derived.Test.YtoedphbikgoapaaRe4
import Derived.Test.YtoedphbikgoapaaRe5
import Derived.Test.YtoedphbikgoapaaRe6
import Derived.Test.YtoedphbikgoapaaRe7
import Derived.Test.YtoedphbikgoapaaRe8
import Derived.Test.YtoedphbikgoapaaRe9
import Derived.Test.YtoedphbikgoapaaRe10
import Derived.Test.YtoedphbikgoapaaRe11
import Derived.Test.YtoedphbikgoapaaRe12
import Derived.Test.YtoedphbikgoapaaRe13
import Derived.IntWalk
import Derived.Deep.RegionHeld3
namespace Go.Proofs.Ytoedphbikgoapaa.Pure
open Go.RowKit Go.IntWalk Go.Proofs.Ytoedphbikgoapaa.Re Go.Proofs.YtoedphbikgoapaaW Go.Proofs.YtoedphbikgoapaaW.PrintWords Go.Proofs.YtoedphbikgoapaaW.PrintLast
-- ALLMODS
def Fits (l : List S58) : Prop := l.length ≤ 9223372036854775807 ∧ ∀ i : Nat, i < l.length → (rd_T58 l (i : Int)).f0.length ≤ 9223372036854775807
theorem fits_of {w : World} {A : Option Addr} {l : List S58} (h : Kd.C k58 w A l.length l) : Fits l := ⟨Kd.C_max h, fun i hi => by
  obtain ⟨_, _, _, _, _, _, _, h5⟩ := at_T58 h (i : Int) (by omega) (by omega)
  exact Kd.C_max h5⟩
def cPage (p : S113) : S71 := ⟨p.f0, ⟨p.f1.f0, p.f1.f1, p.f1.f2, p.f1.f3⟩⟩
def cBlock (b : S58) : S65 := ⟨b.f0.map cPage, b.f1⟩
theorem w64_up {i n : Nat} (h : i < n) (hn : n ≤ 9223372036854775807) : wrap64 ((i : Int) + 1) = ((i + 1 : Nat) : Int) := by
  rw [wrap64_in _ (by omega)]
  omega
theorem szPageS_ok (l : List S113) (a : Int) (hl : l.length ≤ 9223372036854775807) (h0 : 0 ≤ a) (h1 : a ≤ 1048576) :
    ∃ v, laws_szPageS.f l a = some v ∧ v ≤ a ∧ (0 ≤ v → l.length ≤ 1048576) := by
  unfold laws_szPageS.f
  rw [wrap64_in _ (by omega)]
  by_cases h : a - (l.length : Int) < 0
  · rw [if_pos h]
    exact ⟨_, rfl, by omega, fun hv => by omega⟩
  · rw [if_neg h]
    exact ⟨_, rfl, by omega, fun hv => by omega⟩
theorem szBlock_ok (l : List S113) (b a : Int) (hl : l.length ≤ 9223372036854775807) (h0 : 0 ≤ a) (h1 : a ≤ 1048576) :
    ∃ v, laws_szBlock.f l b a = some v ∧ v ≤ a ∧ (0 ≤ v → l.length ≤ 1048576) := by
  obtain ⟨v, hv, h2, h3⟩ := szPageS_ok l a hl h0 h1
  unfold laws_szBlock.f
  rw [hv, Option.bind_some]
  by_cases h : v < 0
  · rw [if_pos h]
    exact ⟨_, rfl, by omega, fun h => by omega⟩
  · rw [if_neg h]
    exact ⟨_, rfl, h2, h3⟩
theorem szLoop (l : List S58) (hl : Fits l) (K : Nat) : ∀ (n i : Nat) (a : Int), i + n = l.length → 0 ≤ a → a ≤ 1048576 →
    ∃ v, laws_szBlockS.l0 (K + n + 1) l a i = some v ∧ v ≤ a ∧ (0 ≤ v → ∀ j, i ≤ j → j < l.length → (rd_T58 l (j : Int)).f0.length ≤ 1048576)
  | 0, i, a, h, h0, h1 => by
    rw [laws_szBlockS.l0, if_neg (by omega)]
    exact ⟨_, rfl, by omega, fun _ j h2 h3 => by omega⟩
  | n + 1, i, a, h, h0, h1 => by
    obtain ⟨v, hv, h2, h3⟩ := szBlock_ok (rd_T58 l (i : Int)).f0 (rd_T58 l (i : Int)).f1 a (hl.2 i (by omega)) h0 h1
    rw [laws_szBlockS.l0, if_pos (by omega), if_pos (by omega), hv, Option.bind_some, w64_up (by omega : i < l.length) hl.1]
    by_cases hv0 : v < 0
    · rw [if_pos hv0]
      exact ⟨_, rfl, by omega, fun h => by omega⟩
    · rw [if_neg hv0]
      obtain ⟨u, hu, h4, h5⟩ := szLoop l hl K n (i + 1) v (by omega) (by omega) (by omega)
      refine ⟨u, hu, by omega, fun hu0 j hj hj2 => ?_⟩
      by_cases e : j = i
      · subst e
        exact h3 (by omega)
      · exact h5 hu0 j (by omega) hj2
theorem szBlockS_ok (l : List S58) (hl : Fits l) (k : Nat) (hk : l.length < k) :
    ∃ v, laws_szBlockS.f k l 1048576 = some v ∧ (0 ≤ v → l.length ≤ 1048576 ∧ ∀ j, j < l.length → (rd_T58 l (j : Int)).f0.length ≤ 1048576) := by
  unfold laws_szBlockS.f
  have := hl.1
  rw [wrap64_in _ (by omega)]
  by_cases h : (1048576 : Int) - (l.length : Int) < 0
  · rw [if_pos h]
    exact ⟨_, rfl, fun h => by omega⟩
  · rw [if_neg h]
    obtain ⟨v, hv, _, h2⟩ := szLoop l hl (k - l.length - 1) l.length 0 ((1048576 : Int) - (l.length : Int)) (by omega) (by omega) (by omega)
    rw [show k - l.length - 1 + l.length + 1 = k by omega] at hv
    exact ⟨v, hv, fun h0 => ⟨by omega, fun j hj => h2 h0 j (Nat.zero_le _) hj⟩⟩
theorem fill_step {α : Type} (xs : List α) (m : Nat) (z v : α) (i : Nat) (hi : xs.length = i) : (xs ++ List.replicate (m + 1) z).set i v = (xs ++ [v]) ++ List.replicate m z := by
  subst hi
  rw [List.set_append_right _ _ (Nat.le_refl _), Nat.sub_self, List.replicate_succ, List.set_cons_zero, List.append_assoc]
  rfl
theorem take_up_T113 {l : List S113} {i : Nat} (h : i < l.length) : l.take (i + 1) = l.take i ++ [rd_T113 l (i : Int)] := by
  rw [List.take_succ_eq_append_getElem h]
  simp [rd_T113, List.getD_eq_getElem?_getD, h]
theorem take_up_T58 {l : List S58} {i : Nat} (h : i < l.length) : l.take (i + 1) = l.take i ++ [rd_T58 l (i : Int)] := by
  rw [List.take_succ_eq_append_getElem h]
  simp [rd_T58, List.getD_eq_getElem?_getD, h]
theorem toPage_loop (l : List S113) (hl : l.length ≤ 9223372036854775807) (K : Nat) : ∀ (n i : Nat), i + n = l.length →
    laws_toPageS.l0 (K + n + 1) l ((l.take i).map cPage ++ List.replicate n z71) i = some (l.map cPage)
  | 0, i, h => by
    rw [laws_toPageS.l0, if_neg (by omega), List.take_of_length_le (by omega), List.replicate_zero, List.append_nil]
  | n + 1, i, h => by
    have hlen : ((l.take i).map cPage).length = i := by rw [List.length_map, List.length_take]; omega
    rw [laws_toPageS.l0, if_pos (by omega), if_pos (by omega), w64_up (by omega : i < l.length) hl]
    unfold laws_toPage.f laws_toRec.f
    rw [Option.bind_some, Option.bind_some, if_pos (by rw [List.length_append, hlen, List.length_replicate]; omega), Int.toNat_natCast, fill_step _ _ _ _ _ hlen]
    have ih := toPage_loop l hl K n (i + 1) (by omega)
    rw [take_up_T113 (by omega), List.map_append] at ih
    exact ih
theorem toPageS_ok (l : List S113) (hl : l.length ≤ 1048576) (k : Nat) (hk : l.length < k) : laws_toPageS.f k l = some (l.map cPage) := by
  unfold laws_toPageS.f
  rw [if_pos (by omega), Int.toNat_natCast, if_pos (by omega)]
  have := toPage_loop l (by omega) (k - l.length - 1) l.length 0 (by omega)
  rw [show k - l.length - 1 + l.length + 1 = k by omega] at this
  exact this
theorem toBlock_loop (l : List S58) (hl : l.length ≤ 1048576) (hp : ∀ j : Nat, j < l.length → (rd_T58 l (j : Int)).f0.length ≤ 1048576) (K : Nat) (hK : 1048576 < K) : ∀ (n i : Nat), i + n = l.length →
    laws_toBlockS.l0 (K + n + 1) l ((l.take i).map cBlock ++ List.replicate n z65) i = some (l.map cBlock)
  | 0, i, h => by
    rw [laws_toBlockS.l0, if_neg (by omega), List.take_of_length_le (by omega), List.replicate_zero, List.append_nil]
  | n + 1, i, h => by
    have hlen : ((l.take i).map cBlock).length = i := by rw [List.length_map, List.length_take]; omega
    rw [laws_toBlockS.l0, if_pos (by omega), if_pos (by omega), w64_up (by omega : i < l.length) (by omega)]
    unfold laws_toBlock.f
    rw [toPageS_ok _ (hp i (by omega)) _ (by have := hp i (by omega); omega), Option.bind_some, Option.bind_some, if_pos (by rw [List.length_append, hlen, List.length_replicate]; omega), Int.toNat_natCast, fill_step _ _ _ _ _ hlen]
    have ih := toBlock_loop l hl hp K hK n (i + 1) (by omega)
    rw [take_up_T58 (by omega), List.map_append] at ih
    exact ih
theorem toBlockS_ok (l : List S58) (hl : l.length ≤ 1048576) (hp : ∀ j : Nat, j < l.length → (rd_T58 l (j : Int)).f0.length ≤ 1048576) (k : Nat) (hk : l.length + 1048578 ≤ k) : laws_toBlockS.f k l = some (l.map cBlock) := by
  unfold laws_toBlockS.f
  rw [if_pos (by omega), Int.toNat_natCast, if_pos (by omega)]
  have := toBlock_loop l hl hp (k - l.length - 1) (by omega) l.length 0 (by omega)
  rw [show k - l.length - 1 + l.length + 1 = k by omega] at this
  exact this
theorem eqPage_loop (l : List S71) (hl : l.length ≤ 9223372036854775807) (K : Nat) : ∀ (n i : Nat), i + n = l.length → laws_eqPageS.l0 (K + n + 1) l l i = some true
  | 0, i, h => by rw [laws_eqPageS.l0, if_neg (by omega)]
  | n + 1, i, h => by
    rw [laws_eqPageS.l0, if_pos (by omega), if_pos (by omega), if_pos (by omega), w64_up (by omega : i < l.length) hl]
    unfold laws_eqPage.f laws_eqRec.f
    rw [if_pos rfl, if_pos rfl, if_pos rfl, if_pos rfl, if_pos rfl, Option.bind_some, if_pos rfl, Option.bind_some, if_pos rfl]
    exact eqPage_loop l hl K n (i + 1) (by omega)
theorem eqPageS_ok (l : List S71) (hl : l.length ≤ 1048576) (k : Nat) (hk : l.length < k) : laws_eqPageS.f k l l = some true := by
  unfold laws_eqPageS.f
  rw [if_pos rfl]
  have := eqPage_loop l (by omega) (k - l.length - 1) l.length 0 (by omega)
  rw [show k - l.length - 1 + l.length + 1 = k by omega] at this
  exact this
theorem eqBlock_loop (l : List S65) (hl : l.length ≤ 9223372036854775807) (hp : ∀ j : Nat, j < l.length → (rd_T65 l (j : Int)).f0.length ≤ 1048576) (K : Nat) (hK : 1048576 < K) : ∀ (n i : Nat), i + n = l.length → laws_eqBlockS.l0 (K + n + 1) l l i = some true
  | 0, i, h => by rw [laws_eqBlockS.l0, if_neg (by omega)]
  | n + 1, i, h => by
    rw [laws_eqBlockS.l0, if_pos (by omega), if_pos (by omega), if_pos (by omega), w64_up (by omega : i < l.length) hl]
    unfold laws_eqBlock.f
    rw [eqPageS_ok _ (hp i (by omega)) _ (by have := hp i (by omega); omega), Option.bind_some, if_pos rfl, if_pos rfl, Option.bind_some, if_pos rfl]
    exact eqBlock_loop l hl hp K hK n (i + 1) (by omega)
theorem eqBlockS_ok (l : List S65) (hl : l.length ≤ 1048576) (hp : ∀ j : Nat, j < l.length → (rd_T65 l (j : Int)).f0.length ≤ 1048576) (k : Nat) (hk : l.length + 1048578 ≤ k) : laws_eqBlockS.f k l l = some true := by
  unfold laws_eqBlockS.f
  rw [if_pos rfl]
  have := eqBlock_loop l (by omega) hp (k - l.length - 1) (by omega) l.length 0 (by omega)
  rw [show k - l.length - 1 + l.length + 1 = k by omega] at this
  exact this
theorem rd_cBlock (l : List S58) (j : Nat) (hj : j < l.length) : rd_T65 (l.map cBlock) (j : Int) = cBlock (rd_T58 l (j : Int)) := by
  simp [rd_T65, rd_T58, List.getD_eq_getElem?_getD, hj]
theorem cPages_len (l : List S58) (hp : ∀ j : Nat, j < l.length → (rd_T58 l (j : Int)).f0.length ≤ 1048576) : ∀ j : Nat, j < (l.map cBlock).length → (rd_T65 (l.map cBlock) (j : Int)).f0.length ≤ 1048576 := fun j hj => by
  rw [List.length_map] at hj
  rw [rd_cBlock l j hj]
  simpa [cBlock] using hp j hj
theorem copies_ok (l : List S58) (hl : Fits l) : ∃ v, laws_szBlockS.f (l.length + 1048578) l 1048576 = some v ∧ (¬ v < 0 →
    laws_toBlockS.f (l.length + 1048578) l = some (l.map cBlock) ∧ laws_eqBlockS.f (l.length + 1048578) (l.map cBlock) (l.map cBlock) = some true) := by
  obtain ⟨v, hv, hs⟩ := szBlockS_ok l hl (l.length + 1048578) (by omega)
  refine ⟨v, hv, fun h => ?_⟩
  obtain ⟨h1, h2⟩ := hs (by omega)
  exact ⟨toBlockS_ok l h1 h2 _ (Nat.le_refl _), eqBlockS_ok _ (by rw [List.length_map]; exact h1) (cPages_len l h2) _ (by rw [List.length_map]; exact Nat.le_refl _)⟩
theorem copies_ok_at (l : List S58) (hl : Fits l) (k : Nat) (hk : l.length + 1048579 ≤ k) : ∃ v, laws_szBlockS.f k l 1048576 = some v ∧ (¬ v < 0 →
    laws_toBlockS.f k l = some (l.map cBlock) ∧ laws_toBlockS.f (k - 1) l = some (l.map cBlock) ∧ laws_eqBlockS.f (k - 1) (l.map cBlock) (l.map cBlock) = some true) := by
  obtain ⟨v, hv, hs⟩ := szBlockS_ok l hl k (by omega)
  refine ⟨v, hv, fun h => ?_⟩
  obtain ⟨h1, h2⟩ := hs (by omega)
  exact ⟨toBlockS_ok l h1 h2 _ (by omega), toBlockS_ok l h1 h2 _ (by omega), eqBlockS_ok _ (by rw [List.length_map]; exact h1) (cPages_len l h2) _ (by rw [List.length_map]; omega)⟩
theorem rdB_cons {b : S65} {bs : List S65} (j : Nat) : rd_T65 (b :: bs) ((j + 1 : Nat) : Int) = rd_T65 bs (j : Int) := by
  unfold rd_T65
  rw [Int.toNat_natCast, Int.toNat_natCast]
  rfl
theorem blocksB_all : ∀ (l : List S65) (S : List Int), blocksB l S = true → ∀ j : Nat, j < l.length → blockB (rd_T65 l (j : Int)) = true
  | [], _, _, j, hj => by cases hj
  | b :: bs, S, h, j, hj => by
    rw [blocksB, Bool.and_eq_true] at h
    obtain ⟨h1, h2⟩ := h
    cases j with
    | zero => exact h1
    | succ j =>
      rw [rdB_cons]
      cases hp : pagesB b.f0 S with
      | none => rw [hp] at h2; cases h2
      | some S' =>
        rw [hp] at h2
        exact blocksB_all bs S' h2 j (by simpa using hj)
theorem flash_len {l : List S65} (h : flashOkB l = true) : l.length = 4 := by
  unfold flashOkB at h
  rw [Bool.and_eq_true, decide_eq_true_eq] at h
  omega
theorem flash_block {l : List S65} (h : flashOkB l = true) (j : Nat) (hj : j < 4) : (rd_T65 l (j : Int)).f0.length = 4 ∧ 0 ≤ (rd_T65 l (j : Int)).f1 ∧ (rd_T65 l (j : Int)).f1 ≤ 200 ∧ shapeB (rd_T65 l (j : Int)).f0 false = true := by
  have hl := flash_len h
  unfold flashOkB at h
  rw [Bool.and_eq_true] at h
  have := blocksB_all l [] h.2 j (by omega)
  unfold blockB at this
  rw [Bool.and_eq_true, decide_eq_true_eq] at this
  exact ⟨by omega, this.1.2.1, this.1.2.2, this.2⟩
theorem dropP_cons {l : List S71} {i : Nat} (h : i < l.length) : l.drop i = rd_T71 l (i : Int) :: l.drop (i + 1) := by
  rw [List.drop_eq_getElem_cons h]
  simp [rd_T71, List.getD_eq_getElem?_getD, h]
theorem pages_spotsB (i : Nat) : ∀ (j : Nat) (ps : List S71), (spotsB i j ps).map (·.2.2) = ps
  | _, [] => rfl
  | j, p :: ps => by rw [spotsB, List.map_cons, pages_spotsB i (j + 1) ps]
theorem pagesL_flat : ∀ (i : Nat) (l : List S65), (spotsF i l).map (·.2.2) = l.flatMap (·.f0)
  | _, [] => rfl
  | i, b :: bs => by rw [spotsF, List.map_append, pages_spotsB, pagesL_flat (i + 1) bs, List.flatMap_cons]
theorem pagesB_all : ∀ (ps : List S71) (S S' : List Int), pagesB ps S = some S' → ∀ p ∈ ps, pageB p = true
  | [], _, _, _, _, h => by cases h
  | p :: ps, S, S', h, q, hq => by
    rw [pagesB] at h
    by_cases hp : pageB p = true
    · rw [if_pos hp] at h
      rcases List.mem_cons.1 hq with rfl | hq
      · exact hp
      · by_cases h1 : p.f0 = 1
        · rw [if_pos h1] at h
          by_cases hm : p.f1.f1 ∈ S
          · rw [if_pos hm] at h; cases h
          · rw [if_neg hm] at h; exact pagesB_all ps _ _ h q hq
        · rw [if_neg h1] at h; exact pagesB_all ps _ _ h q hq
    · rw [if_neg hp] at h; cases h
theorem blocksB_pages : ∀ (l : List S65) (S : List Int), blocksB l S = true → ∀ b ∈ l, ∀ p ∈ b.f0, pageB p = true
  | [], _, _, _, h, _, _ => by cases h
  | b :: bs, S, h, c, hc, p, hp => by
    rw [blocksB, Bool.and_eq_true] at h
    cases he : pagesB b.f0 S with
    | none => rw [he] at h; exact absurd h.2 (by simp)
    | some S' =>
      rw [he] at h
      rcases List.mem_cons.1 hc with rfl | hc
      · exact pagesB_all _ _ _ he p hp
      · exact blocksB_pages bs S' h.2 c hc p hp
theorem flash_pages {l : List S65} (h : flashOkB l = true) : ∀ b ∈ l, ∀ p ∈ b.f0, pageB p = true := by
  unfold flashOkB at h
  rw [Bool.and_eq_true] at h
  exact blocksB_pages l [] h.2
theorem page_written {p : S71} (h : pageB p = true) (h1 : p.f0 = 1) : (p.f1.f0 = 1 ∨ p.f1.f0 = 2) ∧ 1 ≤ p.f1.f1 ∧ p.f1.f1 ≤ 600 ∧ 1 ≤ p.f1.f2 ∧ p.f1.f2 ≤ 6 ∧ 0 ≤ p.f1.f3 ∧ p.f1.f3 ≤ 9 := by
  unfold pageB at h
  rw [if_pos h1] at h
  unfold recOkB at h
  simp only [decide_eq_true_eq] at h
  omega
theorem page_other {p : S71} (h : pageB p = true) (h1 : p.f0 ≠ 1) : p.f1.f0 = 0 ∧ p.f1.f1 = 0 ∧ p.f1.f2 = 0 ∧ p.f1.f3 = 0 := by
  unfold pageB at h
  rw [if_neg h1] at h
  split at h
  · simp only [Bool.and_eq_true, beq_iff_eq] at h
    exact h
  · cases h
theorem page_seq {p : S71} (h : pageB p = true) : 0 ≤ p.f1.f1 ∧ p.f1.f1 ≤ 600 := by
  by_cases h1 : p.f0 = 1
  · have := page_written h h1
    omega
  · have := page_other h h1
    omega
theorem dropB_cons {l : List S65} {i : Nat} (h : i < l.length) : l.drop i = rd_T65 l (i : Int) :: l.drop (i + 1) := by
  rw [List.drop_eq_getElem_cons h]
  simp [rd_T65, List.getD_eq_getElem?_getD, h]
theorem rdB_mem {l : List S65} {i : Nat} (h : i < l.length) : rd_T65 l (i : Int) ∈ l := by
  simp [rd_T65, List.getD_eq_getElem?_getD, h]
theorem rdP_mem {l : List S71} {i : Nat} (h : i < l.length) : rd_T71 l (i : Int) ∈ l := by
  simp [rd_T71, List.getD_eq_getElem?_getD, h]
def mostP (m : Int) (ps : List S71) : Int := ps.foldl (fun m p => mx m p.f1.f1) m
theorem mostP_cons (m : Int) (p : S71) (ps : List S71) : mostP m (p :: ps) = mostP (mx m p.f1.f1) ps := rfl
theorem mostP_shift : ∀ (ps : List S71) (m : Int), 0 ≤ m → (∀ p ∈ ps, 0 ≤ p.f1.f1) → mostP m ps = mx m (mostP 0 ps) ∧ 0 ≤ mostP 0 ps
  | [], m, hm, _ => by
    show m = mx m 0 ∧ (0 : Int) ≤ 0
    exact ⟨by unfold mx; rw [if_neg (by omega)], by omega⟩
  | p :: ps, m, hm, h => by
    have hp := h p (by simp)
    have hr : ∀ q ∈ ps, 0 ≤ q.f1.f1 := fun q hq => h q (by simp [hq])
    have h1 := (mostP_shift ps (mx m p.f1.f1) (by unfold mx; split <;> omega) hr).1
    have h2 := mostP_shift ps (mx 0 p.f1.f1) (by unfold mx; split <;> omega) hr
    rw [mostP_cons, mostP_cons, h1, h2.1]
    have h3 := h2.2
    generalize mostP 0 ps = y at *
    unfold mx
    constructor
    · repeat' split
      all_goals omega
    · repeat' split
      all_goals omega
theorem most_loop (l : List S71) (b : Int) (hl : l.length ≤ 1048576) (K : Nat) : ∀ (n i : Nat) (m : Int), i + n = l.length → spec_l3Most.l0 (K + n + 1) m (i : Int) l b = some (mostP m (l.drop i))
  | 0, i, m, h => by
    rw [spec_l3Most.l0, if_neg (by omega), List.drop_eq_nil_of_le (by omega)]
    rfl
  | n + 1, i, m, h => by
    have ih := fun m => most_loop l b hl K n (i + 1) m (by omega)
    have e1 : wrap64 ((i : Int) + 1) = ((i + 1 : Nat) : Int) := by rw [wrap64_in _ (by omega)]; omega
    rw [dropP_cons (by omega : i < l.length), mostP_cons, spec_l3Most.l0, if_pos (by omega), if_pos (by omega), e1]
    exact ih _
theorem l3Most_ok (l : List S71) (b : Int) (hl : l.length ≤ 1048576) (k : Nat) (hk : l.length < k) : spec_l3Most.f k l b = some (mostP 0 l) := by
  have := most_loop l b hl (k - l.length - 1) l.length 0 0 (by omega)
  rw [show k - l.length - 1 + l.length + 1 = k by omega, List.drop_zero] at this
  exact this
theorem spans_foldB (i : Nat) : ∀ (ps : List S71) (j : Nat) (s : Spans), (spotsB i j ps).foldl spansStep s = fun k => if k = i then ps.foldl stepSpan (s i) else s k
  | [], _, s => by
    funext k
    by_cases h : k = i
    · subst h
      rw [if_pos rfl]
      rfl
    · rw [if_neg h]
      rfl
  | p :: ps, j, s => by
    rw [spotsB, List.foldl_cons, spans_foldB i ps (j + 1)]
    funext k
    by_cases h : k = i
    · rw [if_pos h, if_pos h, List.foldl_cons]
      unfold spansStep
      rw [if_pos rfl]
    · rw [if_neg h, if_neg h]
      unfold spansStep
      rw [if_neg h]
theorem spans_foldF : ∀ (l : List S65) (i : Nat) (s : Spans) (k : Nat), (∀ j : Nat, j < l.length → k = i + j → (spotsF i l).foldl spansStep s k = (rd_T65 l (j : Int)).f0.foldl stepSpan (s k)) ∧ (k < i → (spotsF i l).foldl spansStep s k = s k)
  | [], i, s, k => ⟨fun j h => absurd h (by simp), fun _ => rfl⟩
  | b :: bs, i, s, k => by
    have ih := spans_foldF bs (i + 1) (fun k => if k = i then b.f0.foldl stepSpan (s i) else s k) k
    rw [spotsF, List.foldl_append, spans_foldB]
    refine ⟨fun j hj hk => ?_, fun hk => ?_⟩
    · cases j with
      | zero =>
        rw [ih.2 (by omega), if_pos (by omega), show k = i by omega]
        rfl
      | succ j =>
        have hr := ih.1 j (by simpa using hj) (by omega)
        rw [hr, if_neg (by omega), rdB_cons]
    · rw [ih.2 (by omega), if_neg (by omega)]
theorem spansF_at {l : List S65} (k : Nat) (hk : k < l.length) : spansF l k = (rd_T65 l (k : Int)).f0.foldl stepSpan (0, 0) := (spans_foldF l 0 (fun _ => (0, 0)) k).1 k hk (by omega)
theorem span_hi : ∀ (ps : List S71) (s : Int × Int), 0 ≤ s.2 → (∀ p ∈ ps, pageB p = true) → (ps.foldl stepSpan s).2 = mostP s.2 ps
  | [], _, _, _ => rfl
  | p :: ps, s, hs, h => by
    have hr : ∀ q ∈ ps, pageB q = true := fun q hq => h q (by simp [hq])
    have hq := page_seq (h p (by simp))
    have e : (stepSpan s p).2 = mx s.2 p.f1.f1 := by
      unfold stepSpan
      by_cases h1 : p.f0 = 1
      · rw [if_pos h1]
      · rw [if_neg h1, (page_other (h p (by simp)) h1).2.1]
        unfold mx
        rw [if_neg (by omega)]
    rw [List.foldl_cons, mostP_cons, span_hi ps _ (by rw [e]; unfold mx; split <;> omega) hr, e]
theorem spansF_hi {l : List S65} (hf : flashOkB l = true) (k : Nat) (hk : k < 4) : (spansF l k).2 = mostP 0 (rd_T65 l (k : Int)).f0 := by
  have hl := flash_len hf
  rw [spansF_at k (by omega), span_hi _ _ (by simp) (flash_pages hf _ (rdB_mem (by omega)))]
theorem pagesB_seqs : ∀ (ps : List S71) (S S' : List Int), pagesB ps S = some S' → (∀ x ∈ S, x ∈ S') ∧ ∀ p ∈ ps, p.f0 = 1 → p.f1.f1 ∈ S' ∧ p.f1.f1 ∉ S
  | [], S, S', h => by
    rw [pagesB] at h
    cases h
    exact ⟨fun x hx => hx, fun p hp => by cases hp⟩
  | p :: ps, S, S', h => by
    rw [pagesB] at h
    by_cases hp : pageB p = true
    · rw [if_pos hp] at h
      by_cases h1 : p.f0 = 1
      · rw [if_pos h1] at h
        by_cases hm : p.f1.f1 ∈ S
        · rw [if_pos hm] at h; cases h
        · rw [if_neg hm] at h
          obtain ⟨i1, i2⟩ := pagesB_seqs ps _ _ h
          refine ⟨fun x hx => i1 x (by simp [hx]), fun q hq hq1 => ?_⟩
          rcases List.mem_cons.1 hq with rfl | hq
          · exact ⟨i1 _ (by simp), hm⟩
          · exact ⟨(i2 q hq hq1).1, fun hs => (i2 q hq hq1).2 (by simp [hs])⟩
      · rw [if_neg h1] at h
        obtain ⟨i1, i2⟩ := pagesB_seqs ps _ _ h
        refine ⟨i1, fun q hq hq1 => ?_⟩
        rcases List.mem_cons.1 hq with rfl | hq
        · exact absurd hq1 h1
        · exact i2 q hq hq1
    · rw [if_neg hp] at h; cases h
theorem blocksB_new : ∀ (l : List S65) (S : List Int), blocksB l S = true → ∀ b ∈ l, ∀ q ∈ b.f0, q.f0 = 1 → q.f1.f1 ∉ S
  | [], _, _, _, h, _, _ => by cases h
  | b :: bs, S, h, c, hc, q, hq => by
    rw [blocksB, Bool.and_eq_true] at h
    cases he : pagesB b.f0 S with
    | none => rw [he] at h; exact absurd h.2 (by simp)
    | some S' =>
      rw [he] at h
      obtain ⟨i1, i2⟩ := pagesB_seqs _ _ _ he
      rcases List.mem_cons.1 hc with rfl | hc
      · exact fun h1 => (i2 q hq h1).2
      · exact fun h1 hs => blocksB_new bs S' h.2 c hc q hq h1 (i1 _ hs)
theorem blocksB_apart : ∀ (l : List S65) (S : List Int), blocksB l S = true → ∀ i j : Nat, i < j → j < l.length → ∀ p ∈ (rd_T65 l (i : Int)).f0, ∀ q ∈ (rd_T65 l (j : Int)).f0, p.f0 = 1 → q.f0 = 1 → p.f1.f1 ≠ q.f1.f1
  | [], _, _, _, j, _, hj, _, _, _, _ => by cases hj
  | b :: bs, S, h, i, j, hij, hj, p, hp, q, hq => by
    rw [blocksB, Bool.and_eq_true] at h
    cases he : pagesB b.f0 S with
    | none => rw [he] at h; exact absurd h.2 (by simp)
    | some S' =>
      rw [he] at h
      obtain ⟨i1, i2⟩ := pagesB_seqs _ _ _ he
      obtain ⟨j, rfl⟩ : ∃ m, j = m + 1 := ⟨j - 1, by omega⟩
      rw [List.length_cons] at hj
      rw [rdB_cons] at hq
      cases i with
      | zero => exact fun h1 h2 e => blocksB_new bs S' h.2 _ (rdB_mem (by omega)) q hq h2 (e ▸ (i2 p hp h1).1)
      | succ i =>
        rw [rdB_cons] at hp
        exact blocksB_apart bs S' h.2 i j (by omega) (by omega) p hp q hq
theorem flash_apart {l : List S65} (hf : flashOkB l = true) {i j : Nat} (hi : i < 4) (hj : j < 4) (hne : i ≠ j) {p q : S71} (hp : p ∈ (rd_T65 l (i : Int)).f0) (hq : q ∈ (rd_T65 l (j : Int)).f0) (h1 : p.f1.f1 > 0) (h2 : q.f1.f1 > 0) : p.f1.f1 ≠ q.f1.f1 := by
  have hl := flash_len hf
  have hw : ∀ (m : Nat), m < 4 → ∀ r ∈ (rd_T65 l (m : Int)).f0, r.f1.f1 > 0 → r.f0 = 1 := fun m hm r hr h => by
    by_cases h0 : r.f0 = 1
    · exact h0
    · have := (page_other (flash_pages hf _ (rdB_mem (by omega)) r hr) h0).2.1
      omega
  have h1' := hw i hi p hp h1
  have h2' := hw j hj q hq h2
  unfold flashOkB at hf
  rw [Bool.and_eq_true] at hf
  rcases Nat.lt_or_ge i j with h | h
  · exact blocksB_apart l [] hf.2 i j h (by omega) p hp q hq h1' h2'
  · exact fun e => blocksB_apart l [] hf.2 j i (by omega) (by omega) q hq p hp h2' h1' e.symm
theorem mostP_is : ∀ (ps : List S71) (m : Int), mostP m ps = m ∨ ∃ p ∈ ps, p.f1.f1 = mostP m ps
  | [], m => .inl rfl
  | p :: ps, m => by
    rw [mostP_cons]
    rcases mostP_is ps (mx m p.f1.f1) with h | ⟨q, hq, h⟩
    · rw [h]
      unfold mx
      split
      · exact .inr ⟨p, by simp, rfl⟩
      · exact .inl rfl
    · exact .inr ⟨q, by simp [hq], h⟩
theorem leastQ_is : ∀ (ps : List S71) (m : Int), leastQ m ps = m ∨ ∃ p ∈ ps, p.f1.f1 > 0 ∧ p.f1.f1 = leastQ m ps
  | [], m => .inl rfl
  | p :: ps, m => by
    have e : leastQ m (p :: ps) = leastQ (leastStep m p) ps := rfl
    rw [e]
    rcases leastQ_is ps (leastStep m p) with h | ⟨q, hq, h⟩
    · rw [h]
      unfold leastStep
      split
      · rename_i h0
        exact .inr ⟨p, by simp, h0.1, rfl⟩
      · exact .inl rfl
    · exact .inr ⟨q, by simp [hq], h⟩
theorem leastQ_pos : ∀ (ps : List S71) (m : Int), 0 ≤ m → (0 < m ∨ ∃ p ∈ ps, p.f1.f1 > 0) → 0 < leastQ m ps
  | [], m, _, h => by
    rcases h with h | ⟨p, hp, _⟩
    · exact h
    · cases hp
  | p :: ps, m, hm, h => by
    show 0 < leastQ (leastStep m p) ps
    refine leastQ_pos ps _ (by unfold leastStep; split <;> omega) ?_
    unfold leastStep
    by_cases h1 : p.f1.f1 > 0
    · left
      split
      · omega
      · rename_i h2
        by_cases h3 : m = 0
        · exact absurd ⟨h1, Or.inl h3⟩ h2
        · omega
    · rw [if_neg (fun h => h1 h.1)]
      rcases h with h | ⟨q, hq, hq1⟩
      · exact .inl h
      · rcases List.mem_cons.1 hq with rfl | hq
        · exact absurd hq1 h1
        · exact .inr ⟨q, hq, hq1⟩
theorem span_lo : ∀ (ps : List S71) (s : Int × Int), (∀ p ∈ ps, pageB p = true) → (ps.foldl stepSpan s).1 = leastQ s.1 ps
  | [], _, _ => rfl
  | p :: ps, s, h => by
    have hr : ∀ q ∈ ps, pageB q = true := fun q hq => h q (by simp [hq])
    have e : (stepSpan s p).1 = leastStep s.1 p := by
      unfold stepSpan leastStep
      by_cases h1 : p.f0 = 1
      · have hw := page_written (h p (by simp)) h1
        rw [if_pos h1]
        by_cases h2 : s.1 = 0 ∨ p.f1.f1 < s.1
        · rw [if_pos h2, if_pos ⟨by omega, h2⟩]
        · rw [if_neg h2, if_neg (fun h => h2 h.2)]
      · rw [if_neg h1, if_neg (fun q => by have := (page_other (h p (by simp)) h1).2.1; omega)]
    rw [List.foldl_cons, span_lo ps _ hr, e]
    rfl
theorem spansF_lo {l : List S65} (hf : flashOkB l = true) (k : Nat) (hk : k < 4) : (spansF l k).1 = leastQ 0 (rd_T65 l (k : Int)).f0 := by
  have hl := flash_len hf
  rw [spansF_at k (by omega), span_lo _ _ (flash_pages hf _ (rdB_mem (by omega)))]
theorem cross_apart {l : List S65} (hf : flashOkB l = true) {i j : Nat} (hi : i < 4) (hj : j < 4) (hne : i ≠ j) (h1 : 0 < (spansF l i).2) (h2 : 0 < (spansF l j).2) : (spansF l i).2 ≠ (spansF l j).1 := by
  rw [spansF_hi hf i hi] at h1 ⊢
  rw [spansF_hi hf j hj] at h2
  rw [spansF_lo hf j hj]
  obtain ⟨p, hp, ep⟩ := (mostP_is (rd_T65 l (i : Int)).f0 0).resolve_left (by omega)
  obtain ⟨q0, hq0, eq0⟩ := (mostP_is (rd_T65 l (j : Int)).f0 0).resolve_left (by omega)
  have hpos := leastQ_pos (rd_T65 l (j : Int)).f0 0 (by omega) (.inr ⟨q0, hq0, by omega⟩)
  obtain ⟨q, hq, hq1, eq1⟩ := (leastQ_is (rd_T65 l (j : Int)).f0 0).resolve_left (by omega)
  have := flash_apart hf hi hj hne hp hq (by omega) hq1
  omega
theorem overI_iff (s : Spans) (i : Nat) : ∀ n, overI s i n = true ↔ ∃ j, j < n ∧ crossB (s i) (s j) = true
  | 0 => ⟨fun h => (by cases h), fun ⟨j, h, _⟩ => (by omega)⟩
  | n + 1 => by
    rw [overI, Bool.or_eq_true, overI_iff s i n]
    constructor
    · rintro (⟨j, h, h2⟩ | h)
      · exact ⟨j, by omega, h2⟩
      · exact ⟨n, by omega, h⟩
    · rintro ⟨j, h, h2⟩
      by_cases e : j = n
      · subst e; exact .inr h2
      · exact .inl ⟨j, by omega, h2⟩
theorem overN_iff (s : Spans) : ∀ n, overN s n = true ↔ ∃ i j, j < i ∧ i < n ∧ crossB (s i) (s j) = true
  | 0 => ⟨fun h => (by cases h), fun ⟨i, j, _, h, _⟩ => (by omega)⟩
  | n + 1 => by
    rw [overN, Bool.or_eq_true, overN_iff s n, overI_iff]
    constructor
    · rintro (⟨i, j, h, h1, h2⟩ | ⟨j, h, h2⟩)
      · exact ⟨i, j, h, by omega, h2⟩
      · exact ⟨n, j, h, by omega, h2⟩
    · rintro ⟨i, j, h, h1, h2⟩
      by_cases e : i = n
      · subst e; exact .inr ⟨j, h, h2⟩
      · exact .inl ⟨i, j, h, by omega, h2⟩
theorem badN_iff (l : List S65) (s : Spans) (m : Int) : ∀ n, badN l s m n = true ↔ ∃ i, i < n ∧ partB (rd_T65 l (i : Int)) = true ∧ 0 < (s i).2 ∧ (s i).2 < m
  | 0 => ⟨fun h => (by cases h), fun ⟨j, h, _⟩ => (by omega)⟩
  | n + 1 => by
    rw [badN, Bool.or_eq_true, badN_iff l s m n, Bool.and_eq_true, decide_eq_true_eq]
    constructor
    · rintro (⟨j, h, h2⟩ | ⟨h, h2, h3⟩)
      · exact ⟨j, by omega, h2⟩
      · exact ⟨n, by omega, h, h2, h3⟩
    · rintro ⟨j, h, h2, h3⟩
      by_cases e : j = n
      · subst e; exact .inr ⟨h2, h3⟩
      · exact .inl ⟨j, by omega, h2, h3⟩
theorem newestN_lt (s : Spans) (x : Int) (hx : 0 ≤ x) : ∀ n, x < newestN s n ↔ ∃ k, k < n ∧ x < (s k).2
  | 0 => ⟨fun h => (by rw [newestN] at h; omega), fun ⟨j, h, _⟩ => (by omega)⟩
  | n + 1 => by
    have ih := newestN_lt s x hx n
    have e : x < mx (newestN s n) (s n).2 ↔ x < newestN s n ∨ x < (s n).2 := by
      unfold mx
      split <;> omega
    rw [newestN, e, ih]
    constructor
    · rintro (⟨j, h, h2⟩ | h)
      · exact ⟨j, by omega, h2⟩
      · exact ⟨n, by omega, h⟩
    · rintro ⟨j, h, h2⟩
      by_cases e : j = n
      · subst e; exact .inr h2
      · exact .inl ⟨j, by omega, h2⟩
theorem partN_one (l : List S65) : ∀ n, 1 ≤ partN l n ↔ ∃ i, i < n ∧ partB (rd_T65 l (i : Int)) = true
  | 0 => ⟨fun h => (by rw [partN] at h; omega), fun ⟨j, h, _⟩ => (by omega)⟩
  | n + 1 => by
    have ih := partN_one l n
    rw [partN]
    constructor
    · intro h
      by_cases hp : partB (rd_T65 l (n : Int)) = true
      · exact ⟨n, by omega, hp⟩
      · rw [if_neg hp] at h
        obtain ⟨i, h1, h2⟩ := ih.1 (by omega)
        exact ⟨i, by omega, h2⟩
    · rintro ⟨j, h, h2⟩
      by_cases e : j = n
      · subst e; rw [if_pos h2]; omega
      · have := ih.2 ⟨j, by omega, h2⟩
        omega
theorem partN_two (l : List S65) : ∀ n, 2 ≤ partN l n ↔ ∃ i j, j < i ∧ i < n ∧ partB (rd_T65 l (i : Int)) = true ∧ partB (rd_T65 l (j : Int)) = true
  | 0 => ⟨fun h => (by rw [partN] at h; omega), fun ⟨i, j, _, h, _⟩ => (by omega)⟩
  | n + 1 => by
    have ih := partN_two l n
    have i1 := partN_one l n
    rw [partN]
    constructor
    · intro h
      by_cases hp : partB (rd_T65 l (n : Int)) = true
      · rw [if_pos hp] at h
        obtain ⟨j, h1, h2⟩ := i1.1 (by omega)
        exact ⟨n, j, h1, by omega, hp, h2⟩
      · rw [if_neg hp] at h
        obtain ⟨i, j, h1, h2, h3⟩ := ih.1 (by omega)
        exact ⟨i, j, h1, by omega, h3⟩
    · rintro ⟨i, j, h, h1, h2, h3⟩
      by_cases e : i = n
      · subst e
        have := i1.2 ⟨j, h, h3⟩
        rw [if_pos h2]
        omega
      · have := ih.2 ⟨i, j, h, by omega, h2, h3⟩
        omega
theorem rowB_iff (l : List S65) (i : Nat) : ∀ n, rowB l i n = true ↔ ∃ j, j < n ∧ pairB l i j = true
  | 0 => ⟨fun h => (by cases h), fun ⟨j, h, _⟩ => (by omega)⟩
  | n + 1 => by
    rw [rowB, Bool.or_eq_true, rowB_iff l i n]
    constructor
    · rintro (⟨j, h, h2⟩ | h)
      · exact ⟨j, by omega, h2⟩
      · exact ⟨n, by omega, h⟩
    · rintro ⟨j, h, h2⟩
      by_cases e : j = n
      · subst e; exact .inr h2
      · exact .inl ⟨j, by omega, h2⟩
theorem allB_iff (l : List S65) : ∀ n, allB l n = true ↔ ∃ i j, i < n ∧ j < 4 ∧ pairB l i j = true
  | 0 => ⟨fun h => (by cases h), fun ⟨j, _, h, _⟩ => (by omega)⟩
  | n + 1 => by
    rw [allB, Bool.or_eq_true, allB_iff l n, rowB_iff]
    constructor
    · rintro (⟨i, j, h, h1, h2⟩ | ⟨j, h, h2⟩)
      · exact ⟨i, j, by omega, h1, h2⟩
      · exact ⟨n, j, by omega, h, h2⟩
    · rintro ⟨i, j, h, h1, h2⟩
      by_cases e : i = n
      · subst e; exact .inr ⟨j, h1, h2⟩
      · exact .inl ⟨i, j, by omega, h1, h2⟩
theorem order_same (l : List S65) : specOrderB l = orderI l := by
  unfold specOrderB orderI
  cases hf : flashOkB l with
  | false => rfl
  | true =>
    rw [Bool.true_and, Bool.true_and]
    have hM : ∀ j : Nat, j < 4 → mostQ 0 (rd_T65 l (j : Int)).f0 = (spansF l j).2 := fun j hj => (spansF_hi hf j hj).symm
    have hL : ∀ j : Nat, j < 4 → leastQ 0 (rd_T65 l (j : Int)).f0 = (spansF l j).1 := fun j hj => (spansF_lo hf j hj).symm
    have hP : ∀ i k : Nat, i < 4 → k < 4 → (pairB l i k = true ↔ i ≠ k ∧ ((0 < (spansF l i).2 ∧ 0 < (spansF l k).2 ∧ (spansF l i).1 < (spansF l k).2 ∧ (spansF l k).1 < (spansF l i).2) ∨ (partB (rd_T65 l (i : Int)) = true ∧ (partB (rd_T65 l (k : Int)) = true ∨ (0 < (spansF l i).2 ∧ (spansF l i).2 < (spansF l k).2))))) := fun i k hi hk => by
      unfold pairB c11B c13B partB
      rw [Bool.or_eq_true, hM i hi, hM k hk, hL i hi, hL k hk]
      simp only [decide_eq_true_eq]
      omega
    have key : allB l 4 = true ↔ (overN (spansF l) 4 = true ∨ badN l (spansF l) (newestN (spansF l) 4) 4 = true ∨ 2 ≤ partN l 4) := by
      rw [allB_iff, overN_iff, badN_iff, partN_two]
      constructor
      · rintro ⟨i, k, hi, hk, h⟩
        obtain ⟨hne, h | ⟨h1, h2 | ⟨h2, h3⟩⟩⟩ := (hP i k hi hk).1 h
        · left
          rcases Nat.lt_or_ge k i with hc | hc
          · exact ⟨i, k, hc, hi, by unfold crossB; simp only [decide_eq_true_eq]; omega⟩
          · exact ⟨k, i, by omega, hk, by unfold crossB; simp only [decide_eq_true_eq]; omega⟩
        · right; right
          rcases Nat.lt_or_ge k i with hc | hc
          · exact ⟨i, k, hc, hi, h1, h2⟩
          · exact ⟨k, i, by omega, hk, h2, h1⟩
        · right; left
          exact ⟨i, hi, h1, h2, (newestN_lt (spansF l) _ (by omega) 4).2 ⟨k, hk, h3⟩⟩
      · rintro (⟨i, j, hji, hi, h⟩ | ⟨i, hi, h1, h2, h3⟩ | ⟨i, j, hji, hi, h1, h2⟩)
        · unfold crossB at h
          simp only [decide_eq_true_eq] at h
          have a1 := cross_apart hf hi (by omega : j < 4) (by omega) h.1 h.2.1
          have a2 := cross_apart hf (by omega : j < 4) hi (by omega) h.2.1 h.1
          exact ⟨i, j, hi, by omega, (hP i j hi (by omega)).2 ⟨by omega, .inl (by omega)⟩⟩
        · obtain ⟨k, hk, h4⟩ := (newestN_lt (spansF l) _ (by omega) 4).1 h3
          exact ⟨i, k, hi, hk, (hP i k hi hk).2 ⟨fun e => by subst e; omega, .inr ⟨h1, .inr ⟨h2, h4⟩⟩⟩⟩
        · exact ⟨i, j, hi, by omega, (hP i j hi (by omega)).2 ⟨by omega, .inr ⟨h1, .inl h2⟩⟩⟩
    have hd : decide (partN l 4 ≤ 1) = !decide (2 ≤ partN l 4) := by
      by_cases h : partN l 4 ≤ 1
      · rw [decide_eq_true h, decide_eq_false (by omega)]; rfl
      · rw [decide_eq_false h, decide_eq_true (by omega)]; rfl
    rw [hd]
    cases ha : allB l 4 with
    | false =>
      have hn : ¬ (overN (spansF l) 4 = true ∨ badN l (spansF l) (newestN (spansF l) 4) 4 = true ∨ 2 ≤ partN l 4) := fun h => by rw [key.2 h] at ha; cases ha
      cases ho : overN (spansF l) 4 with
      | true => exact absurd (.inl ho) hn
      | false =>
        cases hb : badN l (spansF l) (newestN (spansF l) 4) 4 with
        | true => exact absurd (.inr (.inl hb)) hn
        | false => rw [decide_eq_false (fun h => hn (.inr (.inr h)))]; rfl
    | true =>
      rcases key.1 ha with h | h | h
      · rw [h]; rfl
      · rw [h]; simp
      · rw [decide_eq_true h]; simp
theorem spec_last_loops (l : List S65) (a : Int) (hl : l.length ≤ 1048576) (K : Nat) (hb : ∀ b ∈ l, b.f0.length ≤ K) (hK : K ≤ 1048576) :
    ∀ (n i : Nat) (r : S30), i + n = l.length → spec_l3Last.l0 ((K + 2) * n + 1) l a (i : Int) r.f0 r.f1 r.f2 r.f3 = some (let q := ((l.drop i).flatMap (·.f0)).foldl (lastStep a) r; (q.f0, q.f1, q.f2, q.f3, decide (q.f1 > 0)))
  | 0, i, r, h => by
    rw [show (K + 2) * 0 + 1 = 0 + 1 by omega, spec_l3Last.l0, if_neg (by omega), List.drop_eq_nil_of_le (by omega)]
    rfl
  | n + 1, i, r, h => by
    have ih := fun r => spec_last_loops l a hl K hb hK n (i + 1) r (by omega)
    have e1 : wrap64 ((i : Int) + 1) = ((i + 1 : Nat) : Int) := by rw [wrap64_in _ (by omega)]; omega
    have hbi := hb _ (rdB_mem (by omega : i < l.length))
    have inner : ∀ (m j : Nat) (r : S30), j + m = (rd_T65 l (i : Int)).f0.length → spec_l3Last.l1 ((K + 2) * n + 1 + (m + 1)) l a (i : Int) (j : Int) r.f0 r.f1 r.f2 r.f3 =
        some (let q := (((rd_T65 l (i : Int)).f0.drop j) ++ ((l.drop (i + 1)).flatMap (·.f0))).foldl (lastStep a) r; (q.f0, q.f1, q.f2, q.f3, decide (q.f1 > 0))) := by
      intro m
      induction m with
      | zero =>
        intro j r hj
        rw [show (K + 2) * n + 1 + (0 + 1) = (K + 2) * n + 1 + 1 by omega, spec_l3Last.l1, if_pos (by omega), if_pos (by omega), if_neg (by omega), e1, List.drop_eq_nil_of_le (by omega), List.nil_append]
        exact ih r
      | succ m im =>
        intro j r hj
        have e2 : wrap64 ((j : Int) + 1) = ((j + 1 : Nat) : Int) := by rw [wrap64_in _ (by omega)]; omega
        rw [show (K + 2) * n + 1 + (m + 1 + 1) = (K + 2) * n + 1 + (m + 1) + 1 by omega, spec_l3Last.l1, if_pos (by omega), if_pos (by omega), if_pos (by omega), if_pos (by omega), e2, dropP_cons (by omega : j < (rd_T65 l (i : Int)).f0.length), List.cons_append, List.foldl_cons]
        unfold lastStep
        by_cases h1 : (rd_T71 (rd_T65 l (i : Int)).f0 (j : Int)).f0 = 1
        · rw [if_pos h1]
          by_cases h2 : (rd_T71 (rd_T65 l (i : Int)).f0 (j : Int)).f1.f2 = a
          · rw [if_pos h2]
            by_cases h3 : (rd_T71 (rd_T65 l (i : Int)).f0 (j : Int)).f1.f1 > r.f1
            · rw [if_pos h3, if_pos ⟨h1, h2, h3⟩]
              exact im (j + 1) _ (by omega)
            · rw [if_neg h3, if_neg (fun h => h3 h.2.2)]
              exact im (j + 1) r (by omega)
          · rw [if_neg h2, if_neg (fun h => h2 h.2.1)]
            exact im (j + 1) r (by omega)
        · rw [if_neg h1, if_neg (fun h => h1 h.1)]
          exact im (j + 1) r (by omega)
    have hlift := inner ((rd_T65 l (i : Int)).f0.length) 0 r (by omega)
    rw [dropB_cons (by omega : i < l.length), List.flatMap_cons]
    rw [List.drop_zero] at hlift
    refine at_rounds (g := fun k => spec_l3Last.l0 k l a (i : Int) r.f0 r.f1 r.f2 r.f3) (fun k => (spec_l3Last.mono_l k).1 _ _ _ _ _ _ _) (k := (K + 2) * n + 1 + ((rd_T65 l (i : Int)).f0.length + 1) + 1) (by rw [Nat.mul_add]; omega) ?_
    show spec_l3Last.l0 _ _ _ _ _ _ _ _ = _
    rw [spec_l3Last.l0, if_pos (by omega)]
    exact hlift
theorem l3Last_ok {l : List S65} (hf : flashOkB l = true) (a : Int) (k : Nat) (hk : 25 ≤ k) : spec_l3Last.f k l a = some ((lastA l a).f0, (lastA l a).f1, (lastA l a).f2, (lastA l a).f3, decide ((lastA l a).f1 > 0)) := by
  have hlen := flash_len hf
  have h4 : ∀ b ∈ l, b.f0.length ≤ 4 := fun b hb => by
    obtain ⟨i, hi, rfl⟩ := List.getElem_of_mem hb
    have := (flash_block hf i (by omega)).1
    rw [show rd_T65 l (i : Int) = l[i] by simp [rd_T65, List.getD_eq_getElem?_getD, hi]] at this
    omega
  have := spec_last_loops l a (by omega) 4 h4 (by omega) 4 0 ⟨0, 0, 0, 0⟩ (by omega)
  unfold spec_l3Last.f lastA pagesL
  rw [pagesL_flat]
  exact at_rounds (g := fun k => spec_l3Last.l0 k l a 0 0 0 0 0) (fun k => (spec_l3Last.mono_l k).1 _ _ _ _ _ _ _) (k := (4 + 2) * 4 + 1) (by omega) this
theorem szBlockS_le (l : List S58) (hl : Fits l) (k : Nat) (hk : l.length < k) (v : Int) (h0 : laws_szBlockS.f k l 1048576 = some v) : v ≤ 1048576 := by
  unfold laws_szBlockS.f at h0
  have := hl.1
  rw [wrap64_in _ (by omega)] at h0
  by_cases h : (1048576 : Int) - (l.length : Int) < 0
  · rw [if_pos h] at h0
    injection h0 with h0
    omega
  · rw [if_neg h] at h0
    obtain ⟨u, hu, h1, _⟩ := szLoop l hl (k - l.length - 1) l.length 0 ((1048576 : Int) - (l.length : Int)) (by omega) (by omega) (by omega)
    rw [show k - l.length - 1 + l.length + 1 = k by omega] at hu
    have e : some u = some v := hu.symm.trans h0
    injection e with e
    omega
theorem take_up_int {l : List Int} {i : Nat} (h : i < l.length) : l.take (i + 1) = l.take i ++ [rd l (i : Int)] := by
  rw [List.take_succ_eq_append_getElem h]
  simp [rd, List.getD_eq_getElem?_getD, h]
theorem toInt_loop (l : List Int) (hl : l.length ≤ 9223372036854775807) (K : Nat) : ∀ (n i : Nat), i + n = l.length →
    laws_toIntS.l0 (K + n + 1) l (l.take i ++ List.replicate n 0) i = some l
  | 0, i, h => by
    rw [laws_toIntS.l0, if_neg (by omega), List.take_of_length_le (by omega), List.replicate_zero, List.append_nil]
  | n + 1, i, h => by
    have hlen : (l.take i).length = i := by rw [List.length_take]; omega
    rw [laws_toIntS.l0, if_pos (by omega), if_pos (by omega), if_pos (by rw [List.length_append, hlen, List.length_replicate]; omega), w64_up (by omega : i < l.length) hl, Int.toNat_natCast, fill_step _ _ _ _ _ hlen]
    have ih := toInt_loop l hl K n (i + 1) (by omega)
    rw [take_up_int (by omega)] at ih
    exact ih
theorem toIntS_ok (l : List Int) (hl : l.length ≤ 1048576) (k : Nat) (hk : l.length < k) : laws_toIntS.f k l = some l := by
  unfold laws_toIntS.f
  rw [if_pos (by omega), Int.toNat_natCast, if_pos (by omega)]
  have := toInt_loop l (by omega) (k - l.length - 1) l.length 0 (by omega)
  rw [show k - l.length - 1 + l.length + 1 = k by omega, List.take_zero, List.nil_append] at this
  exact this
theorem eqInt_loop (l : List Int) (hl : l.length ≤ 9223372036854775807) (K : Nat) : ∀ (n i : Nat), i + n = l.length → laws_eqIntS.l0 (K + n + 1) l l i = some true
  | 0, i, h => by rw [laws_eqIntS.l0, if_neg (by omega)]
  | n + 1, i, h => by
    rw [laws_eqIntS.l0, if_pos (by omega), if_pos (by omega), if_pos (by omega), if_pos rfl, w64_up (by omega : i < l.length) hl]
    exact eqInt_loop l hl K n (i + 1) (by omega)
theorem eqIntS_ok (l : List Int) (hl : l.length ≤ 1048576) (k : Nat) (hk : l.length < k) : laws_eqIntS.f k l l = some true := by
  unfold laws_eqIntS.f
  rw [if_pos rfl]
  have := eqInt_loop l (by omega) (k - l.length - 1) l.length 0 (by omega)
  rw [show k - l.length - 1 + l.length + 1 = k by omega] at this
  exact this
theorem store_ok (l0 : List S58) (l1 : List Int) (hl : Fits l0) (h1 : l1.length ≤ 9223372036854775807) (k : Nat) (hk : l0.length + 2097158 ≤ k) : ∃ v, laws_szStore.f k l0 l1 1048576 = some v ∧ (¬ v < 0 →
    ∀ j, j ≤ 1 → laws_toStore.f (k - j) l0 l1 = some (l0.map cBlock, l1) ∧ laws_eqStore.f (k - j) (l0.map cBlock) l1 (l0.map cBlock) l1 = some true) := by
  obtain ⟨v, hv, hs⟩ := szBlockS_ok l0 hl k (by omega)
  have hle := szBlockS_le l0 hl k (by omega) v hv
  unfold laws_szStore.f
  rw [hv, Option.bind_some]
  by_cases h : v < 0
  · rw [if_pos h]
    exact ⟨-1, rfl, fun h => absurd (by decide) h⟩
  · rw [if_neg h]
    obtain ⟨b1, b2⟩ := hs (by omega)
    unfold laws_szIntS.f
    rw [wrap64_in _ (by omega)]
    by_cases g : v - (l1.length : Int) < 0
    · rw [if_pos g, Option.bind_some, if_pos (by decide)]
      exact ⟨-1, rfl, fun h => absurd (by decide) h⟩
    · rw [if_neg g, Option.bind_some, if_neg g]
      refine ⟨_, rfl, fun _ j hj => ?_⟩
      unfold laws_toStore.f laws_eqStore.f
      rw [toBlockS_ok l0 b1 b2 _ (by omega), Option.bind_some, toIntS_ok l1 (by omega) _ (by omega), Option.bind_some, eqBlockS_ok _ (by rw [List.length_map]; exact b1) (cPages_len l0 b2) _ (by rw [List.length_map]; omega), Option.bind_some, if_pos rfl, eqIntS_ok l1 (by omega) _ (by omega), Option.bind_some, if_pos rfl]
      exact ⟨rfl, rfl⟩
theorem map_last : ∀ (ps : List S71) (M : RecMap) (r : Int → S30), (∀ p ∈ ps, pageB p = true) → (∀ a, M a = (if 0 < (r a).f1 then some (recOf (r a)) else none) ∧ 0 ≤ (r a).f1) →
    ∀ a, ps.foldl mapStep M a = (if 0 < (ps.foldl (lastStep a) (r a)).f1 then some (recOf (ps.foldl (lastStep a) (r a))) else none)
  | [], M, r, _, h, a => (h a).1
  | p :: ps, M, r, hp, h, a => by
    have hr : ∀ q ∈ ps, pageB q = true := fun q hq => hp q (by simp [hq])
    rw [List.foldl_cons, List.foldl_cons]
    refine map_last ps (mapStep M p) (fun a => lastStep a (r a) p) hr (fun a => ?_) a
    have h0 : ((M p.f1.f2).getD (0, 0, 0, 0)).2.1 = (r p.f1.f2).f1 := by
      obtain ⟨e, g⟩ := h p.f1.f2
      rw [e]
      by_cases k : 0 < (r p.f1.f2).f1
      · rw [if_pos k]; rfl
      · rw [if_neg k]
        show (0 : Int) = _
        omega
    unfold mapStep
    rw [h0]
    show _ = (if 0 < (lastStep a (r a) p).f1 then some (recOf (lastStep a (r a) p)) else none) ∧ 0 ≤ (lastStep a (r a) p).f1
    obtain ⟨e, g⟩ := h a
    by_cases c1 : p.f0 = 1
    · have hw := page_written (hp p (by simp)) c1
      by_cases c2 : p.f1.f2 = a
      · subst c2
        by_cases c3 : p.f1.f1 > (r p.f1.f2).f1
        · have hq : lastStep p.f1.f2 (r p.f1.f2) p = p.f1 := by unfold lastStep; rw [if_pos ⟨c1, rfl, c3⟩]
          rw [hq, if_pos (show p.f0 = 1 ∧ p.f1.f1 > (r p.f1.f2).f1 from ⟨c1, c3⟩), if_pos (show 0 < p.f1.f1 by omega)]
          unfold putM
          rw [if_pos rfl]
          exact ⟨rfl, by omega⟩
        · have hq : lastStep p.f1.f2 (r p.f1.f2) p = r p.f1.f2 := by unfold lastStep; rw [if_neg (fun q => c3 q.2.2)]
          rw [hq, if_neg (show ¬ (p.f0 = 1 ∧ p.f1.f1 > (r p.f1.f2).f1) from fun q => c3 q.2)]
          exact ⟨e, g⟩
      · have hq : lastStep a (r a) p = r a := by unfold lastStep; rw [if_neg (fun q => c2 q.2.1)]
        rw [hq]
        refine ⟨?_, g⟩
        split
        · unfold putM
          rw [if_neg (fun q => c2 q.symm)]
          exact e
        · exact e
    · have hq : lastStep a (r a) p = r a := by unfold lastStep; rw [if_neg (fun q => c1 q.1)]
      rw [hq, if_neg (show ¬ (p.f0 = 1 ∧ p.f1.f1 > (r p.f1.f2).f1) from fun q => c1 q.1)]
      exact ⟨e, g⟩
theorem lastMap_at {l : List S65} (hf : flashOkB l = true) (a : Int) : lastMap l a = if 0 < (lastA l a).f1 then some (recOf (lastA l a)) else none := by
  unfold lastMap lastA pagesL
  rw [pagesL_flat]
  refine map_last _ _ (fun _ => ⟨0, 0, 0, 0⟩) (fun p hp => ?_) (fun a => ⟨by rw [if_neg (by simp)], by simp⟩) a
  obtain ⟨b, hb, hp⟩ := List.mem_flatMap.1 hp
  exact flash_pages hf b hb p hp
theorem last_kind (a : Int) : ∀ (ps : List S71) (r : S30), (∀ p ∈ ps, pageB p = true) → (0 < r.f1 → r.f0 = 1 ∨ r.f0 = 2) → 0 < (ps.foldl (lastStep a) r).f1 → (ps.foldl (lastStep a) r).f0 = 1 ∨ (ps.foldl (lastStep a) r).f0 = 2
  | [], r, _, h => h
  | p :: ps, r, hp, h => by
    rw [List.foldl_cons]
    refine last_kind a ps _ (fun q hq => hp q (by simp [hq])) ?_
    unfold lastStep
    split
    · rename_i c
      exact fun _ => (page_written (hp p (by simp)) c.1).1
    · exact h
theorem lastA_kind {l : List S65} (hf : flashOkB l = true) (a : Int) (h : 0 < (lastA l a).f1) : (lastA l a).f0 = 1 ∨ (lastA l a).f0 = 2 := by
  unfold lastA pagesL at h ⊢
  rw [pagesL_flat] at h ⊢
  refine last_kind a _ _ (fun p hp => ?_) (fun h => absurd h (by simp)) h
  obtain ⟨b, hb, hp⟩ := List.mem_flatMap.1 hp
  exact flash_pages hf b hb p hp
def tailOk (M : RecMap) (l1 : List Int) : Nat → Nat → Bool
  | 0, _ => true
  | n + 1, i => okAt M (rd l1 (i : Int)) i && tailOk M l1 n (i + 1)
theorem tail_disk (M : RecMap) (l1 : List Int) : tailOk M l1 6 0 = diskN M l1 6 := by
  simp [tailOk, diskN, Bool.and_assoc]
theorem storeOk_loop (l0 : List S65) (l1 : List Int) (hf : flashOkB l0 = true) (h6 : (l1.length : Int) = 6) (K : Nat) (hK : 25 ≤ K) : ∀ (n i : Nat), i + n = 6 → spec_StoreOk.l0 (K + n + 1) (i : Int) l0 l1 = some (tailOk (lastMap l0) l1 n i)
  | 0, i, h => by
    rw [spec_StoreOk.l0, if_neg (by omega)]
    rfl
  | n + 1, i, h => by
    have e1 : wrap64 ((i : Int) + 1) = ((i + 1 : Nat) : Int) := by rw [wrap64_in _ (by omega)]; omega
    have ih := storeOk_loop l0 l1 hf h6 K hK n (i + 1) (by omega)
    have hM := lastMap_at hf ((i : Int) + 1)
    have hk := lastA_kind hf ((i : Int) + 1)
    rw [spec_StoreOk.l0, if_pos (by omega), e1, l3Last_ok hf _ _ (by omega), Option.bind_some, if_pos (by omega), if_pos (by omega), tailOk]
    rw [show ((i + 1 : Nat) : Int) = (i : Int) + 1 by omega] at *
    unfold okAt spec_l6In.f valB
    rw [hM]
    generalize rd l1 (i : Int) = d
    generalize lastA l0 ((i : Int) + 1) = q at hk ⊢
    show _ = some ((decide (0 ≤ d ∧ d ≤ 9) && _) && _)
    rw [show K + (n + 1) = K + n + 1 by omega]
    by_cases d0 : d ≥ 0
    · rw [if_pos d0, Option.bind_some]
      by_cases d9 : d ≤ 9
      · rw [decide_eq_true d9, if_pos rfl, decide_eq_true (show 0 ≤ d ∧ d ≤ 9 from ⟨d0, d9⟩), Bool.true_and]
        by_cases k0 : 0 < q.f1
        · rw [if_pos (decide_eq_true (by omega : q.f1 > 0)), if_pos k0]
          show _ = some (decide (q.f0 = 1 ∨ q.f3 = d) && _)
          by_cases k1 : q.f0 = 2
          · rw [if_pos k1]
            by_cases k2 : q.f3 = d
            · rw [if_pos k2, decide_eq_true (Or.inr k2), Bool.true_and]
              exact ih
            · rw [if_neg k2, decide_eq_false (fun h => h.elim (by omega) k2), Bool.false_and]
          · rw [if_neg k1, decide_eq_true (Or.inl ((hk k0).resolve_right k1)), Bool.true_and]
            exact ih
        · rw [if_neg (by simp; omega), if_neg k0]
          show _ = some (true && _)
          rw [Bool.true_and]
          exact ih
      · rw [decide_eq_false d9, if_neg (by simp), decide_eq_false (fun h => d9 h.2), Bool.false_and, Bool.false_and]
    · rw [if_neg d0, Option.bind_some, if_neg (by simp), decide_eq_false (fun h => d0 h.1), Bool.false_and, Bool.false_and]
theorem specStoreOk_ok (l0 : List S65) (l1 : List Int) (k : Nat) (hk : 100 < k) : spec_StoreOk.f k l0 l1 = some (storeOkB l0 l1) := by
  obtain ⟨k, rfl⟩ : ∃ m, k = m + 1 := ⟨k - 1, by omega⟩
  unfold spec_StoreOk.f spec_FindOrder.f storeOkB
  rw [Option.bind_some, order_same]
  cases ho : orderI l0 with
  | false => rw [if_neg (by simp), spec_StoreOk.j0, if_pos rfl, Bool.false_and, Bool.and_false]
  | true =>
    rw [if_pos rfl, spec_StoreOk.j0]
    by_cases h6 : (l1.length : Int) = 6
    · rw [if_neg (by simp [h6]), decide_eq_true h6, Bool.true_and, Bool.true_and, ← tail_disk]
      have := storeOk_loop l0 l1 (order_flash ho) h6 (k - 7) (by omega) 6 0 (by omega)
      rw [show k - 7 + 6 + 1 = k by omega] at this
      exact this
    · rw [if_pos (by simp [h6]), decide_eq_false h6, Bool.false_and]
theorem markPage_loop (K : Nat) : ∀ (n i : Nat) (xs : List S71) (m : Int), i + n = xs.length → xs.length ≤ 1048576 → 0 ≤ m → m + 5 * (n : Int) ≤ 9000000000000000000 → ∃ ys, laws_markPageS.l0 (K + n + 1) xs m i = some (m + 5 * (n : Int), ys)
  | 0, i, xs, m, h, _, _, _ => ⟨xs, by rw [laws_markPageS.l0, if_neg (by omega)]; simp⟩
  | n + 1, i, xs, m, h, hl, h0, h1 => by
    have e1 : wrap64 (m + 1) = m + 1 := wrap64_in _ (by omega)
    have e2 : wrap64 (m + 1 + 1) = m + 2 := by rw [wrap64_in _ (by omega)]; omega
    have e3 : wrap64 (m + 2 + 1) = m + 3 := by rw [wrap64_in _ (by omega)]; omega
    have e4 : wrap64 (m + 3 + 1) = m + 4 := by rw [wrap64_in _ (by omega)]; omega
    have e5 : wrap64 (m + 4 + 1) = m + 5 := by rw [wrap64_in _ (by omega)]; omega
    rw [laws_markPageS.l0, if_pos (by omega), if_pos (by omega), w64_up (by omega : i < xs.length) (by omega)]
    simp only [Option.bind_some, e1, e2, e3, e4, e5]
    rw [show m + 5 * ((n + 1 : Nat) : Int) = m + 5 + 5 * (n : Int) by omega]
    exact markPage_loop K n (i + 1) _ (m + 5) (by simp only [List.length_set]; omega) (by simp only [List.length_set]; omega) (by omega) (by omega)
theorem markPageS_ok (xs : List S71) (m : Int) (hl : xs.length ≤ 1048576) (h0 : 0 ≤ m) (h1 : m ≤ 8000000000000000000) (k : Nat) (hk : xs.length < k) : ∃ ys, laws_markPageS.f k xs m = some (m + 5 * (xs.length : Int), ys) := by
  have := markPage_loop (k - xs.length - 1) xs.length 0 xs m (by omega) hl h0 (by omega)
  rw [show k - xs.length - 1 + xs.length + 1 = k by omega] at this
  exact this
theorem markBlock_loop (K : Nat) (hK : 1048576 < K) : ∀ (n i : Nat) (xs : List S65) (m : Int), i + n = xs.length → xs.length ≤ 1048576 → (∀ j : Nat, i ≤ j → j < xs.length → (rd_T65 xs (j : Int)).f0.length ≤ 1048576) → 0 ≤ m → m + 5242881 * (n : Int) ≤ 8000000000000000000 → ∃ m' ys, laws_markBlockS.l0 (K + n + 1) xs m i = some (m', ys) ∧ 0 ≤ m' ∧ m' ≤ m + 5242881 * (n : Int)
  | 0, i, xs, m, h, _, _, h0, _ => ⟨m, xs, by rw [laws_markBlockS.l0, if_neg (by omega)], h0, by omega⟩
  | n + 1, i, xs, m, h, hl, hp, h0, h1 => by
    have hpi := hp i (Nat.le_refl _) (by omega)
    obtain ⟨ys, hy⟩ := markPageS_ok (rd_T65 xs (i : Int)).f0 m hpi h0 (by omega) (K + n + 1) (by omega)
    rw [laws_markBlockS.l0, if_pos (by omega), if_pos (by omega), show K + (n + 1) = K + n + 1 by omega, hy, Option.bind_some, w64_up (by omega : i < xs.length) (by omega), wrap64_in _ (by omega)]
    obtain ⟨m', zs, h2, h3, h4⟩ := markBlock_loop K hK n (i + 1) (xs.set i ⟨ys, m + 5 * ((rd_T65 xs (i : Int)).f0.length : Int)⟩) (m + 5 * ((rd_T65 xs (i : Int)).f0.length : Int) + 1) (by rw [List.length_set]; omega) (by rw [List.length_set]; exact hl)
      (fun j hj hj2 => by
        rw [List.length_set] at hj2
        have := hp j (by omega) hj2
        unfold rd_T65 at this ⊢
        rw [Int.toNat_natCast, List.getD_eq_getElem?_getD] at this ⊢
        rw [List.getElem?_set_ne (by omega)]
        exact this) (by omega) (by omega)
    exact ⟨m', zs, h2, h3, by omega⟩
theorem markBlockS_ok (xs : List S65) (hl : xs.length ≤ 1048576) (hp : ∀ j : Nat, j < xs.length → (rd_T65 xs (j : Int)).f0.length ≤ 1048576) (k : Nat) (hk : xs.length + 1048578 ≤ k) : ∃ m ys, laws_markBlockS.f k xs 1 = some (m, ys) ∧ 0 ≤ m ∧ m ≤ 6000000000000 := by
  obtain ⟨m, ys, h1, h2, h3⟩ := markBlock_loop (k - xs.length - 1) (by omega) xs.length 0 xs 1 (by omega) hl (fun j _ h => hp j h) (by omega) (by omega)
  rw [show k - xs.length - 1 + xs.length + 1 = k by omega] at h1
  exact ⟨m, ys, h1, h2, by omega⟩
def ramp (m : Int) (n : Nat) : List Int := (List.range n).map fun (j : Nat) => m + (j : Int)
theorem ramp_len (m : Int) (n : Nat) : (ramp m n).length = n := by simp [ramp]
theorem ramp_snoc (m : Int) (n : Nat) : ramp m (n + 1) = ramp m n ++ [m + (n : Int)] := by simp [ramp, List.range_succ]
theorem markInt_loop (xs : List Int) (m : Int) (hl : xs.length ≤ 1048576) (h0 : 0 ≤ m) (h1 : m ≤ 8000000000000000000) (K : Nat) : ∀ (n i : Nat), i + n = xs.length → laws_markIntS.l0 (K + n + 1) (ramp m i ++ xs.drop i) (m + (i : Int)) i = some (m + (xs.length : Int), ramp m xs.length)
  | 0, i, h => by
    rw [laws_markIntS.l0, if_neg (by simp [ramp_len]; omega), List.drop_eq_nil_of_le (by omega), List.append_nil, show i = xs.length by omega]
  | n + 1, i, h => by
    have e : (ramp m i ++ xs.drop i).set i (m + (i : Int)) = ramp m (i + 1) ++ xs.drop (i + 1) := by
      rw [List.set_append_right _ _ (by rw [ramp_len]; exact Nat.le_refl _), ramp_len, Nat.sub_self, List.drop_eq_getElem_cons (by omega : i < xs.length), List.set_cons_zero, ramp_snoc, List.append_assoc]
      rfl
    rw [laws_markIntS.l0, if_pos (by simp [ramp_len]; omega), if_pos (by omega), Int.toNat_natCast, e, w64_up (by omega : i < xs.length) (by omega), wrap64_in _ (by omega), show m + (i : Int) + 1 = m + ((i + 1 : Nat) : Int) by omega]
    exact markInt_loop xs m hl h0 h1 K n (i + 1) (by omega)
theorem markIntS_ok (xs : List Int) (m : Int) (hl : xs.length ≤ 1048576) (h0 : 0 ≤ m) (h1 : m ≤ 8000000000000000000) (k : Nat) (hk : xs.length < k) : laws_markIntS.f k xs m = some (m + (xs.length : Int), ramp m xs.length) := by
  have := markInt_loop xs m hl h0 h1 (k - xs.length - 1) xs.length 0 (by omega)
  rw [show k - xs.length - 1 + xs.length + 1 = k by omega] at this
  simpa [ramp, laws_markIntS.f] using this
theorem storeM_ok (l0 : List S58) (l1 : List Int) (hl : Fits l0) (h1 : l1.length ≤ 9223372036854775807) (k : Nat) (hk : l0.length + 2097160 ≤ k) : ∃ v, laws_szStore.f k l0 l1 1048576 = some v ∧ (¬ v < 0 →
    ∀ j, j ≤ 1 → laws_toStore.f (k - j) l0 l1 = some (l0.map cBlock, l1) ∧ laws_eqStore.f (k - j) (l0.map cBlock) l1 (l0.map cBlock) l1 = some true ∧ ∃ m ys zs, laws_markStore.f (k - j) (l0.map cBlock) l1 1 = some (m, ys, zs) ∧ 0 ≤ m) := by
  obtain ⟨v, hv, hs⟩ := szBlockS_ok l0 hl k (by omega)
  have hle := szBlockS_le l0 hl k (by omega) v hv
  unfold laws_szStore.f
  rw [hv, Option.bind_some]
  by_cases h : v < 0
  · rw [if_pos h]
    exact ⟨-1, rfl, fun h => absurd (by decide) h⟩
  · rw [if_neg h]
    obtain ⟨b1, b2⟩ := hs (by omega)
    unfold laws_szIntS.f
    rw [wrap64_in _ (by omega)]
    by_cases g : v - (l1.length : Int) < 0
    · rw [if_pos g, Option.bind_some, if_pos (by decide)]
      exact ⟨-1, rfl, fun h => absurd (by decide) h⟩
    · rw [if_neg g, Option.bind_some, if_neg g]
      refine ⟨_, rfl, fun _ j hj => ?_⟩
      obtain ⟨m, ys, e1, e2, e3⟩ := markBlockS_ok (l0.map cBlock) (by rw [List.length_map]; exact b1) (cPages_len l0 b2) (k - j) (by rw [List.length_map]; omega)
      unfold laws_toStore.f laws_eqStore.f laws_markStore.f
      rw [toBlockS_ok l0 b1 b2 _ (by omega), Option.bind_some, toIntS_ok l1 (by omega) _ (by omega), Option.bind_some, eqBlockS_ok _ (by rw [List.length_map]; exact b1) (cPages_len l0 b2) _ (by rw [List.length_map]; omega), Option.bind_some, if_pos rfl, eqIntS_ok l1 (by omega) _ (by omega), Option.bind_some, if_pos rfl, e1, Option.bind_some, markIntS_ok l1 m (by omega) e2 (by omega) _ (by omega), Option.bind_some]
      exact ⟨rfl, rfl, _, _, _, rfl, by omega⟩
def freeN : List S71 → Nat
  | [] => 0
  | p :: ps => (if p.f0 = 0 then 1 else 0) + freeN ps
theorem freeN_le : ∀ ps : List S71, freeN ps ≤ ps.length
  | [] => Nat.le_refl _
  | p :: ps => by
    have := freeN_le ps
    rw [freeN, List.length_cons]
    split <;> omega
theorem clean_loop (l : List S71) (b : Int) (hl : l.length ≤ 1048576) (K : Nat) : ∀ (n i m : Nat), i + n = l.length → m ≤ i →
    spec_l2Clean.l0 (K + n + 1) (m : Int) (i : Int) l b = some ((m + freeN (l.drop i) : Nat) : Int) ∧
    impl_freePages.l0 (K + n + 1) (m : Int) l (l.length : Int) (i : Int) = some ((m + freeN (l.drop i) : Nat) : Int)
  | 0, i, m, h, hm => by
    rw [spec_l2Clean.l0, impl_freePages.l0, if_neg (by omega), if_neg (by omega), List.drop_eq_nil_of_le (by omega)]
    exact ⟨rfl, rfl⟩
  | n + 1, i, m, h, hm => by
    have ih1 := clean_loop l b hl K n (i + 1) (m + 1) (by omega) (by omega)
    have ih2 := clean_loop l b hl K n (i + 1) m (by omega) (by omega)
    have e1 : wrap64 ((i : Int) + 1) = ((i + 1 : Nat) : Int) := by rw [wrap64_in _ (by omega)]; omega
    have e2 : wrap64 ((m : Int) + 1) = ((m + 1 : Nat) : Int) := by rw [wrap64_in _ (by omega)]; omega
    rw [dropP_cons (by omega : i < l.length), freeN]
    refine ⟨?_, ?_⟩
    · rw [spec_l2Clean.l0, if_pos (by omega), if_pos (by omega), e1, e2]
      by_cases hs : (rd_T71 l (i : Int)).f0 = 0
      · rw [if_pos hs, if_pos hs, show m + (1 + freeN (l.drop (i + 1))) = m + 1 + freeN (l.drop (i + 1)) by omega]
        exact ih1.1
      · rw [if_neg hs, if_neg hs, Nat.zero_add]
        exact ih2.1
    · rw [impl_freePages.l0, if_pos (by omega), if_pos (by omega), if_pos (by omega), e1, e2]
      by_cases hs : (rd_T71 l (i : Int)).f0 = 0
      · rw [if_pos hs, if_pos hs, show m + (1 + freeN (l.drop (i + 1))) = m + 1 + freeN (l.drop (i + 1)) by omega]
        exact ih1.2
      · rw [if_neg hs, if_neg hs, Nat.zero_add]
        exact ih2.2
theorem l2Clean_ok (l : List S71) (b : Int) (hl : l.length ≤ 1048576) (k : Nat) (hk : l.length < k) : spec_l2Clean.f k l b = some ((freeN l : Nat) : Int) := by
  have := (clean_loop l b hl (k - l.length - 1) l.length 0 0 (by omega) (by omega)).1
  rw [show k - l.length - 1 + l.length + 1 = k by omega, List.drop_zero, Nat.zero_add] at this
  exact this
theorem freePages_ok (l : List S71) (b : Int) (hl : l.length ≤ 1048576) (k : Nat) (hk : l.length < k) : impl_freePages.f k l b = some ((freeN l : Nat) : Int) := by
  have := (clean_loop l b hl (k - l.length - 1) l.length 0 0 (by omega) (by omega)).2
  rw [show k - l.length - 1 + l.length + 1 = k by omega, List.drop_zero, Nat.zero_add] at this
  exact this
theorem stepNext_most : ∀ (ps : List S71) (m : Int), 0 ≤ m → (∀ p ∈ ps, pageB p = true) → ps.foldl stepNext m = mostP m ps
  | [], _, _, _ => rfl
  | p :: ps, m, hm, h => by
    have hp := page_seq (h p (by simp))
    have hr : ∀ q ∈ ps, pageB q = true := fun q hq => h q (by simp [hq])
    have e : stepNext m p = mx m p.f1.f1 := by
      unfold stepNext
      by_cases h1 : p.f0 = 1
      · rw [if_pos h1]
      · rw [if_neg h1, (page_other (h p (by simp)) h1).2.1]
        unfold mx
        split <;> omega
    rw [List.foldl_cons, mostP_cons, e]
    exact stepNext_most ps _ (by unfold mx; split <;> omega) hr
def nextV (l : List S65) : Int := if flashOkB l = true then wrap64 (mostP 0 (l.flatMap (·.f0)) + 1) else 0
theorem implNext_ok (l : List S65) : impl_FindNext.f l = some (nextV l) := by
  unfold impl_FindNext.f nextV pagesL
  cases hf : flashOkB l with
  | false => rfl
  | true =>
    rw [if_pos rfl, if_pos rfl, pagesL_flat, stepNext_most _ _ (by omega) (fun p hp => by
      obtain ⟨b, hb, hp⟩ := List.mem_flatMap.1 hp
      exact flash_pages hf b hb p hp)]
theorem next_loop (l : List S65) (hl : l.length = 4) (hb : ∀ j : Nat, j < 4 → (rd_T65 l (j : Int)).f0.length = 4) (hp : ∀ b ∈ l, ∀ p ∈ b.f0, 0 ≤ p.f1.f1) (K : Nat) (hK : 4 < K) : ∀ (n i : Nat) (m : Int), i + n = 4 → 0 ≤ m →
    spec_l3Next.l0 (K + n + 1) l m (i : Int) = some (wrap64 (mostP m ((l.drop i).flatMap (·.f0)) + 1))
  | 0, i, m, h, _ => by
    rw [spec_l3Next.l0, if_neg (by omega), List.drop_eq_nil_of_le (by omega)]
    rfl
  | n + 1, i, m, h, hm => by
    have e1 : wrap64 ((i : Int) + 1) = ((i + 1 : Nat) : Int) := by rw [wrap64_in _ (by omega)]; omega
    have hbi := hb i (by omega)
    have hps : ∀ p ∈ (rd_T65 l (i : Int)).f0, 0 ≤ p.f1.f1 := hp _ (rdB_mem (by omega))
    have hsh := mostP_shift _ m hm hps
    rw [spec_l3Next.l0, if_pos (by omega), if_pos (by omega), l3Most_ok _ _ (by omega) _ (by omega), Option.bind_some, e1, dropB_cons (by omega : i < l.length), List.flatMap_cons]
    have ih := next_loop l hl hb hp K hK n (i + 1) (mx m (mostP 0 (rd_T65 l (i : Int)).f0)) (by omega) (by unfold mx; split <;> omega)
    rw [show K + (n + 1) = K + n + 1 by omega, ih, ← hsh.1]
    unfold mostP
    rw [List.foldl_append]
theorem specL3Next_ok {l : List S65} (hf : flashOkB l = true) (k : Nat) (hk : 100 < k) : spec_l3Next.f k l = some (nextV l) := by
  have := next_loop l (flash_len hf) (fun j hj => (flash_block hf j hj).1) (fun b hb p hp => (page_seq (flash_pages hf b hb p hp)).1) (k - 5) (by omega) 4 0 0 (by omega) (by omega)
  rw [show k - 5 + 4 + 1 = k by omega, List.drop_zero] at this
  unfold spec_l3Next.f nextV
  rw [if_pos hf]
  exact this
def clN (l : List S65) (i : Nat) : Nat := freeN (rd_T65 l (i : Int)).f0
def partL (l : List S65) : Nat → Nat → Option Nat
  | 0, _ => none
  | n + 1, i => if 0 < clN l i ∧ clN l i < 4 then some i else partL l n (i + 1)
def bestL (l : List S65) : Nat → Nat → Int → Int
  | 0, _, o => o
  | n + 1, i, o => if clN l i = 4 ∧ (o < 0 ∨ (rd_T65 l (i : Int)).f1 < (rd_T65 l o).f1) then bestL l n (i + 1) (i : Int) else bestL l n (i + 1) o
def openE (o : Int) : Int × Bool := (mx o 0, decide (o ≥ 0))
def openV (l : List S65) (n i : Nat) (o : Int) : Int × Bool := match partL l n i with
  | some j => ((j : Int), true)
  | none => openE (bestL l n i o)
theorem cl_le (l : List S65) (hp : ∀ j : Nat, j < 4 → (rd_T65 l (j : Int)).f0.length = 4) {i : Nat} (hi : i < 4) : clN l i ≤ 4 := by
  have := freeN_le (rd_T65 l (i : Int)).f0
  have := hp i hi
  unfold clN
  omega
section
variable (l : List S65) (hl : l.length = 4) (hp : ∀ j : Nat, j < 4 → (rd_T65 l (j : Int)).f0.length = 4)
include hl hp
theorem specOpen_loop (K : Nat) (hK : 4 < K) : ∀ (n i : Nat) (o : Int), i + n = 4 → -1 ≤ o → o < i → spec_l3Open.l0 (K + 2 * n + 1) l o i = some (openV l n i o)
  | 0, i, o, h, _, _ => by
    rw [spec_l3Open.l0, if_neg (by omega)]
    rfl
  | n + 1, i, o, h, ho, ho2 => by
    have hi : i < 4 := by omega
    have hc := cl_le l hp hi
    have e1 : wrap64 ((i : Int) + 1) = ((i + 1 : Nat) : Int) := by rw [wrap64_in _ (by omega)]; omega
    have ih1 := specOpen_loop K hK n (i + 1) (i : Int) (by omega) (by omega) (by omega)
    have ih2 := specOpen_loop K hK n (i + 1) o (by omega) (by omega) (by omega)
    have hpi := hp i hi
    rw [show K + 2 * (n + 1) + 1 = K + 2 * n + 2 + 1 by omega, spec_l3Open.l0, if_pos (by omega), if_pos (by omega), l2Clean_ok _ _ (by omega) _ (by omega), Option.bind_some]
    show (if ((clN l i : Nat) : Int) > 0 then spec_l3Open.j1 (K + 2 * n + 2) l o i (clN l i : Nat) (decide (((clN l i : Nat) : Int) < 4)) else spec_l3Open.j1 (K + 2 * n + 2) l o i (clN l i : Nat) false) = _
    unfold openV
    rw [partL]
    by_cases h0 : 0 < clN l i
    · rw [if_pos (by omega)]
      by_cases h4 : clN l i < 4
      · rw [decide_eq_true (by omega : ((clN l i : Nat) : Int) < 4), if_pos ⟨h0, h4⟩, show K + 2 * n + 2 = K + 2 * n + 1 + 1 by omega, spec_l3Open.j1, if_pos rfl]
      · have h44 : clN l i = 4 := by omega
        rw [decide_eq_false (by omega : ¬ ((clN l i : Nat) : Int) < 4), if_neg (fun h => h4 h.2), show K + 2 * n + 2 = K + 2 * n + 1 + 1 by omega, spec_l3Open.j1, if_neg (by simp), if_pos (by omega), bestL, e1]
        by_cases hn : o < 0
        · rw [if_pos hn, if_pos ⟨h44, Or.inl hn⟩]
          exact ih1
        · rw [if_neg hn, if_pos (by omega), if_pos (by omega), if_pos (by omega), if_pos (by omega)]
          by_cases hw : (rd_T65 l (i : Int)).f1 < (rd_T65 l o).f1
          · rw [if_pos hw, if_pos ⟨h44, Or.inr hw⟩]
            exact ih1
          · rw [if_neg hw, if_neg (fun h => h.2.elim hn hw)]
            exact ih2
    · rw [if_neg (by omega), if_neg (fun h => h0 h.1), show K + 2 * n + 2 = K + 2 * n + 1 + 1 by omega, spec_l3Open.j1, if_neg (by simp), if_neg (by omega), bestL, if_neg (fun h => by omega), e1]
      exact ih2
theorem implBest_loop (K : Nat) (hK : 4 < K) : ∀ (n i : Nat) (o : Int), i + n = 4 → -1 ≤ o → o < i → impl_FindOpen.l1 (K + n + 1) l (mx o 0) (decide (o ≥ 0)) l (l.length : Int) i = some (openE (bestL l n i o))
  | 0, i, o, h, _, _ => by
    rw [impl_FindOpen.l1, if_neg (by omega)]
    rfl
  | n + 1, i, o, h, ho, ho2 => by
    have hi : i < 4 := by omega
    have hc := cl_le l hp hi
    have e1 : wrap64 ((i : Int) + 1) = ((i + 1 : Nat) : Int) := by rw [wrap64_in _ (by omega)]; omega
    have hpi := hp i hi
    have ih1 := implBest_loop K hK n (i + 1) (i : Int) (by omega) (by omega) (by omega)
    have ih2 := implBest_loop K hK n (i + 1) o (by omega) (by omega) (by omega)
    rw [show mx (i : Int) 0 = (i : Int) from by unfold mx; omega, decide_eq_true (by omega : (i : Int) ≥ 0)] at ih1
    rw [impl_FindOpen.l1, if_pos (by omega), if_pos (by omega), if_pos (by omega), freePages_ok _ _ (by omega) _ (by omega), Option.bind_some, e1, bestL]
    show (if ((clN l i : Nat) : Int) = 4 then _ else _) = _
    by_cases h4 : clN l i = 4
    · rw [if_pos (by omega)]
      by_cases hn : o < 0
      · rw [decide_eq_false (by omega : ¬ o ≥ 0), if_neg (by simp), if_pos ⟨h4, Or.inl hn⟩]
        exact ih1
      · have em : mx o 0 = o := by unfold mx; omega
        rw [decide_eq_true (by omega : o ≥ 0), if_pos rfl, em, if_pos (by omega), if_pos (by omega)]
        rw [decide_eq_true (by omega : o ≥ 0), em] at ih2
        by_cases hw : (rd_T65 l (i : Int)).f1 < (rd_T65 l o).f1
        · rw [if_pos hw, if_pos ⟨h4, Or.inr hw⟩]
          exact ih1
        · rw [if_neg hw, if_neg (fun h => h.2.elim hn hw)]
          exact ih2
    · rw [if_neg (by omega), if_neg (fun h => h4 h.1)]
      exact ih2
theorem implOpen_loop (K : Nat) (hK : 10 < K) : ∀ (n i : Nat), i + n = 4 → impl_FindOpen.l0 (K + n + 1) l l (l.length : Int) i = some (match partL l n i with | some j => ((j : Int), true) | none => openE (bestL l 4 0 (-1)))
  | 0, i, h => by
    have hb := implBest_loop l hl hp (K - 5) (by omega) 4 0 (-1) (by omega) (by omega) (by omega)
    rw [show K - 5 + 4 + 1 = K by omega] at hb
    rw [impl_FindOpen.l0, if_neg (by omega), partL]
    exact hb
  | n + 1, i, h => by
    have hi : i < 4 := by omega
    have hc := cl_le l hp hi
    have e1 : wrap64 ((i : Int) + 1) = ((i + 1 : Nat) : Int) := by rw [wrap64_in _ (by omega)]; omega
    have hpi := hp i hi
    have ih := implOpen_loop K hK n (i + 1) (by omega)
    rw [impl_FindOpen.l0, if_pos (by omega), if_pos (by omega), if_pos (by omega), e1, partL]
    unfold impl_partlyUsed.f
    rw [freePages_ok _ _ (by omega) _ (by omega), Option.bind_some]
    show ((if ((clN l i : Nat) : Int) > 0 then some (decide (((clN l i : Nat) : Int) < 4)) else some false).bind _) = _
    by_cases h0 : 0 < clN l i
    · rw [if_pos (by omega), Option.bind_some]
      by_cases h4 : clN l i < 4
      · rw [decide_eq_true (by omega : ((clN l i : Nat) : Int) < 4), if_pos rfl, if_pos ⟨h0, h4⟩]
      · rw [decide_eq_false (by omega : ¬ ((clN l i : Nat) : Int) < 4), if_neg (by simp), if_neg (fun h => h4 h.2)]
        exact ih
    · rw [if_neg (by omega), Option.bind_some, if_neg (by simp), if_neg (fun h => h0 h.1)]
      exact ih
end
def openR (l : List S65) : Int × Bool := if flashOkB l = true then openV l 4 0 (-1) else (0, false)
theorem implFindOpen_ok (l : List S65) (k : Nat) (hk : 100 < k) : impl_FindOpen.f k l = some (openR l) := by
  unfold impl_FindOpen.f impl_FlashOk.f openR
  rw [Option.bind_some]
  cases hf : flashOkB l with
  | false => rw [if_neg (by simp), if_neg (by simp)]
  | true =>
    rw [if_pos rfl, if_pos rfl]
    have := implOpen_loop l (flash_len hf) (fun j hj => (flash_block hf j hj).1) (k - 5) (by omega) 4 0 (by omega)
    rw [show k - 5 + 4 + 1 = k by omega] at this
    exact this
theorem specL3Open_ok {l : List S65} (hf : flashOkB l = true) (k : Nat) (hk : 100 < k) : spec_l3Open.f k l = some (openV l 4 0 (-1)) := by
  have := specOpen_loop l (flash_len hf) (fun j hj => (flash_block hf j hj).1) (k - 9) (by omega) 4 0 (-1) (by omega) (by omega) (by omega)
  rw [show k - 9 + 2 * 4 + 1 = k by omega] at this
  unfold spec_l3Open.f
  rw [show (0 : Int) = ((0 : Nat) : Int) from rfl, this]
theorem old_loop (l : List S65) (s : Spans) (hl : l.length = 4) (hb : ∀ j : Nat, j < 4 → (rd_T65 l (j : Int)).f0.length = 4) (hs : ∀ j : Nat, j < 4 → (s j).2 = mostP 0 (rd_T65 l (j : Int)).f0) (K : Nat) (hK : 4 < K) : ∀ (n i : Nat), i + n = 4 →
    spec_l3Old.l0 (K + n + 1) l ((oldN s i : Nat) : Int) (i : Int) = some ((oldN s 4 : Nat) : Int)
  | 0, i, h => by
    rw [spec_l3Old.l0, if_neg (by omega), show i = 4 by omega]
  | n + 1, i, h => by
    have e1 : wrap64 ((i : Int) + 1) = ((i + 1 : Nat) : Int) := by rw [wrap64_in _ (by omega)]; omega
    have ho := oldN_lt s i (by omega)
    have h1 := hb i (by omega)
    have h2 := hb (oldN s i) ho
    have ih := old_loop l s hl hb hs K hK n (i + 1) (by omega)
    rw [spec_l3Old.l0, if_pos (by omega), if_pos (by omega), show K + (n + 1) = K + n + 1 by omega, l3Most_ok _ _ (by omega) _ (by omega), Option.bind_some, if_pos (by omega), if_pos (by omega), l3Most_ok _ _ (by omega) _ (by omega), Option.bind_some, ← hs i (by omega), ← hs (oldN s i) ho, e1]
    rw [oldN] at ih
    by_cases hc : (s i).2 < (s (oldN s i)).2
    · rw [if_pos hc] at ih ⊢
      exact ih
    · rw [if_neg hc] at ih ⊢
      exact ih
theorem specL3Old_ok {l : List S65} (hf : flashOkB l = true) (k : Nat) (hk : 100 < k) : spec_l3Old.f k l = some ((oldN (spansF l) 4 : Nat) : Int) := by
  have := old_loop l (spansF l) (flash_len hf) (fun j hj => (flash_block hf j hj).1) (fun j hj => spansF_hi hf j hj) (k - 4) (by omega) 3 1 (by omega)
  rw [show k - 4 + 3 + 1 = k by omega] at this
  have h1 : oldN (spansF l) 1 = 0 := by rw [oldN]; split <;> rfl
  rw [h1] at this
  unfold spec_l3Old.f
  exact this
theorem lastStep_ge (a : Int) : ∀ (ps : List S71) (r : S30), r.f1 ≤ (ps.foldl (lastStep a) r).f1
  | [], r => Int.le_refl _
  | p :: ps, r => by
    rw [List.foldl_cons]
    refine Int.le_trans ?_ (lastStep_ge a ps _)
    unfold lastStep
    split <;> omega
theorem lastStep_mem (a : Int) : ∀ (ps : List S71) (r : S30) (p : S71), p ∈ ps → p.f0 = 1 → p.f1.f2 = a → p.f1.f1 ≤ (ps.foldl (lastStep a) r).f1
  | q :: ps, r, p, hp, h1, h2 => by
    rw [List.foldl_cons]
    rcases List.mem_cons.1 hp with rfl | hp
    · refine Int.le_trans ?_ (lastStep_ge a ps _)
      unfold lastStep
      split
      · exact Int.le_refl _
      · rename_i h
        by_cases h3 : p.f1.f1 > r.f1
        · exact absurd ⟨h1, h2, h3⟩ h
        · omega
    · exact lastStep_mem a ps _ p hp h1 h2
def pageAt (l : List S65) (a b : Int) : S71 := rd_T71 (rd_T65 l a).f0 b
def liveP (l : List S65) (p : S71) : Bool := if p.f0 = 1 then (let r := lastA l p.f1.f2; (r.f0 == p.f1.f0 && (r.f1 == p.f1.f1 && (r.f2 == p.f1.f2 && (r.f3 == p.f1.f3))))) else false
def liveV (l : List S65) (a b : Int) : Bool := if flashOkB l = true ∧ 0 ≤ a ∧ a < 4 ∧ 0 ≤ b ∧ b < 4 then liveP l (pageAt l a b) else false
theorem implLive_ok (l : List S65) (a b : Int) (k : Nat) (hk : 25 ≤ k) : impl_FindLive.f k l a b = some (liveV l a b) := by
  obtain ⟨k, rfl⟩ : ∃ m, k = m + 1 := ⟨k - 1, by omega⟩
  have hj : impl_FindLive.j0 (k + 1) l a b true = some false := by rw [impl_FindLive.j0, if_pos rfl]
  unfold impl_FindLive.f impl_FlashOk.f impl_blockOk.f liveV
  rw [Option.bind_some]
  cases hf : flashOkB l with
  | false => rw [if_neg (by simp), if_neg (by simp)]; exact hj
  | true =>
    rw [if_pos rfl]
    by_cases h0 : 0 ≤ a
    · rw [if_pos (by omega : a ≥ 0), Option.bind_some]
      by_cases h4 : a < 4
      · rw [decide_eq_true h4, if_pos rfl]
        by_cases g0 : b < 0
        · rw [if_pos g0, if_neg (by omega)]; exact hj
        · rw [if_neg g0]
          by_cases g4 : b ≥ 4
          · rw [decide_eq_true g4, if_neg (by omega)]; exact hj
          · obtain ⟨j, rfl⟩ := Int.eq_ofNat_of_zero_le h0
            obtain ⟨m, rfl⟩ := Int.eq_ofNat_of_zero_le (by omega : 0 ≤ b)
            obtain ⟨hb, _⟩ := flash_block hf j (by omega)
            have hl := flash_len hf
            rw [if_pos (show true = true ∧ 0 ≤ (j : Int) ∧ (j : Int) < 4 ∧ 0 ≤ (m : Int) ∧ (m : Int) < 4 from ⟨rfl, h0, by omega, by omega, by omega⟩), decide_eq_false g4, impl_FindLive.j0, if_neg (by simp), if_pos h0, if_pos (by omega), if_pos (by omega), if_pos (by omega)]
            unfold liveP pageAt
            have hm1 : rd_T65 l (j : Int) ∈ l := rdB_mem (by omega)
            have hm2 : rd_T71 (rd_T65 l (j : Int)).f0 (m : Int) ∈ (rd_T65 l (j : Int)).f0 := rdP_mem (by omega)
            have hpg := flash_pages hf _ hm1 _ hm2
            by_cases h1 : (rd_T71 (rd_T65 l (j : Int)).f0 (m : Int)).f0 = 1
            · have hw := page_written hpg h1
              have hge : (rd_T71 (rd_T65 l (j : Int)).f0 (m : Int)).f1.f1 ≤ (lastA l (rd_T71 (rd_T65 l (j : Int)).f0 (m : Int)).f1.f2).f1 := by
                unfold lastA pagesL
                rw [pagesL_flat]
                exact lastStep_mem _ _ _ _ (List.mem_flatMap.2 ⟨_, hm1, hm2⟩) h1 rfl
              rw [if_pos h1, if_pos h1]
              unfold impl_FindLast.f
              rw [hf, if_pos ⟨by unfold addrB; simp; omega, rfl⟩, Option.bind_some]
              simp only []
              rw [decide_eq_true (by omega : (lastA l (rd_T71 (rd_T65 l (j : Int)).f0 (m : Int)).f1.f2).f1 > 0), if_pos rfl]
            · rw [if_neg h1, if_neg h1]
      · rw [decide_eq_false h4, if_neg (by simp), if_neg (by omega)]; exact hj
    · rw [if_neg (by omega : ¬ a ≥ 0), Option.bind_some, if_neg (by simp), if_neg (by omega)]; exact hj
theorem l3Live_ok {l : List S65} (hf : flashOkB l = true) (p : S71) (k : Nat) (hk : 25 ≤ k) : spec_l3Live.f k l p.f0 p.f1.f0 p.f1.f1 p.f1.f2 p.f1.f3 = some (liveP l p) := by
  unfold spec_l3Live.f liveP
  by_cases h1 : p.f0 = 1
  · rw [if_pos h1, if_pos h1, l3Last_ok hf _ k hk]
    rfl
  · rw [if_neg h1, if_neg h1]
theorem l11Read_ok {l0 : List S65} {l1 : List Int} (hf : flashOkB l0 = true) (h6 : l1.length = 6) (a : Int) (h1 : 1 ≤ a) (h2 : a ≤ 6) (k : Nat) (hk : 25 ≤ k) : spec_l11Read.f k l0 l1 a = some (match lastMap l0 a with
  | some r => r.2.2.2
  | none => rd l1 (a - 1)) := by
  unfold spec_l11Read.f
  rw [l3Last_ok hf a k hk, Option.bind_some, lastMap_at hf a, wrap64_in _ (by omega)]
  by_cases k0 : 0 < (lastA l0 a).f1
  · rw [if_pos (decide_eq_true (by omega : (lastA l0 a).f1 > 0)), if_pos k0]
    rfl
  · rw [if_neg (by simp; omega), if_neg k0, if_pos (by omega), if_pos (by omega)]
abbrev St := S85
abbrev Bl := S65
abbrev Pg := S71
def diskS (p : Pg) : St := ⟨1, p.f1.f2, p.f1.f3, 0, ⟨0, 0, 0, 0⟩⟩
def wantS (l : List Bl) (p : Pg) : Bool := p.f1.f0 == 1 && liveP l p
def disksS (l : List Bl) (ps : List Pg) : List St := (ps.filter (wantS l)).map diskS
def writeS (_l : List Bl) (kind n a v b : Int) : St := ⟨3, 0, 0, b, ⟨kind, n, a, v⟩⟩
def wipeS (b : Int) : St := ⟨2, 0, 0, b, ⟨0, 0, 0, 0⟩⟩
def stepsV (l : List Bl) (kind a v : Int) : List St :=
  if recOkB kind (nextV l) a v = true then
    (if (openV l 4 0 (-1)).2 = true then [writeS l kind (nextV l) a v (openV l 4 0 (-1)).1]
     else if (rd_T65 l ((oldN (spansF l) 4 : Nat) : Int)).f1 = 200 then []
     else disksS l (rd_T65 l ((oldN (spansF l) 4 : Nat) : Int)).f0 ++ [wipeS ((oldN (spansF l) 4 : Nat) : Int)] ++ [writeS l kind (nextV l) a v ((oldN (spansF l) 4 : Nat) : Int)])
  else []
theorem disksS_len (l : List Bl) (ps : List Pg) : (disksS l ps).length ≤ ps.length := by
  unfold disksS
  rw [List.length_map]
  exact List.length_filter_le _ _
theorem in6 (n a b : Int) : spec_l6In.f n a b = some (decide (a ≤ n ∧ n ≤ b)) := by
  unfold spec_l6In.f
  by_cases h : n ≥ a
  · rw [if_pos h]
    by_cases h2 : n ≤ b
    · rw [decide_eq_true h2, decide_eq_true ⟨h, h2⟩]
    · rw [decide_eq_false h2, decide_eq_false (fun q => h2 q.2)]
  · rw [if_neg h, decide_eq_false (fun q => h q.1)]
theorem specRecOk_ok (a b c d : Int) : spec_RecOk.f a b c d = some (recOkB a b c d) := by
  unfold spec_RecOk.f
  rw [in6, Option.bind_some]
  by_cases h1 : 1 ≤ a ∧ a ≤ 2
  · rw [decide_eq_true h1, if_pos rfl, in6, Option.bind_some]
    by_cases h2 : 1 ≤ b ∧ b ≤ 600
    · rw [decide_eq_true h2, if_pos rfl, in6, Option.bind_some]
      by_cases h3 : 1 ≤ c ∧ c ≤ 6
      · rw [decide_eq_true h3, if_pos rfl, in6, Option.bind_some]
        by_cases h4 : 0 ≤ d ∧ d ≤ 9
        · rw [decide_eq_true h4]
          unfold recOkB
          rw [decide_eq_true (by omega)]
        · rw [decide_eq_false h4]
          unfold recOkB
          rw [decide_eq_false (by omega)]
      · rw [decide_eq_false h3, if_neg (by simp)]
        unfold recOkB
        rw [decide_eq_false (by omega)]
    · rw [decide_eq_false h2, if_neg (by simp)]
      unfold recOkB
      rw [decide_eq_false (by omega)]
  · rw [decide_eq_false h1, if_neg (by simp)]
    unfold recOkB
    rw [decide_eq_false (by omega)]
section
variable {l : List Bl} (hf : flashOkB l = true)
include hf
theorem stepsV_len (kind a v : Int) : (stepsV l kind a v).length ≤ 6 := by
  have h1 := (flash_block hf (oldN (spansF l) 4) (oldN_lt (spansF l) 4 (by omega))).1
  have h2 := disksS_len l (rd_T65 l ((oldN (spansF l) 4 : Nat) : Int)).f0
  unfold stepsV
  split
  · split
    · simp
    · split
      · simp
      · simp only [List.length_append, List.length_cons, List.length_nil]
        omega
  · simp
theorem specRoom_loop (l1 : List Int) (o : Nat) (ho : o < 4) (K : Nat) (hK : 25 ≤ K) : ∀ (n i : Nat) (out : List St), i + n = 4 → out.length ≤ i →
    spec_l12Room.l0 (K + n + 1) out (o : Int) (i : Int) l l1 = some (out ++ disksS l ((rd_T65 l (o : Int)).f0.drop i) ++ [wipeS (o : Int)], (o : Int), decide ((rd_T65 l (o : Int)).f1 < 200))
  | 0, i, out, h, hl => by
    have hlen := flash_len hf
    have hb := (flash_block hf o ho).1
    rw [spec_l12Room.l0, if_neg (by omega), if_pos (by omega), if_pos (by omega), if_pos (by omega), List.drop_eq_nil_of_le (by omega)]
    simp [disksS, wipeS]
  | n + 1, i, out, h, hl => by
    have hlen := flash_len hf
    have hb := (flash_block hf o ho).1
    have e1 : wrap64 ((i : Int) + 1) = ((i + 1 : Nat) : Int) := by rw [wrap64_in _ (by omega)]; omega
    rw [spec_l12Room.l0, if_pos (by omega), if_pos (by omega), if_pos (by omega), if_pos (by omega), if_pos (by omega), show K + (n + 1) = K + n + 1 by omega, l3Live_ok hf _ _ (by omega), Option.bind_some, e1, dropP_cons (by omega : i < (rd_T65 l (o : Int)).f0.length)]
    have ih1 := fun out h2 => specRoom_loop l1 o ho K hK n (i + 1) out (by omega) h2
    generalize rd_T71 (rd_T65 l (o : Int)).f0 (i : Int) = p at *
    have hd : ∀ q, disksS l (p :: q) = (if wantS l p = true then [diskS p] else []) ++ disksS l q := fun q => by
      unfold disksS
      rw [List.filter_cons]
      split <;> simp
    rw [hd]
    unfold wantS
    by_cases k1 : liveP l p = true
    · rw [if_pos k1]
      by_cases k2 : p.f1.f0 = 1
      · rw [if_pos k2, if_pos (by omega), if_pos (by simp [k1, k2])]
        have := ih1 (out ++ [diskS p]) (by rw [List.length_append]; simp; omega)
        rw [show (⟨1, p.f1.f2, p.f1.f3, 0, ⟨0, 0, 0, 0⟩⟩ : St) = diskS p from rfl, this]
        simp
      · rw [if_neg k2, if_neg (by simp [k2]), List.nil_append]
        exact ih1 out (by omega)
    · rw [if_neg k1, if_neg (by simp [k1]), List.nil_append]
      exact ih1 out (by omega)
theorem specWrite_ok (l1 : List Int) (kind a v : Int) (k : Nat) (hk : 200 < k) : spec_l12Write.f k l l1 kind a v = some (stepsV l kind a v) := by
  have ho := oldN_lt (spansF l) 4 (by omega)
  have hr := specRoom_loop hf l1 (oldN (spansF l) 4) ho (k - 5) (by omega) 4 0 [] (by omega) (by simp)
  have hw := (flash_block hf (oldN (spansF l) 4) ho).2
  have h1 := (flash_block hf (oldN (spansF l) 4) ho).1
  have h2 := disksS_len l (rd_T65 l ((oldN (spansF l) 4 : Nat) : Int)).f0
  rw [show k - 5 + 4 + 1 = k by omega, List.drop_zero, List.nil_append] at hr
  unfold spec_l12Write.f spec_l12Room.f stepsV
  rw [specL3Next_ok hf k (by omega), Option.bind_some, specL3Open_ok hf k (by omega), Option.bind_some, Option.bind_some]
  by_cases c1 : (openV l 4 0 (-1)).2 = true
  · rw [if_pos c1, Option.bind_some, if_pos rfl, specRecOk_ok, Option.bind_some]
    by_cases c2 : recOkB kind (nextV l) a v = true
    · rw [if_pos c2, if_pos c2, if_pos (by simp), if_pos c1]
      rfl
    · rw [if_neg c2, if_neg c2]
  · rw [if_neg c1, specL3Old_ok hf k (by omega), Option.bind_some]
    have hr2 : spec_l12Room.l0 k [] ((oldN (spansF l) 4 : Nat) : Int) 0 l l1 = _ := hr
    rw [hr2, Option.bind_some]
    by_cases c3 : (rd_T65 l ((oldN (spansF l) 4 : Nat) : Int)).f1 = 200
    · rw [if_neg (by simp [c3]), if_neg c1, if_pos c3]
      split <;> rfl
    · rw [if_pos (by simp; omega), specRecOk_ok, Option.bind_some]
      by_cases c2 : recOkB kind (nextV l) a v = true
      · rw [if_pos c2, if_pos c2, if_neg c1, if_neg c3, if_pos (by simp only [List.length_append, List.length_cons, List.length_nil]; omega)]
        rfl
      · rw [if_neg c2, if_neg c2]
theorem implWrite_loop (o : Nat) (ho : o < 4) (q0 q1 q2 q3 : Int) (K : Nat) (hK : 25 ≤ K) : ∀ (n i : Nat) (out : List St), i + n = 4 → out.length ≤ i →
    impl_stepsWrite.l0 (K + n + 1) l (o : Int) out (rd_T65 l (o : Int)).f0 ((rd_T65 l (o : Int)).f0.length : Int) (i : Int) q0 q1 q2 q3 = some (out ++ disksS l ((rd_T65 l (o : Int)).f0.drop i) ++ [wipeS (o : Int)] ++ [⟨3, 0, 0, (o : Int), ⟨q0, q1, q2, q3⟩⟩])
  | 0, i, out, h, hl => by
    have hb := (flash_block hf o ho).1
    rw [impl_stepsWrite.l0, if_neg (by omega), if_pos (by omega), Option.bind_some, if_pos (by simp; omega), List.drop_eq_nil_of_le (by omega)]
    simp [disksS, wipeS]
  | n + 1, i, out, h, hl => by
    have hb := (flash_block hf o ho).1
    have e1 : wrap64 ((i : Int) + 1) = ((i + 1 : Nat) : Int) := by rw [wrap64_in _ (by omega)]; omega
    have hlv := implLive_ok l (o : Int) (i : Int) (K + n + 1) (by omega)
    unfold liveV pageAt at hlv
    rw [if_pos ⟨hf, by omega, by omega, by omega, by omega⟩] at hlv
    rw [impl_stepsWrite.l0, if_pos (by omega), if_pos (by omega), if_pos (by omega), show K + (n + 1) = K + n + 1 by omega, e1, hlv, dropP_cons (by omega : i < (rd_T65 l (o : Int)).f0.length)]
    have ih1 := fun out h2 => implWrite_loop o ho q0 q1 q2 q3 K hK n (i + 1) out (by omega) h2
    unfold impl_Rec_isDirty.f impl_diskStep.f
    rw [Option.bind_some]
    generalize rd_T71 (rd_T65 l (o : Int)).f0 (i : Int) = p at *
    have hd : ∀ q, disksS l (p :: q) = (if wantS l p = true then [diskS p] else []) ++ disksS l q := fun q => by
      unfold disksS
      rw [List.filter_cons]
      split <;> simp
    rw [hd]
    unfold wantS
    by_cases k2 : p.f1.f0 = 1
    · rw [if_pos (by simp [k2]), Option.bind_some]
      by_cases k1 : liveP l p = true
      · rw [if_pos k1, Option.bind_some, if_pos (by omega), if_pos (by simp [k1, k2])]
        have := ih1 (out ++ [diskS p]) (by rw [List.length_append]; simp; omega)
        show impl_stepsWrite.l0 _ _ _ (out ++ [diskS p]) _ _ _ _ _ _ _ = _
        rw [this]
        simp
      · rw [if_neg k1, if_neg (by simp [k1]), List.nil_append]
        exact ih1 out (by omega)
    · rw [if_neg (by simp [k2]), if_neg (by simp [k2]), List.nil_append]
      exact ih1 out (by omega)
theorem implWrite_ok (kind a v : Int) (k : Nat) (hk : 200 < k) : impl_stepsWrite.f k l kind a v = some (stepsV l kind a v) := by
  have ho := oldN_lt (spansF l) 4 (by omega)
  have hlen := flash_len hf
  have hr := implWrite_loop hf (oldN (spansF l) 4) ho kind (nextV l) a v (k - 5) (by omega) 4 0 [] (by omega) (by simp)
  rw [show k - 5 + 4 + 1 = k by omega, List.drop_zero, List.nil_append] at hr
  unfold impl_stepsWrite.f stepsV
  rw [implNext_ok, Option.bind_some]
  unfold impl_RecOk.f
  rw [Option.bind_some]
  by_cases c2 : recOkB kind (nextV l) a v = true
  · rw [if_pos c2, if_pos c2, implFindOpen_ok l k (by omega), Option.bind_some]
    unfold openR
    rw [if_pos hf]
    by_cases c1 : (openV l 4 0 (-1)).2 = true
    · rw [if_pos c1, if_pos c1]
      rfl
    · rw [if_neg c1, if_neg c1]
      unfold impl_FindOld.f
      rw [if_pos hf, Option.bind_some, if_pos (by omega), if_pos (by omega)]
      by_cases c3 : (rd_T65 l ((oldN (spansF l) 4 : Nat) : Int)).f1 = 200
      · rw [if_pos c3, if_pos c3]
      · rw [if_neg c3, if_neg c3]
        exact hr
  · rw [if_neg c2, if_neg c2]
end
theorem eqStep_loop (l : List S85) (hl : l.length ≤ 1048576) (K : Nat) : ∀ (n i : Nat), i + n = l.length → laws_eqStepS.l0 (K + n + 1) l l i = some true
  | 0, i, h => by rw [laws_eqStepS.l0, if_neg (by omega)]
  | n + 1, i, h => by
    rw [laws_eqStepS.l0, if_pos (by omega), if_pos (by omega), if_pos (by omega), w64_up (by omega : i < l.length) (by omega)]
    unfold laws_eqStep.f laws_eqRec.f
    rw [if_pos rfl, if_pos rfl, if_pos rfl, if_pos rfl, if_pos rfl, if_pos rfl, if_pos rfl, if_pos rfl, Option.bind_some, if_pos rfl, Option.bind_some, if_pos rfl]
    exact eqStep_loop l hl K n (i + 1) (by omega)
theorem eqStepS_ok (l : List S85) (hl : l.length ≤ 1048576) (k : Nat) (hk : l.length < k) : laws_eqStepS.f k l l = some true := by
  unfold laws_eqStepS.f
  rw [if_pos rfl]
  have := eqStep_loop l hl (k - l.length - 1) l.length 0 (by omega)
  rw [show k - l.length - 1 + l.length + 1 = k by omega] at this
  exact this
def rampSt (m : Int) : S85 := ⟨m, m + 1, m + 2, m + 3, ⟨m + 4, m + 5, m + 6, m + 7⟩⟩
theorem rampSt_f (m : Int) : (rampSt m).f0 = m ∧ (rampSt m).f1 = m + 1 ∧ (rampSt m).f2 = m + 1 + 1 ∧ (rampSt m).f3 = m + 1 + 1 + 1 ∧ (rampSt m).f4.f0 = m + 1 + 1 + 1 + 1 ∧ (rampSt m).f4.f1 = m + 1 + 1 + 1 + 1 + 1 ∧ (rampSt m).f4.f2 = m + 1 + 1 + 1 + 1 + 1 + 1 ∧ (rampSt m).f4.f3 = m + 1 + 1 + 1 + 1 + 1 + 1 + 1 := by
  refine ⟨rfl, rfl, ?_, ?_, ?_, ?_, ?_, ?_⟩
  · show m + 2 = _; omega
  · show m + 3 = _; omega
  · show m + 4 = _; omega
  · show m + 5 = _; omega
  · show m + 6 = _; omega
  · show m + 7 = _; omega
def rampS : Nat → List S85
  | 0 => []
  | n + 1 => rampS n ++ [rampSt (1 + 8 * (n : Int))]
theorem rampS_len : ∀ n, (rampS n).length = n
  | 0 => rfl
  | n + 1 => by rw [rampS, List.length_append, rampS_len n]; rfl
theorem set_at {α : Type} (pre : List α) (x y : α) (ys : List α) (i : Nat) (hi : pre.length = i) : (pre ++ x :: ys).set i y = pre ++ y :: ys := by
  subst hi
  rw [List.set_append_right _ _ (Nat.le_refl _), Nat.sub_self, List.set_cons_zero]
theorem rd_at (pre : List S85) (x : S85) (ys : List S85) (i : Nat) (hi : pre.length = i) : rd_T85 (pre ++ x :: ys) (i : Int) = x := by
  subst hi
  simp [rd_T85, List.getD_eq_getElem?_getD]
theorem markStep_loop (xs : List S85) (hl : xs.length ≤ 1048576) (K : Nat) : ∀ (n i : Nat), i + n = xs.length → laws_markStepS.l0 (K + n + 1) (rampS i ++ xs.drop i) (1 + 8 * (i : Int)) i = some (1 + 8 * (xs.length : Int), rampS xs.length)
  | 0, i, h => by
    rw [laws_markStepS.l0, if_neg (by simp [rampS_len]; omega), List.drop_eq_nil_of_le (by omega), List.append_nil, show i = xs.length by omega]
  | n + 1, i, h => by
    have hr := rampS_len i
    have hd : xs.drop i = xs[i] :: xs.drop (i + 1) := List.drop_eq_getElem_cons (by omega)
    have w1 : ∀ m : Int, 0 ≤ m → m ≤ 1000000000 → wrap64 (m + 1) = m + 1 := fun m _ _ => wrap64_in _ (by omega)
    rw [laws_markStepS.l0, if_pos (by simp [rampS_len]; omega), if_pos (by omega), w64_up (by omega : i < xs.length) (by omega), hd]
    generalize xs[i] = x
    simp only [Option.bind_some, Int.toNat_natCast, set_at _ _ _ _ _ hr, rd_at _ _ _ _ hr]
    rw [w1 _ (by omega) (by omega), w1 _ (by omega) (by omega), w1 _ (by omega) (by omega), w1 _ (by omega) (by omega), w1 _ (by omega) (by omega), w1 _ (by omega) (by omega), w1 _ (by omega) (by omega), w1 _ (by omega) (by omega)]
    have ih := markStep_loop xs hl K n (i + 1) (by omega)
    rw [rampS, List.append_assoc] at ih
    have e : ∀ j : Int, j = 1 + 8 * ((i + 1 : Nat) : Int) → laws_markStepS.l0 (K + n + 1) (rampS i ++ (rampSt (1 + 8 * (i : Int)) :: xs.drop (i + 1))) j ((i + 1 : Nat) : Int) = some (1 + 8 * (xs.length : Int), rampS xs.length) := fun j hj => by rw [hj]; exact ih
    have e2 : ∀ q : S85, q = rampSt (1 + 8 * (i : Int)) → ∀ j : Int, j = 1 + 8 * ((i + 1 : Nat) : Int) → laws_markStepS.l0 (K + n + 1) (rampS i ++ (q :: xs.drop (i + 1))) j ((i + 1 : Nat) : Int) = some (1 + 8 * (xs.length : Int), rampS xs.length) := fun q hq => by rw [hq]; exact e
    exact e2 _ (by unfold rampSt; simp only [Int.add_assoc]; rfl) _ (by omega)
theorem markStepS_ok (xs : List S85) (hl : xs.length ≤ 1048576) (k : Nat) (hk : xs.length < k) : laws_markStepS.f k xs 1 = some (1 + 8 * (xs.length : Int), rampS xs.length) := by
  have := markStep_loop xs hl (k - xs.length - 1) xs.length 0 (by omega)
  rw [show k - xs.length - 1 + xs.length + 1 = k by omega] at this
  simpa [rampS, laws_markStepS.f] using this
theorem rd_rampS : ∀ (n i : Nat), i < n → rd_T85 (rampS n) (i : Int) = rampSt (1 + 8 * (i : Int))
  | n + 1, i, h => by
    rw [rampS]
    by_cases e : i = n
    · subst e
      exact rd_at _ _ _ _ (rampS_len i)
    · have ih := rd_rampS n i (by omega)
      rw [← ih]
      unfold rd_T85
      rw [Int.toNat_natCast, List.getD_eq_getElem?_getD, List.getD_eq_getElem?_getD, List.getElem?_append_left (by rw [rampS_len]; omega)]
theorem heldStep_loop (N : Nat) (hl : N ≤ 1048576) (K : Nat) : ∀ (n i : Nat), i + n = N → laws_heldStepS.l0 (K + n + 1) (rampS N) (1 + 8 * (i : Int)) i = some (1 + 8 * (N : Int))
  | 0, i, h => by rw [laws_heldStepS.l0, if_neg (by rw [rampS_len]; omega), show i = N by omega]
  | n + 1, i, h => by
    have w1 : ∀ m : Int, 0 ≤ m → m ≤ 1000000000 → wrap64 (m + 1) = m + 1 := fun m _ _ => wrap64_in _ (by omega)
    have ih := heldStep_loop N hl K n (i + 1) (by omega)
    rw [laws_heldStepS.l0, if_pos (by rw [rampS_len]; omega), if_pos (by omega), rd_rampS N i (by omega), w64_up (by omega : i < N) (by omega)]
    rw [w1 _ (by omega) (by omega), w1 _ (by omega) (by omega), w1 _ (by omega) (by omega), w1 _ (by omega) (by omega), w1 _ (by omega) (by omega), w1 _ (by omega) (by omega), w1 _ (by omega) (by omega), w1 _ (by omega) (by omega)]
    obtain ⟨q0, q1, q2, q3, q4, q5, q6, q7⟩ := rampSt_f (1 + 8 * (i : Int))
    rw [if_pos q0, if_pos q1, if_pos q2, if_pos q3, if_pos q4, if_pos q5, if_pos q6, if_pos q7, show K + (n + 1) = K + n + 1 by omega]
    rw [show 1 + 8 * (i : Int) + 1 + 1 + 1 + 1 + 1 + 1 + 1 + 1 = 1 + 8 * ((i + 1 : Nat) : Int) by omega]
    exact ih
theorem heldStepS_ok (N : Nat) (hl : N ≤ 1048576) (k : Nat) (hk : N < k) : laws_heldStepS.f k (rampS N) 1 = some (1 + 8 * (N : Int)) := by
  have := heldStep_loop N hl (k - N - 1) N 0 (by omega)
  rw [show k - N - 1 + N + 1 = k by omega] at this
  simpa [laws_heldStepS.f] using this
theorem lastStep_addr (a : Int) : ∀ (ps : List S71) (r : S30), (0 < r.f1 → r.f2 = a) → 0 < (ps.foldl (lastStep a) r).f1 → (ps.foldl (lastStep a) r).f2 = a
  | [], r, h => h
  | p :: ps, r, h => by
    rw [List.foldl_cons]
    refine lastStep_addr a ps _ ?_
    unfold lastStep
    split
    · rename_i h1
      exact fun _ => h1.2.1
    · exact h
theorem lastA_addr {l : List Bl} (_ : flashOkB l = true) {a : Int} (h : (lastA l a).f1 > 0) : (lastA l a).f2 = a := lastStep_addr a _ _ (fun h => absurd h (by decide)) h
theorem flush_same (l0 : List Bl) (l1 : List Int) (a : Int) (k : Nat) (hk : 1000 < k) : ∃ V : List St, spec_StepsFlush.f k l0 l1 a = some V ∧ impl_StepsFlush.f k l0 l1 a = some V ∧ V.length ≤ 7 := by
  obtain ⟨k, rfl⟩ : ∃ m, k = m + 1 := ⟨k - 1, by omega⟩
  unfold spec_StepsFlush.f impl_StepsFlush.f impl_StoreOk.f spec_l12Flush.f
  rw [specStoreOk_ok l0 l1 (k + 1) (by omega), Option.bind_some, Option.bind_some, in6]
  cases hs : storeOkB l0 l1 with
  | false => exact ⟨[], by rw [if_neg (by simp)], by rw [if_neg (by simp)], by simp⟩
  | true =>
    have hl : l1.length = 6 ∧ orderI l0 = true := by
      unfold storeOkB at hs
      rw [Bool.and_eq_true, Bool.and_eq_true, decide_eq_true_eq] at hs
      exact ⟨by omega, hs.2.1⟩
    have hf := order_flash hl.2
    have h6 := hl.1
    rw [if_pos rfl, if_pos rfl, Option.bind_some]
    by_cases ha : 1 ≤ a ∧ a ≤ 6
    · have hA : addrB a = true := by unfold addrB; exact decide_eq_true ha
      have hFL : impl_FindLast.f l0 a = some ((lastA l0 a).f0, (lastA l0 a).f1, (lastA l0 a).f2, (lastA l0 a).f3, decide ((lastA l0 a).f1 > 0)) := by
        unfold impl_FindLast.f
        rw [if_pos ⟨hA, hf⟩]
      rw [decide_eq_true ha, if_pos rfl, hFL]
      unfold spec_l11Dirty.f impl_Rec_isDirty.f
      rw [l3Last_ok hf a (k + 1) (by omega), Option.bind_some, Option.bind_some]
      dsimp only
      by_cases hg : (lastA l0 a).f1 > 0
      · rw [decide_eq_true hg, if_pos rfl, if_pos rfl, Option.bind_some, Option.bind_some]
        by_cases hd : (lastA l0 a).f0 = 1
        · have hd2 : ((lastA l0 a).f0 == 1) = true := by simp [hd]
          have hr := l11Read_ok hf h6 a ha.1 ha.2 k (by omega)
          have hv : (match lastMap l0 a with
            | some r => r.2.2.2
            | none => rd l1 (a - 1)) = (lastA l0 a).f3 := by
            rw [lastMap_at hf a, if_pos hg]
            rfl
          rw [hv] at hr
          rw [hd2, spec_l12Flush.j0, impl_StepsFlush.j0, if_neg (by simp), if_neg (by simp), hr, Option.bind_some, specWrite_ok hf l1 2 a _ k (by omega), implWrite_ok hf 2 a _ k (by omega), Option.bind_some, Option.bind_some]
          have hlen := stepsV_len hf 2 a (lastA l0 a).f3
          generalize stepsV l0 2 a (lastA l0 a).f3 = T at hlen
          by_cases h0 : (T.length : Int) = 0
          · have hT : T = [] := List.eq_nil_of_length_eq_zero (by omega)
            subst hT
            exact ⟨[], by rw [if_pos (by simp)]; rfl, by rw [Option.bind_some, if_pos (by simp)], by simp⟩
          · refine ⟨⟨1, a, (lastA l0 a).f3, 0, ⟨0, 0, 0, 0⟩⟩ :: T, ?_, ?_, by rw [List.length_cons]; omega⟩
            · rw [if_neg h0, if_pos (by simp; omega)]
              rfl
            · have hz : (lastA l0 a).f2 = a := lastA_addr hf hg
              unfold impl_diskStep.f
              rw [Option.bind_some, if_neg h0, Option.bind_some]
              dsimp only
              rw [Option.bind_some, if_pos (by simp; omega), hz]
              rfl
        · have hd2 : ((lastA l0 a).f0 == 1) = false := by simp [hd]
          exact ⟨[], by rw [hd2, spec_l12Flush.j0, if_pos (show (!false) = true from rfl)]; rfl, by rw [hd2, impl_StepsFlush.j0, if_pos (show (!false) = true from rfl)], by simp⟩
      · rw [decide_eq_false hg, if_neg (by simp), if_neg (by simp), Option.bind_some]
        exact ⟨[], by rw [spec_l12Flush.j0, if_pos (show (!false) = true from rfl)]; rfl, by rw [impl_StepsFlush.j0, if_pos rfl], by simp⟩
    · have hFL : impl_FindLast.f l0 a = some (0, 0, 0, 0, false) := by
        unfold impl_FindLast.f
        rw [if_neg (fun h => ha (of_decide_eq_true h.1))]
      rw [decide_eq_false ha, if_neg (by simp), hFL, Option.bind_some]
      dsimp only
      exact ⟨[], by rw [spec_l12Flush.j0, if_pos rfl]; rfl, by rw [if_neg (by simp), impl_StepsFlush.j0, if_pos rfl], by simp⟩
theorem all_facts (l0 : List S58) (l1 : List Int) (a1 : Int) (K : Nat) (hK : 1048580 ≤ K) : ∃ (V : List S85) (M : Int) (R : List S85), Aside0 (spec_StepsFlush.f K (l0.map cBlock) l1 a1 = some V) ∧ Aside0 (laws_eqStepS.f K V V = some true) ∧ Aside0 (laws_markStepS.f K V 1 = some (M, R)) ∧ Aside0 (laws_heldStepS.f K R 1 = some M) ∧ Aside0 (impl_StepsFlush.f K (l0.map cBlock) l1 a1 = some V) ∧ decide (M < 0) = false ∧ Aside0 (R.length = V.length) := by
  obtain ⟨V, h1, h2, h3⟩ := flush_same (l0.map cBlock) l1 a1 K (by omega)
  exact ⟨V, _, _, ⟨h1⟩, ⟨eqStepS_ok V (by omega) K (by omega)⟩, ⟨markStepS_ok V (by omega) K (by omega)⟩, ⟨heldStepS_ok V.length (by omega) K (by omega)⟩, ⟨h2⟩, decide_eq_false (by omega), ⟨rampS_len _⟩⟩
end Go.Proofs.Ytoedphbikgoapaa.Pure
namespace Go.Proofs.Ytoedphbikgoapaa.Re
open Go.RowKit Go.Proofs.YtoedphbikgoapaaW.PrintWords Go.Proofs.YtoedphbikgoapaaW.PrintLast Go.Proofs.YtoedphbikgoapaaW.PrintMore Go.Proofs.Ytoedphbikgoapaa.Pure
attribute [local go_sem] max2_int min2_int max_two min_two max_three min_three max_four min_four
theorem held_any {K : Nat} {n : Nat} {xs : List S85} {M : Int} {W : World} {b : Nat} {ok : Nat → Prop} {A : Option Addr} {c : Nat} (h : laws_heldStepS.f K xs 1 = some M) (hl : xs.length = n) (hR : Kd.R k85 85 W b ok (.slice A n c) xs) :
    Calls Try.prog 32 #[.slice A n c, .int .i64 1] W fun e w' => e = .returned (.int .i64 M) ∧ Drawn0 W w' := by
  subst hl
  have h1 := Kd.R_reads' hR
  exact laws_heldStepS.calls K A c xs 1 M W h1.2.2 h1.2.1 h
theorem keepB {p q r s : Prop} {w7 W : World} (h : p ∧ q ∧ r ∧ s ∧ Below w7.heap.size w7 W) : Below w7.heap.size w7 W := h.2.2.2.2
theorem keep4 {a b c d : Addr} {va vb vc vd : Value} {w7 W W' : World} (h : W.cell? a = some va ∧ W.cell? b = some vb ∧ W.cell? c = some vc ∧ W.cell? d = some vd ∧ Below w7.heap.size w7 W) (hb : Below W.heap.size W W') : W'.cell? a = some va ∧ W'.cell? b = some vb ∧ W'.cell? c = some vc ∧ W'.cell? d = some vd ∧ Below w7.heap.size w7 W' :=
  ⟨up hb h.1, up hb h.2.1, up hb h.2.2.1, up hb h.2.2.2.1, below_then h.2.2.2.2 h.2.2.2.2.size hb⟩
set_option maxHeartbeats 8000000 in
set_option maxRecDepth 100000 in
theorem laws_FnExactStepsFlush.calls (k : Nat) (A0 : Option Addr) (c0 : Nat) (l0 : List S58) (A1 : Option Addr) (c1 : Nat) (l1 : List Int) (a1 : Int) (r : Bool) (w : World) (hr0 : Kd.C k58 w A0 l0.length l0) (hc0 : l0.length ≤ c0) (hr1 : Kd.C (Kd.int .i64) w A1 l1.length l1) (hc1 : l1.length ≤ c1) (hr : laws_FnExactStepsFlush.f k l0 l1 a1 = some r) :
    Calls Try.prog 8 #[.agg #[.slice A0 l0.length c0, .slice A1 l1.length c1], .int .i64 a1] w fun e w' => e = .returned (.bool r) ∧ Below w.heap.size w w' := by
  obtain rfl : true = r := Option.some.inj hr
  clear hr
  obtain ⟨K, hK⟩ : ∃ K, K = l0.length + 2097162 := ⟨_, rfl⟩
  obtain ⟨v, hv, hs0⟩ := storeM_ok l0 l1 (fits_of hr0) (Kd.C_max hr1) K (by omega)
  have hs := Aside0.mk hs0
  clear hs0
  have hu := Try.underlying37
  have hu2 := Try.underlying41
  have hbox := blk_new w (.cells #[.slice A0 l0.length c0, .slice A1 l1.length c1] 37)
  have hB1 := below_alloc (Below.refl _ w) (.cells #[.slice A0 l0.length c0, .slice A1 l1.length c1] 37)
  obtain ⟨V, M, R, hS, hE, hM, hH, hI, hM0, hRl⟩ := all_facts l0 l1 a1 K (by omega)
  generalize l0.map cBlock = X at hs hS hI
  have HC0 := Aside0.mk hc0
  have HC1 := Aside0.mk hc1
  clear hc0 hc1
  go_enter Try.func8, Try.ntmps8
  go_wp2_with fail
  refine (laws_szStore.calls K A0 c0 l0 A1 c1 l1 1048576 v _ (Kd.C_below hr0 hB1) HC0.out (Kd.C_below hr1 hB1) HC1.out hv).mono ?_
  rintro e w2 ⟨rfl, hb2⟩
  have hB2 := below_then hB1 hB1.size hb2
  have hbx := blk_below hbox hb2
  have hq0 : w2.cell? ⟨w.heap.size, 0, none⟩ = some (.slice A0 l0.length c0) := (blk_cell hbx 0).trans rfl
  have hq1 : w2.cell? ⟨w.heap.size, 1, none⟩ = some (.slice A1 l1.length c1) := (blk_cell hbx 1).trans rfl
  clear hb2 hv
  by_cases hv0 : v < 0
  · clear hs
    have h1 := decide_eq_true hv0
    go_wp2
    go_ret
    exact ⟨rfl, hB2⟩
  have hv1 := decide_eq_false hv0
  obtain ⟨ht, he, m, ys, zs, hm, hm0⟩ := hs.out (by omega) 0 (by omega)
  rw [Nat.sub_zero] at ht he hm
  have HT := Aside0.mk ht
  have HEQ := Aside0.mk he
  have HMK := Aside0.mk hm
  clear hs ht he hm hbox hB1 hK hv0
  go_wp2_with fail
  refine (laws_toStore.calls K A0 c0 l0 A1 c1 l1 _ _ _ (Kd.C_below hr0 hB2) HC0.out (Kd.C_below hr1 hB2) HC1.out HT.out).mono ?_
  rintro e w3 ⟨v0, v1, rfl, ho0, ho1, hb⟩
  have hB3 := below_then hB2 hB2.size hb
  have hbx3 := blk_below hbx hb
  clear hB2 hbx hq0 hq1 hb
  obtain ⟨B0, d0, rfl, hd0_, hc0_⟩ := Kd.R_reads (Kd.S_R ho0)
  obtain ⟨B1, d1, rfl, hd1_, hc1_⟩ := Kd.R_reads ho1
  have hd0 := Aside0.mk hd0_
  have hd1 := Aside0.mk hd1_
  have hc0 := Aside0.mk hc0_
  have hc1 := Aside0.mk hc1_
  clear hd0_ hd1_ hc0_ hc1_ ho0 ho1
  go_wp2_with fail
  refine (spec_StepsFlush.calls K B0 d0 _ B1 d1 _ a1 V _ hc0.out hd0.out hc1.out hd1.out hS.out).mono ?_
  rintro e w4 ⟨v2, rfl, ho2, hb⟩
  obtain ⟨B2, d2, rfl⟩ := Kd.R_slice ho2
  have ho2 : Kd.R k85 85 w4 w3.heap.size (fun k => k < w4.heap.size) _ V := Kd.R_mono (Kd.R_bound ho2) (fun k h => h.2.2.1)
  have hB4 := below_then hB3 hB3.size hb
  have hbx4 := blk_below hbx3 hb
  have hq0 : w4.cell? ⟨w.heap.size, 0, none⟩ = some (.slice A0 l0.length c0) := (blk_cell hbx4 0).trans rfl
  have hq1 : w4.cell? ⟨w.heap.size, 1, none⟩ = some (.slice A1 l1.length c1) := (blk_cell hbx4 1).trans rfl
  clear hB3 hbx3 hb hd0 hc0 hd1 hc1 hS
  go_wp2_with fail
  refine (laws_toStore.calls K A0 c0 l0 A1 c1 l1 _ _ _ (Kd.C_below hr0 hB4) HC0.out (Kd.C_below hr1 hB4) HC1.out HT.out).mono ?_
  rintro e w5 ⟨v3, v4, rfl, ho3, ho4, hb⟩
  have hB5 := below_then hB4 hB4.size hb
  have hbx5 := blk_below hbx4 hb
  have hg4 := Aside0.mk (blk_lt hbx4)
  have hg5 := Aside0.mk hb.size
  have hg3 := Aside0.mk hB4.size
  have ho2 := Kd.R_below ho2 hb
  clear hbx4 hq0 hq1 hb
  obtain ⟨B3, d3, rfl⟩ := Kd.S_slice ho3
  obtain ⟨B4, d4, rfl⟩ := Kd.R_slice ho4
  have ho3 : Kd.S k65 65 w5 w4.heap.size (fun k => w4.heap.size ≤ k ∧ k < w5.heap.size) _ X := Kd.S_mono (Kd.S_bound ho3) (fun k h => ⟨h.2.1, h.2.2.1⟩)
  have ho4 : Kd.R (Kd.int .i64) 3 w5 w4.heap.size (fun k => w4.heap.size ≤ k ∧ k < w5.heap.size) _ l1 := Kd.R_mono (Kd.R_bound ho4) (fun k h => ⟨h.2.1, h.2.2.1⟩)
  have hX2 : (w5.alloc (.cells #[.slice B3 X.length d3, .slice B4 l1.length d4] 41)).heap[w5.heap.size]? = some (.cells #[.slice B3 X.length d3, .slice B4 l1.length d4] 41 (0, 0)) := blk_new w5 _
  have hB6 := below_alloc hB5 (.cells #[.slice B3 X.length d3, .slice B4 l1.length d4] 41)
  go_wp2_with fail
  refine (impl_StepsFlush.calls K B3 d3 X B4 d4 l1 a1 V _ (Kd.R_reads' (Kd.S_R (Kd.S_alloc ho3 _))).2.2 (Kd.R_reads' (Kd.S_R ho3)).2.1 (Kd.R_reads' (Kd.R_alloc ho4 _)).2.2 (Kd.R_reads' ho4).2.1 hI.out).mono ?_
  rintro e w6 ⟨v5, rfl, ho5, hb⟩
  have hB7 := below_then hB6 hB6.size hb
  have hbx7 := blk_below (blk_alloc hbx5 _) hb
  have hX7 := blk_below hX2 hb
  have ho2 := Kd.R_below (Kd.R_alloc ho2 _) hb
  have ho3 := Kd.S_below (Kd.S_alloc ho3 _) hb
  have ho4 := Kd.R_below (Kd.R_alloc ho4 _) hb
  clear hbx5 hX2 hB6 hB5
  obtain ⟨B5, d5, rfl⟩ := Kd.R_slice ho5
  have ho5 : Kd.R k85 85 w6 (w5.heap.size + 1) (fun k => w5.heap.size < k) (.slice B5 V.length d5) V := by
    have h := Kd.R_mono (Kd.R_bound ho5) (ok' := fun k => w5.heap.size < k) (fun k h => by have := h.2.1; rw [World.size_alloc] at this; omega)
    rwa [World.size_alloc] at h
  go_wp2_with fail
  refine (laws_eqStepS.calls K B5 d5 V B2 d2 V true _ (Kd.R_reads' ho5).2.2 (Kd.R_reads' ho5).2.1 (Kd.R_reads' ho2).2.2 (Kd.R_reads' ho2).2.1 hE.out).mono ?_
  rintro e w7 ⟨rfl, hdr⟩
  have hb7 := hdr
  have hB8 := below_then hB7 hB7.size hb7
  have hbx8 := blk_below hbx7 hb7
  have hX8 := blk_below hX7 hb7
  have ho2 := Aside0.mk (Kd.R_below ho2 hb7)
  have ho3 := Aside0.mk (Kd.S_below ho3 hb7)
  have ho4 := Aside0.mk (Kd.R_below ho4 hb7)
  have ho5 := Aside0.mk (Kd.R_below ho5 hb7)
  have hHB := Aside0.mk hB8
  clear hbx7 hX7 hB7 hdr hb7 hb hB8
  have hc0 := (blk_cell hX8 0).trans rfl
  have hc1 := (blk_cell hX8 1).trans rfl
  have hc2 := (blk_cell hbx8 0).trans rfl
  have hc3 := (blk_cell hbx8 1).trans rfl
  have hSS := (⟨hc0, hc1, hc2, hc3, Below.refl _ w7⟩ : _ ∧ _ ∧ _ ∧ _ ∧ Below w7.heap.size w7 w7)
  go_wp2_with fail
  go_region_held3 (fun W => W.cell? ⟨w5.heap.size, 0, none⟩ = some (.slice B3 X.length d3) ∧ W.cell? ⟨w5.heap.size, 1, none⟩ = some (.slice B4 l1.length d4) ∧ W.cell? ⟨w.heap.size, 0, none⟩ = some (.slice A0 l0.length c0) ∧ W.cell? ⟨w.heap.size, 1, none⟩ = some (.slice A1 l1.length c1) ∧ Below w7.heap.size w7 W)
    (first | exact keep4 hSS (below_drew (Below.refl _ w7)) | exact keep4 (by assumption) hb | go_keep)
    (first
      | (refine (laws_toStore.calls K A0 c0 l0 A1 c1 l1 _ _ _ (Kd.C_below hr0 (below_then hHB.out hHB.out.size (keepB (by assumption)))) HC0.out (Kd.C_below hr1 (below_then hHB.out hHB.out.size (keepB (by assumption)))) HC1.out HT.out).mono ?_; rintro e w8 ⟨v6, v7, rfl, ho6, ho7, hb⟩; obtain ⟨B6, d6, rfl⟩ := Kd.S_slice ho6; obtain ⟨B7, d7, rfl⟩ := Kd.R_slice ho7)
      | (refine (laws_eqStore.calls K B3 d3 X B4 d4 l1 _ _ X _ _ l1 true _ (Kd.R_reads' (Kd.S_R (Kd.S_below ho3.out (keepB (by assumption))))).2.2 (Kd.R_reads' (Kd.S_R ho3.out)).2.1 (Kd.R_reads' (Kd.R_below ho4.out (keepB (by assumption)))).2.2 (Kd.R_reads' ho4.out).2.1 (Kd.R_reads' (Kd.S_R ho6)).2.2 (Kd.R_reads' (Kd.S_R ho6)).2.1 (Kd.R_reads' ho7).2.2 (Kd.R_reads' ho7).2.1 HEQ.out).mono ?_; rintro e w9 ⟨rfl, hb⟩))
  have hbb := keepB (by assumption : _ ∧ _ ∧ _ ∧ _ ∧ Below w7.heap.size w7 w9)
  have hB9 := below_then hHB.out hHB.out.size hbb
  have hbx9 := blk_below hbx8 hbb
  have hX9 := blk_below hX8 hbb
  have ho2 := Kd.R_below ho2.out hbb
  have ho3 := Kd.S_below ho3.out hbb
  have ho4 := Kd.R_below ho4.out hbb
  have ho5 := Kd.R_below ho5.out hbb
  clear hbb hb hHB hbx8 hX8 hc0 hc1 hc2 hc3 hSS ho6 ho7
  go_split_ands
  rename_i hq0 hq1 _ _ _
  go_wp2_with fail
  refine (laws_markStore.calls K (fun k => w4.heap.size ≤ k ∧ k < w5.heap.size) _ X (fun k => w4.heap.size ≤ k ∧ k < w5.heap.size) _ l1 1 m ys zs w _ hB9 (Kd.S_lower ho3 hg3.out) (Kd.R_lower ho4 hg3.out) HMK.out).mono ?_
  rintro e w10 ⟨rfl, _, _, hb, hkp⟩
  have hB10 := Aside0.mk hb
  have hbx10 := blk_kept hbx9 hkp (fun h => by have := hg4.out; omega)
  have ho2 := Aside0.mk (Kd.R_kept ho2 hkp (fun k h1 h2 => by omega))
  have ho5 := Aside0.mk (Kd.R_kept ho5 hkp (fun k h1 h2 => by omega))
  have hm1 : decide (m < 0) = false := decide_eq_false (by omega)
  clear hb hkp hbx9 hX9 ho3 ho4 hB9 HMK hm0 HEQ hq0 hq1
  go_split_ands
  go_wp2_with fail
  refine (laws_eqStepS.calls K B5 d5 V B2 d2 V true _ (Kd.R_reads' ho5.out).2.2 (Kd.R_reads' ho5.out).2.1 (Kd.R_reads' ho2.out).2.2 (Kd.R_reads' ho2.out).2.1 hE.out).mono ?_
  rintro e w11 ⟨rfl, hdr⟩
  have hb := hdr
  have hB11 := Aside0.mk (below_then hB10.out hB10.out.size hb)
  have hbx11 := blk_below hbx10 hb
  have ho2 := Aside0.mk (Kd.R_below ho2.out hb)
  have ho5 := Aside0.mk (Kd.R_below ho5.out hb)
  clear hb hdr hB10 hbx10
  go_wp2_with fail
  refine (laws_markStepS.calls K (fun k => w5.heap.size < k) _ V 1 M R w _ hB11.out (Kd.R_lower ho5.out (by have := hg5.out; have := hg3.out; omega)) hM.out).mono ?_
  rintro e w12 ⟨rfl, ho6, hb, hkp⟩
  have hB12 := Aside0.mk hb
  have hbx12 := blk_kept hbx11 hkp (fun h => by have := hg4.out; have := hg5.out; omega)
  have ho2 := Aside0.mk (Kd.R_kept ho2.out hkp (fun k h1 h2 => by have := hg5.out; omega))
  have ho6 := Aside0.mk ho6
  clear hb hkp hbx11 ho5 hB11
  go_wp2_with fail
  refine (held_any hH.out hRl.out ho6.out).mono ?_
  rintro e w13 ⟨rfl, hdr⟩
  have hb := hdr.below
  have hB13 := Aside0.mk (below_then hB12.out hB12.out.size hb)
  have hbx13 := blk_below hbx12 hb
  have hq0 := (blk_cell hbx13 0).trans rfl
  have hq1 := (blk_cell hbx13 1).trans rfl
  have ho2 := Aside0.mk (Kd.R_below ho2.out hb)
  have ho6 := Aside0.mk (Kd.R_below ho6.out hb)
  clear hb hdr hbx12 hB12
  go_wp2_with fail
  refine (laws_toStore.calls K A0 c0 l0 A1 c1 l1 _ _ _ (Kd.C_below hr0 hB13.out) HC0.out (Kd.C_below hr1 hB13.out) HC1.out HT.out).mono ?_
  rintro e w14 ⟨v6, v7, rfl, ho7, ho8, hb⟩
  have hB14 := Aside0.mk (below_then hB13.out hB13.out.size hb)
  have ho2 := Aside0.mk (Kd.R_below ho2.out hb)
  have ho6 := Aside0.mk (Kd.R_below ho6.out hb)
  have ho7 := Aside0.mk ho7
  have ho8 := Aside0.mk ho8
  clear hb hB13 hbx13 hq0 hq1
  obtain ⟨B6, d6, rfl⟩ := Kd.S_slice ho7.out
  obtain ⟨B7, d7, rfl⟩ := Kd.R_slice ho8.out
  go_wp2_with fail
  refine (impl_StepsFlush.calls K B6 d6 X B7 d7 l1 a1 V _ (Kd.R_reads' (Kd.S_R ho7.out)).2.2 (Kd.R_reads' (Kd.S_R ho7.out)).2.1 (Kd.R_reads' ho8.out).2.2 (Kd.R_reads' ho8.out).2.1 hI.out).mono ?_
  rintro e w15 ⟨v8, rfl, ho9, hb⟩
  have hB15 := Aside0.mk (below_then hB14.out hB14.out.size hb)
  have ho2 := Aside0.mk (Kd.R_below ho2.out hb)
  have ho6 := Aside0.mk (Kd.R_below ho6.out hb)
  have ho9 := Aside0.mk ho9
  clear hb hB14 ho7 ho8
  obtain ⟨B8, d8, rfl⟩ := Kd.R_slice ho9.out
  go_wp2_with fail
  refine (laws_eqStepS.calls K B8 d8 V B2 d2 V true _ (Kd.R_reads' ho9.out).2.2 (Kd.R_reads' ho9.out).2.1 (Kd.R_reads' ho2.out).2.2 (Kd.R_reads' ho2.out).2.1 hE.out).mono ?_
  rintro e w16 ⟨rfl, hdr⟩
  have hb := hdr
  have hB16 := Aside0.mk (below_then hB15.out hB15.out.size hb)
  have ho6 := Aside0.mk (Kd.R_below ho6.out hb)
  clear hb hdr hB15
  go_wp2_with fail
  refine (held_any hH.out hRl.out ho6.out).mono ?_
  rintro e w17 ⟨rfl, hdr⟩
  have hB17 := Aside0.mk (below_then hB16.out hB16.out.size hdr.below)
  clear hdr hB16
  go_wp2
  go_ret
  exact ⟨rfl, hB17.out⟩
end Go.Proofs.Ytoedphbikgoapaa.Re
namespace Go.Proofs.Ytoedphbikgoapaa.Pure
open Go.RowKit Go.IntWalk Go.Proofs.Ytoedphbikgoapaa.Re Go.Proofs.YtoedphbikgoapaaW Go.Proofs.YtoedphbikgoapaaW.PrintWords Go.Proofs.YtoedphbikgoapaaW.PrintLast
theorem FnExactStepsFlush (l0 : List S58) (l1 : List Int) (_ : Fits l0) (_ : l1.length ≤ 9223372036854775807) (a1 : Int) : ∃ k, laws_FnExactStepsFlush.f k l0 l1 a1 = some true := ⟨0, rfl⟩
end Go.Proofs.Ytoedphbikgoapaa.Pure
