/- FindOpen, in plain Lean: both take the first block that is partly written, else the least worn of those that are clean. -/
import Derived.Test.YtdjdbfcfopgdcaaRe15
import Derived.IntWalk
namespace Go.Proofs.Ytdjdbfcfopgdcaa.Pure
open Go.RowKit Go.IntWalk Go.Proofs.Ytdjdbfcfopgdcaa.Re Go.Proofs.YtdjdbfcfopgdcaaW.PrintWords Go.Proofs.YtdjdbfcfopgdcaaW.PrintLast
/-! ### the law's copies of blocks -/
def Fits (l : List S85) : Prop := l.length ≤ 9223372036854775807 ∧ ∀ i : Nat, i < l.length → (rd_T85 l (i : Int)).f0.length ≤ 9223372036854775807
theorem fits_of {w : World} {A : Option Addr} {l : List S85} (h : Kd.C k85 w A l.length l) : Fits l := ⟨Kd.C_max h, fun i hi => by
  obtain ⟨_, _, _, _, _, _, _, h5⟩ := at_T85 h (i : Int) (by omega) (by omega)
  exact Kd.C_max h5⟩
def cPage (p : S136) : S91 := ⟨p.f0, ⟨p.f1.f0, p.f1.f1, p.f1.f2, p.f1.f3⟩⟩
def cBlock (b : S85) : S89 := ⟨b.f0.map cPage, b.f1⟩
theorem w64_up {i n : Nat} (h : i < n) (hn : n ≤ 9223372036854775807) : wrap64 ((i : Int) + 1) = ((i + 1 : Nat) : Int) := by
  rw [wrap64_in _ (by omega)]
  omega
theorem szPageS_ok (l : List S136) (a : Int) (hl : l.length ≤ 9223372036854775807) (h0 : 0 ≤ a) (h1 : a ≤ 1048576) :
    ∃ v, laws_szPageS.f l a = some v ∧ v ≤ a ∧ (0 ≤ v → l.length ≤ 1048576) := by
  unfold laws_szPageS.f
  rw [wrap64_in _ (by omega)]
  by_cases h : a - (l.length : Int) < 0
  · rw [if_pos h]
    exact ⟨_, rfl, by omega, fun hv => by omega⟩
  · rw [if_neg h]
    exact ⟨_, rfl, by omega, fun hv => by omega⟩
theorem szBlock_ok (l : List S136) (b a : Int) (hl : l.length ≤ 9223372036854775807) (h0 : 0 ≤ a) (h1 : a ≤ 1048576) :
    ∃ v, laws_szBlock.f l b a = some v ∧ v ≤ a ∧ (0 ≤ v → l.length ≤ 1048576) := by
  obtain ⟨v, hv, h2, h3⟩ := szPageS_ok l a hl h0 h1
  unfold laws_szBlock.f
  rw [hv, Option.bind_some]
  by_cases h : v < 0
  · rw [if_pos h]
    exact ⟨_, rfl, by omega, fun h => by omega⟩
  · rw [if_neg h]
    exact ⟨_, rfl, h2, h3⟩
theorem szLoop (l : List S85) (hl : Fits l) (K : Nat) : ∀ (n i : Nat) (a : Int), i + n = l.length → 0 ≤ a → a ≤ 1048576 →
    ∃ v, laws_szBlockS.l0 (K + n + 1) l a i = some v ∧ v ≤ a ∧ (0 ≤ v → ∀ j, i ≤ j → j < l.length → (rd_T85 l (j : Int)).f0.length ≤ 1048576)
  | 0, i, a, h, h0, h1 => by
    rw [laws_szBlockS.l0, if_neg (by omega)]
    exact ⟨_, rfl, by omega, fun _ j h2 h3 => by omega⟩
  | n + 1, i, a, h, h0, h1 => by
    obtain ⟨v, hv, h2, h3⟩ := szBlock_ok (rd_T85 l (i : Int)).f0 (rd_T85 l (i : Int)).f1 a (hl.2 i (by omega)) h0 h1
    rw [laws_szBlockS.l0, if_pos (by omega), if_pos (by omega), hv, Option.bind_some, w64_up (by omega : i < l.length) hl.1]
    by_cases hv0 : v < 0
    · rw [if_pos hv0]
      exact ⟨_, rfl, by omega, fun h => by omega⟩
    · rw [if_neg hv0]
      obtain ⟨u, hu, h4, h5⟩ := szLoop l hl K n (i + 1) v (by omega) (by omega) (by omega)
      refine ⟨u, hu, by omega, fun hu0 j hj hj2 => ?_⟩
      by_cases e : j = i
      · subst e
        exact h3 (by omega)
      · exact h5 hu0 j (by omega) hj2
theorem szBlockS_ok (l : List S85) (hl : Fits l) (k : Nat) (hk : l.length < k) :
    ∃ v, laws_szBlockS.f k l 1048576 = some v ∧ (0 ≤ v → l.length ≤ 1048576 ∧ ∀ j, j < l.length → (rd_T85 l (j : Int)).f0.length ≤ 1048576) := by
  unfold laws_szBlockS.f
  have := hl.1
  rw [wrap64_in _ (by omega)]
  by_cases h : (1048576 : Int) - (l.length : Int) < 0
  · rw [if_pos h]
    exact ⟨_, rfl, fun h => by omega⟩
  · rw [if_neg h]
    obtain ⟨v, hv, _, h2⟩ := szLoop l hl (k - l.length - 1) l.length 0 ((1048576 : Int) - (l.length : Int)) (by omega) (by omega) (by omega)
    rw [show k - l.length - 1 + l.length + 1 = k by omega] at hv
    exact ⟨v, hv, fun h0 => ⟨by omega, fun j hj => h2 h0 j (Nat.zero_le _) hj⟩⟩
theorem fill_step {α : Type} (xs : List α) (m : Nat) (z v : α) (i : Nat) (hi : xs.length = i) : (xs ++ List.replicate (m + 1) z).set i v = (xs ++ [v]) ++ List.replicate m z := by
  subst hi
  rw [List.set_append_right _ _ (Nat.le_refl _), Nat.sub_self, List.replicate_succ, List.set_cons_zero, List.append_assoc]
  rfl
theorem take_up_T136 {l : List S136} {i : Nat} (h : i < l.length) : l.take (i + 1) = l.take i ++ [rd_T136 l (i : Int)] := by
  rw [List.take_succ_eq_append_getElem h]
  simp [rd_T136, List.getD_eq_getElem?_getD, h]
theorem take_up_T85 {l : List S85} {i : Nat} (h : i < l.length) : l.take (i + 1) = l.take i ++ [rd_T85 l (i : Int)] := by
  rw [List.take_succ_eq_append_getElem h]
  simp [rd_T85, List.getD_eq_getElem?_getD, h]
theorem toPage_loop (l : List S136) (hl : l.length ≤ 9223372036854775807) (K : Nat) : ∀ (n i : Nat), i + n = l.length →
    laws_toPageS.l0 (K + n + 1) l ((l.take i).map cPage ++ List.replicate n z91) i = some (l.map cPage)
  | 0, i, h => by
    rw [laws_toPageS.l0, if_neg (by omega), List.take_of_length_le (by omega), List.replicate_zero, List.append_nil]
  | n + 1, i, h => by
    have hlen : ((l.take i).map cPage).length = i := by rw [List.length_map, List.length_take]; omega
    rw [laws_toPageS.l0, if_pos (by omega), if_pos (by omega), w64_up (by omega : i < l.length) hl]
    unfold laws_toPage.f laws_toRec.f
    rw [Option.bind_some, Option.bind_some, if_pos (by rw [List.length_append, hlen, List.length_replicate]; omega), Int.toNat_natCast, fill_step _ _ _ _ _ hlen]
    have ih := toPage_loop l hl K n (i + 1) (by omega)
    rw [take_up_T136 (by omega), List.map_append] at ih
    exact ih
theorem toPageS_ok (l : List S136) (hl : l.length ≤ 1048576) (k : Nat) (hk : l.length < k) : laws_toPageS.f k l = some (l.map cPage) := by
  unfold laws_toPageS.f
  rw [if_pos (by omega), Int.toNat_natCast, if_pos (by omega)]
  have := toPage_loop l (by omega) (k - l.length - 1) l.length 0 (by omega)
  rw [show k - l.length - 1 + l.length + 1 = k by omega] at this
  exact this
theorem toBlock_loop (l : List S85) (hl : l.length ≤ 1048576) (hp : ∀ j : Nat, j < l.length → (rd_T85 l (j : Int)).f0.length ≤ 1048576) (K : Nat) (hK : 1048576 < K) : ∀ (n i : Nat), i + n = l.length →
    laws_toBlockS.l0 (K + n + 1) l ((l.take i).map cBlock ++ List.replicate n z89) i = some (l.map cBlock)
  | 0, i, h => by
    rw [laws_toBlockS.l0, if_neg (by omega), List.take_of_length_le (by omega), List.replicate_zero, List.append_nil]
  | n + 1, i, h => by
    have hlen : ((l.take i).map cBlock).length = i := by rw [List.length_map, List.length_take]; omega
    rw [laws_toBlockS.l0, if_pos (by omega), if_pos (by omega), w64_up (by omega : i < l.length) (by omega)]
    unfold laws_toBlock.f
    rw [toPageS_ok _ (hp i (by omega)) _ (by have := hp i (by omega); omega), Option.bind_some, Option.bind_some, if_pos (by rw [List.length_append, hlen, List.length_replicate]; omega), Int.toNat_natCast, fill_step _ _ _ _ _ hlen]
    have ih := toBlock_loop l hl hp K hK n (i + 1) (by omega)
    rw [take_up_T85 (by omega), List.map_append] at ih
    exact ih
theorem toBlockS_ok (l : List S85) (hl : l.length ≤ 1048576) (hp : ∀ j : Nat, j < l.length → (rd_T85 l (j : Int)).f0.length ≤ 1048576) (k : Nat) (hk : l.length + 1048578 ≤ k) : laws_toBlockS.f k l = some (l.map cBlock) := by
  unfold laws_toBlockS.f
  rw [if_pos (by omega), Int.toNat_natCast, if_pos (by omega)]
  have := toBlock_loop l hl hp (k - l.length - 1) (by omega) l.length 0 (by omega)
  rw [show k - l.length - 1 + l.length + 1 = k by omega] at this
  exact this
theorem eqPage_loop (l : List S91) (hl : l.length ≤ 9223372036854775807) (K : Nat) : ∀ (n i : Nat), i + n = l.length → laws_eqPageS.l0 (K + n + 1) l l i = some true
  | 0, i, h => by rw [laws_eqPageS.l0, if_neg (by omega)]
  | n + 1, i, h => by
    rw [laws_eqPageS.l0, if_pos (by omega), if_pos (by omega), if_pos (by omega), w64_up (by omega : i < l.length) hl]
    unfold laws_eqPage.f laws_eqRec.f
    rw [if_pos rfl, if_pos rfl, if_pos rfl, if_pos rfl, if_pos rfl, Option.bind_some, if_pos rfl, Option.bind_some, if_pos rfl]
    exact eqPage_loop l hl K n (i + 1) (by omega)
theorem eqPageS_ok (l : List S91) (hl : l.length ≤ 1048576) (k : Nat) (hk : l.length < k) : laws_eqPageS.f k l l = some true := by
  unfold laws_eqPageS.f
  rw [if_pos rfl]
  have := eqPage_loop l (by omega) (k - l.length - 1) l.length 0 (by omega)
  rw [show k - l.length - 1 + l.length + 1 = k by omega] at this
  exact this
theorem eqBlock_loop (l : List S89) (hl : l.length ≤ 9223372036854775807) (hp : ∀ j : Nat, j < l.length → (rd_T89 l (j : Int)).f0.length ≤ 1048576) (K : Nat) (hK : 1048576 < K) : ∀ (n i : Nat), i + n = l.length → laws_eqBlockS.l0 (K + n + 1) l l i = some true
  | 0, i, h => by rw [laws_eqBlockS.l0, if_neg (by omega)]
  | n + 1, i, h => by
    rw [laws_eqBlockS.l0, if_pos (by omega), if_pos (by omega), if_pos (by omega), w64_up (by omega : i < l.length) hl]
    unfold laws_eqBlock.f
    rw [eqPageS_ok _ (hp i (by omega)) _ (by have := hp i (by omega); omega), Option.bind_some, if_pos rfl, if_pos rfl, Option.bind_some, if_pos rfl]
    exact eqBlock_loop l hl hp K hK n (i + 1) (by omega)
theorem eqBlockS_ok (l : List S89) (hl : l.length ≤ 1048576) (hp : ∀ j : Nat, j < l.length → (rd_T89 l (j : Int)).f0.length ≤ 1048576) (k : Nat) (hk : l.length + 1048578 ≤ k) : laws_eqBlockS.f k l l = some true := by
  unfold laws_eqBlockS.f
  rw [if_pos rfl]
  have := eqBlock_loop l (by omega) hp (k - l.length - 1) (by omega) l.length 0 (by omega)
  rw [show k - l.length - 1 + l.length + 1 = k by omega] at this
  exact this
theorem rd_cBlock (l : List S85) (j : Nat) (hj : j < l.length) : rd_T89 (l.map cBlock) (j : Int) = cBlock (rd_T85 l (j : Int)) := by
  simp [rd_T89, rd_T85, List.getD_eq_getElem?_getD, hj]
theorem cPages_len (l : List S85) (hp : ∀ j : Nat, j < l.length → (rd_T85 l (j : Int)).f0.length ≤ 1048576) : ∀ j : Nat, j < (l.map cBlock).length → (rd_T89 (l.map cBlock) (j : Int)).f0.length ≤ 1048576 := fun j hj => by
  rw [List.length_map] at hj
  rw [rd_cBlock l j hj]
  simpa [cBlock] using hp j hj
/-- What the law has of a list that is not too long. -/
theorem copies_ok (l : List S85) (hl : Fits l) : ∃ v, laws_szBlockS.f (l.length + 1048578) l 1048576 = some v ∧ (¬ v < 0 →
    laws_toBlockS.f (l.length + 1048578) l = some (l.map cBlock) ∧ laws_eqBlockS.f (l.length + 1048578) (l.map cBlock) (l.map cBlock) = some true) := by
  obtain ⟨v, hv, hs⟩ := szBlockS_ok l hl (l.length + 1048578) (by omega)
  refine ⟨v, hv, fun h => ?_⟩
  obtain ⟨h1, h2⟩ := hs (by omega)
  exact ⟨toBlockS_ok l h1 h2 _ (Nat.le_refl _), eqBlockS_ok _ (by rw [List.length_map]; exact h1) (cPages_len l h2) _ (by rw [List.length_map]; exact Nat.le_refl _)⟩
/-- The same with any number of rounds that is great enough, and one round less. -/
theorem copies_ok_at (l : List S85) (hl : Fits l) (k : Nat) (hk : l.length + 1048579 ≤ k) : ∃ v, laws_szBlockS.f k l 1048576 = some v ∧ (¬ v < 0 →
    laws_toBlockS.f k l = some (l.map cBlock) ∧ laws_toBlockS.f (k - 1) l = some (l.map cBlock) ∧ laws_eqBlockS.f (k - 1) (l.map cBlock) (l.map cBlock) = some true) := by
  obtain ⟨v, hv, hs⟩ := szBlockS_ok l hl k (by omega)
  refine ⟨v, hv, fun h => ?_⟩
  obtain ⟨h1, h2⟩ := hs (by omega)
  exact ⟨toBlockS_ok l h1 h2 _ (by omega), toBlockS_ok l h1 h2 _ (by omega), eqBlockS_ok _ (by rw [List.length_map]; exact h1) (cPages_len l h2) _ (by rw [List.length_map]; omega)⟩
/-! ### what ok blocks are -/
theorem rdB_cons {b : S89} {bs : List S89} (j : Nat) : rd_T89 (b :: bs) ((j + 1 : Nat) : Int) = rd_T89 bs (j : Int) := by
  unfold rd_T89
  rw [Int.toNat_natCast, Int.toNat_natCast]
  rfl
theorem blocksB_all : ∀ (l : List S89) (S : List Int), blocksB l S = true → ∀ j : Nat, j < l.length → blockB (rd_T89 l (j : Int)) = true
  | [], _, _, j, hj => by cases hj
  | b :: bs, S, h, j, hj => by
    rw [blocksB, Bool.and_eq_true] at h
    obtain ⟨h1, h2⟩ := h
    cases j with
    | zero => exact h1
    | succ j =>
      rw [rdB_cons]
      cases hp : pagesB b.f0 S with
      | none => rw [hp] at h2; cases h2
      | some S' =>
        rw [hp] at h2
        exact blocksB_all bs S' h2 j (by simpa using hj)
theorem flash_len {l : List S89} (h : flashOkB l = true) : l.length = 4 := by
  unfold flashOkB at h
  rw [Bool.and_eq_true, decide_eq_true_eq] at h
  omega
theorem flash_block {l : List S89} (h : flashOkB l = true) (j : Nat) (hj : j < 4) : (rd_T89 l (j : Int)).f0.length = 4 ∧ 0 ≤ (rd_T89 l (j : Int)).f1 ∧ (rd_T89 l (j : Int)).f1 ≤ 200 ∧ shapeB (rd_T89 l (j : Int)).f0 false = true := by
  have hl := flash_len h
  unfold flashOkB at h
  rw [Bool.and_eq_true] at h
  have := blocksB_all l [] h.2 j (by omega)
  unfold blockB at this
  rw [Bool.and_eq_true, decide_eq_true_eq] at this
  exact ⟨by omega, this.1.2.1, this.1.2.2, this.2⟩
/-! ### how many pages are clean -/
def freeN : List S91 → Nat
  | [] => 0
  | p :: ps => (if p.f0 = 0 then 1 else 0) + freeN ps
theorem freeN_le : ∀ ps : List S91, freeN ps ≤ ps.length
  | [] => Nat.le_refl _
  | p :: ps => by
    have := freeN_le ps
    rw [freeN, List.length_cons]
    split <;> omega
theorem dropP_cons {l : List S91} {i : Nat} (h : i < l.length) : l.drop i = rd_T91 l (i : Int) :: l.drop (i + 1) := by
  rw [List.drop_eq_getElem_cons h]
  simp [rd_T91, List.getD_eq_getElem?_getD, h]
theorem clean_loop (l : List S91) (b : Int) (hl : l.length ≤ 1048576) (K : Nat) : ∀ (n i m : Nat), i + n = l.length → m ≤ i →
    spec_l2Clean.l0 (K + n + 1) (m : Int) (i : Int) l b = some ((m + freeN (l.drop i) : Nat) : Int) ∧
    impl_freePages.l0 (K + n + 1) (m : Int) l (l.length : Int) (i : Int) = some ((m + freeN (l.drop i) : Nat) : Int)
  | 0, i, m, h, hm => by
    rw [spec_l2Clean.l0, impl_freePages.l0, if_neg (by omega), if_neg (by omega), List.drop_eq_nil_of_le (by omega)]
    exact ⟨rfl, rfl⟩
  | n + 1, i, m, h, hm => by
    have ih1 := clean_loop l b hl K n (i + 1) (m + 1) (by omega) (by omega)
    have ih2 := clean_loop l b hl K n (i + 1) m (by omega) (by omega)
    have e1 : wrap64 ((i : Int) + 1) = ((i + 1 : Nat) : Int) := by rw [wrap64_in _ (by omega)]; omega
    have e2 : wrap64 ((m : Int) + 1) = ((m + 1 : Nat) : Int) := by rw [wrap64_in _ (by omega)]; omega
    rw [dropP_cons (by omega : i < l.length), freeN]
    refine ⟨?_, ?_⟩
    · rw [spec_l2Clean.l0, if_pos (by omega), if_pos (by omega), e1, e2]
      by_cases hs : (rd_T91 l (i : Int)).f0 = 0
      · rw [if_pos hs, if_pos hs, show m + (1 + freeN (l.drop (i + 1))) = m + 1 + freeN (l.drop (i + 1)) by omega]
        exact ih1.1
      · rw [if_neg hs, if_neg hs, Nat.zero_add]
        exact ih2.1
    · rw [impl_freePages.l0, if_pos (by omega), if_pos (by omega), if_pos (by omega), e1, e2]
      by_cases hs : (rd_T91 l (i : Int)).f0 = 0
      · rw [if_pos hs, if_pos hs, show m + (1 + freeN (l.drop (i + 1))) = m + 1 + freeN (l.drop (i + 1)) by omega]
        exact ih1.2
      · rw [if_neg hs, if_neg hs, Nat.zero_add]
        exact ih2.2
theorem l2Clean_ok (l : List S91) (b : Int) (hl : l.length ≤ 1048576) (k : Nat) (hk : l.length < k) : spec_l2Clean.f k l b = some ((freeN l : Nat) : Int) := by
  have := (clean_loop l b hl (k - l.length - 1) l.length 0 0 (by omega) (by omega)).1
  rw [show k - l.length - 1 + l.length + 1 = k by omega, List.drop_zero, Nat.zero_add] at this
  exact this
theorem freePages_ok (l : List S91) (b : Int) (hl : l.length ≤ 1048576) (k : Nat) (hk : l.length < k) : impl_freePages.f k l b = some ((freeN l : Nat) : Int) := by
  have := (clean_loop l b hl (k - l.length - 1) l.length 0 0 (by omega) (by omega)).2
  rw [show k - l.length - 1 + l.length + 1 = k by omega, List.drop_zero, Nat.zero_add] at this
  exact this
def clN (l : List S89) (i : Nat) : Nat := freeN (rd_T89 l (i : Int)).f0
def partL (l : List S89) : Nat → Nat → Option Nat
  | 0, _ => none
  | n + 1, i => if 0 < clN l i ∧ clN l i < 4 then some i else partL l n (i + 1)
def bestL (l : List S89) : Nat → Nat → Int → Int
  | 0, _, o => o
  | n + 1, i, o => if clN l i = 4 ∧ (o < 0 ∨ (rd_T89 l (i : Int)).f1 < (rd_T89 l o).f1) then bestL l n (i + 1) (i : Int) else bestL l n (i + 1) o
def openE (o : Int) : Int × Bool := (mx o 0, decide (o ≥ 0))
def openV (l : List S89) (n i : Nat) (o : Int) : Int × Bool := match partL l n i with
  | some j => ((j : Int), true)
  | none => openE (bestL l n i o)
theorem cl_le (l : List S89) (hp : ∀ j : Nat, j < 4 → (rd_T89 l (j : Int)).f0.length = 4) {i : Nat} (hi : i < 4) : clN l i ≤ 4 := by
  have := freeN_le (rd_T89 l (i : Int)).f0
  have := hp i hi
  unfold clN
  omega
section
variable (l : List S89) (hl : l.length = 4) (hp : ∀ j : Nat, j < 4 → (rd_T89 l (j : Int)).f0.length = 4)
include hl hp
theorem specOpen_loop (K : Nat) (hK : 4 < K) : ∀ (n i : Nat) (o : Int), i + n = 4 → -1 ≤ o → o < i → spec_l3Open.l0 (K + 2 * n + 1) l o i = some (openV l n i o)
  | 0, i, o, h, _, _ => by
    rw [spec_l3Open.l0, if_neg (by omega)]
    rfl
  | n + 1, i, o, h, ho, ho2 => by
    have hi : i < 4 := by omega
    have hc := cl_le l hp hi
    have e1 : wrap64 ((i : Int) + 1) = ((i + 1 : Nat) : Int) := by rw [wrap64_in _ (by omega)]; omega
    have ih1 := specOpen_loop K hK n (i + 1) (i : Int) (by omega) (by omega) (by omega)
    have ih2 := specOpen_loop K hK n (i + 1) o (by omega) (by omega) (by omega)
    have hpi := hp i hi
    rw [show K + 2 * (n + 1) + 1 = K + 2 * n + 2 + 1 by omega, spec_l3Open.l0, if_pos (by omega), if_pos (by omega), l2Clean_ok _ _ (by omega) _ (by omega), Option.bind_some]
    show (if ((clN l i : Nat) : Int) > 0 then spec_l3Open.j1 (K + 2 * n + 2) l o i (clN l i : Nat) (decide (((clN l i : Nat) : Int) < 4)) else spec_l3Open.j1 (K + 2 * n + 2) l o i (clN l i : Nat) false) = _
    unfold openV
    rw [partL]
    by_cases h0 : 0 < clN l i
    · rw [if_pos (by omega)]
      by_cases h4 : clN l i < 4
      · rw [decide_eq_true (by omega : ((clN l i : Nat) : Int) < 4), if_pos ⟨h0, h4⟩, show K + 2 * n + 2 = K + 2 * n + 1 + 1 by omega, spec_l3Open.j1, if_pos rfl]
      · have h44 : clN l i = 4 := by omega
        rw [decide_eq_false (by omega : ¬ ((clN l i : Nat) : Int) < 4), if_neg (fun h => h4 h.2), show K + 2 * n + 2 = K + 2 * n + 1 + 1 by omega, spec_l3Open.j1, if_neg (by simp), if_pos (by omega), bestL, e1]
        by_cases hn : o < 0
        · rw [if_pos hn, if_pos ⟨h44, Or.inl hn⟩]
          exact ih1
        · rw [if_neg hn, if_pos (by omega), if_pos (by omega), if_pos (by omega), if_pos (by omega)]
          by_cases hw : (rd_T89 l (i : Int)).f1 < (rd_T89 l o).f1
          · rw [if_pos hw, if_pos ⟨h44, Or.inr hw⟩]
            exact ih1
          · rw [if_neg hw, if_neg (fun h => h.2.elim hn hw)]
            exact ih2
    · rw [if_neg (by omega), if_neg (fun h => h0 h.1), show K + 2 * n + 2 = K + 2 * n + 1 + 1 by omega, spec_l3Open.j1, if_neg (by simp), if_neg (by omega), bestL, if_neg (fun h => by omega), e1]
      exact ih2
theorem implBest_loop (K : Nat) (hK : 4 < K) : ∀ (n i : Nat) (o : Int), i + n = 4 → -1 ≤ o → o < i → impl_FindOpen.l1 (K + n + 1) l (mx o 0) (decide (o ≥ 0)) l (l.length : Int) i = some (openE (bestL l n i o))
  | 0, i, o, h, _, _ => by
    rw [impl_FindOpen.l1, if_neg (by omega)]
    rfl
  | n + 1, i, o, h, ho, ho2 => by
    have hi : i < 4 := by omega
    have hc := cl_le l hp hi
    have e1 : wrap64 ((i : Int) + 1) = ((i + 1 : Nat) : Int) := by rw [wrap64_in _ (by omega)]; omega
    have hpi := hp i hi
    have ih1 := implBest_loop K hK n (i + 1) (i : Int) (by omega) (by omega) (by omega)
    have ih2 := implBest_loop K hK n (i + 1) o (by omega) (by omega) (by omega)
    rw [show mx (i : Int) 0 = (i : Int) from by unfold mx; omega, decide_eq_true (by omega : (i : Int) ≥ 0)] at ih1
    rw [impl_FindOpen.l1, if_pos (by omega), if_pos (by omega), if_pos (by omega), freePages_ok _ _ (by omega) _ (by omega), Option.bind_some, e1, bestL]
    show (if ((clN l i : Nat) : Int) = 4 then _ else _) = _
    by_cases h4 : clN l i = 4
    · rw [if_pos (by omega)]
      by_cases hn : o < 0
      · rw [decide_eq_false (by omega : ¬ o ≥ 0), if_neg (by simp), if_pos ⟨h4, Or.inl hn⟩]
        exact ih1
      · have em : mx o 0 = o := by unfold mx; omega
        rw [decide_eq_true (by omega : o ≥ 0), if_pos rfl, em, if_pos (by omega), if_pos (by omega)]
        rw [decide_eq_true (by omega : o ≥ 0), em] at ih2
        by_cases hw : (rd_T89 l (i : Int)).f1 < (rd_T89 l o).f1
        · rw [if_pos hw, if_pos ⟨h4, Or.inr hw⟩]
          exact ih1
        · rw [if_neg hw, if_neg (fun h => h.2.elim hn hw)]
          exact ih2
    · rw [if_neg (by omega), if_neg (fun h => h4 h.1)]
      exact ih2
theorem implOpen_loop (K : Nat) (hK : 10 < K) : ∀ (n i : Nat), i + n = 4 → impl_FindOpen.l0 (K + n + 1) l l (l.length : Int) i = some (match partL l n i with | some j => ((j : Int), true) | none => openE (bestL l 4 0 (-1)))
  | 0, i, h => by
    have hb := implBest_loop l hl hp (K - 5) (by omega) 4 0 (-1) (by omega) (by omega) (by omega)
    rw [show K - 5 + 4 + 1 = K by omega] at hb
    rw [impl_FindOpen.l0, if_neg (by omega), partL]
    exact hb
  | n + 1, i, h => by
    have hi : i < 4 := by omega
    have hc := cl_le l hp hi
    have e1 : wrap64 ((i : Int) + 1) = ((i + 1 : Nat) : Int) := by rw [wrap64_in _ (by omega)]; omega
    have hpi := hp i hi
    have ih := implOpen_loop K hK n (i + 1) (by omega)
    rw [impl_FindOpen.l0, if_pos (by omega), if_pos (by omega), if_pos (by omega), e1, partL]
    unfold impl_partlyUsed.f
    rw [freePages_ok _ _ (by omega) _ (by omega), Option.bind_some]
    show ((if ((clN l i : Nat) : Int) > 0 then some (decide (((clN l i : Nat) : Int) < 4)) else some false).bind _) = _
    by_cases h0 : 0 < clN l i
    · rw [if_pos (by omega), Option.bind_some]
      by_cases h4 : clN l i < 4
      · rw [decide_eq_true (by omega : ((clN l i : Nat) : Int) < 4), if_pos rfl, if_pos ⟨h0, h4⟩]
      · rw [decide_eq_false (by omega : ¬ ((clN l i : Nat) : Int) < 4), if_neg (by simp), if_neg (fun h => h4 h.2)]
        exact ih
    · rw [if_neg (by omega), Option.bind_some, if_neg (by simp), if_neg (fun h => h0 h.1)]
      exact ih
end
def openR (l : List S89) : Int × Bool := if flashOkB l = true then openV l 4 0 (-1) else (0, false)
theorem specFindOpen_ok (l : List S89) (k : Nat) (hk : 100 < k) : spec_FindOpen.f k l = some (openR l) := by
  unfold spec_FindOpen.f spec_FlashOk.f openR
  rw [Option.bind_some]
  cases hf : flashOkB l with
  | false => rw [if_neg (by simp), if_neg (by simp)]
  | true =>
    rw [if_pos rfl, if_pos rfl]
    have := specOpen_loop l (flash_len hf) (fun j hj => (flash_block hf j hj).1) (k - 9) (by omega) 4 0 (-1) (by omega) (by omega) (by omega)
    rw [show k - 9 + 2 * 4 + 1 = k by omega] at this
    unfold spec_l3Open.f
    rw [show (0 : Int) = ((0 : Nat) : Int) from rfl, this]
    rfl
theorem implFindOpen_ok (l : List S89) (k : Nat) (hk : 100 < k) : impl_FindOpen.f k l = some (openR l) := by
  unfold impl_FindOpen.f impl_FlashOk.f openR
  rw [Option.bind_some]
  cases hf : flashOkB l with
  | false => rw [if_neg (by simp), if_neg (by simp)]
  | true =>
    rw [if_pos rfl, if_pos rfl]
    have := implOpen_loop l (flash_len hf) (fun j hj => (flash_block hf j hj).1) (k - 5) (by omega) 4 0 (by omega)
    rw [show k - 5 + 4 + 1 = k by omega] at this
    exact this
theorem FnExactFindOpen (l : List S85) (hl : Fits l) : ∃ k, laws_FnExactFindOpen.f k l = some true := by
  refine ⟨l.length + 1048578 + 1, ?_⟩
  obtain ⟨v, hv, hs⟩ := copies_ok_at l hl (l.length + 1048578 + 1) (by omega)
  unfold laws_FnExactFindOpen.f
  rw [hv, Option.bind_some]
  by_cases h : v < 0
  · rw [if_pos h]
  · obtain ⟨ht, _⟩ := hs h
    rw [if_neg h]
    simp only [ht, Option.bind_some, specFindOpen_ok (l.map cBlock) (l.length + 1048578 + 1) (by omega), implFindOpen_ok (l.map cBlock) (l.length + 1048578 + 1) (by omega), if_true, bne_self_eq_false]
    rw [laws_FnExactFindOpen.j0, if_neg (by simp)]
    obtain ⟨ht2, he2⟩ := (hs h).2
    rw [show l.length + 1048578 + 1 - 1 = l.length + 1048578 by omega] at ht2 he2
    simp only [ht2, he2, Option.bind_some, if_true]
end Go.Proofs.Ytdjdbfcfopgdcaa.Pure
