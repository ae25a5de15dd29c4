/- FlashWrite, in plain Lean: both write the record on the first clean page of the block, if the blocks, the block's number and the record are ok; what is marked is held. -/
import Derived.Test.YtfamgmnlflgblaaFW4
import Derived.IntWalk
namespace Go.Proofs.Ytfamgmnlflgblaa.Pure
open Go.RowKit Go.IntWalk Go.Proofs.Ytfamgmnlflgblaa.Rf Go.Proofs.YtfamgmnlflgblaaW.PrintWords Go.Proofs.YtfamgmnlflgblaaW.PrintLast Go.Proofs.YtfamgmnlflgblaaW.PrintMore
/-! ### the law's copies of blocks -/
def Fits (l : List S38) : Prop := l.length ≤ 9223372036854775807 ∧ ∀ i : Nat, i < l.length → (rd_T38 l (i : Int)).f0.length ≤ 9223372036854775807
theorem fits_of {w : World} {A : Option Addr} {l : List S38} (h : Kd.C k38 w A l.length l) : Fits l := ⟨Kd.C_max h, fun i hi => by
  obtain ⟨_, _, _, _, _, _, _, h5⟩ := at_T38 h (i : Int) (by omega) (by omega)
  exact Kd.C_max h5⟩
def cPage (p : S67) : S51 := ⟨p.f0, ⟨p.f1.f0, p.f1.f1, p.f1.f2, p.f1.f3⟩⟩
def cBlock (b : S38) : S45 := ⟨b.f0.map cPage, b.f1⟩
theorem w64_up {i n : Nat} (h : i < n) (hn : n ≤ 9223372036854775807) : wrap64 ((i : Int) + 1) = ((i + 1 : Nat) : Int) := by
  rw [wrap64_in _ (by omega)]
  omega
theorem szPageS_ok (l : List S67) (a : Int) (hl : l.length ≤ 9223372036854775807) (h0 : 0 ≤ a) (h1 : a ≤ 1048576) :
    ∃ v, laws_szPageS.f l a = some v ∧ v ≤ a ∧ (0 ≤ v → l.length ≤ 1048576) := by
  unfold laws_szPageS.f
  rw [wrap64_in _ (by omega)]
  by_cases h : a - (l.length : Int) < 0
  · rw [if_pos h]
    exact ⟨_, rfl, by omega, fun hv => by omega⟩
  · rw [if_neg h]
    exact ⟨_, rfl, by omega, fun hv => by omega⟩
theorem szBlock_ok (l : List S67) (b a : Int) (hl : l.length ≤ 9223372036854775807) (h0 : 0 ≤ a) (h1 : a ≤ 1048576) :
    ∃ v, laws_szBlock.f l b a = some v ∧ v ≤ a ∧ (0 ≤ v → l.length ≤ 1048576) := by
  obtain ⟨v, hv, h2, h3⟩ := szPageS_ok l a hl h0 h1
  unfold laws_szBlock.f
  rw [hv, Option.bind_some]
  by_cases h : v < 0
  · rw [if_pos h]
    exact ⟨_, rfl, by omega, fun h => by omega⟩
  · rw [if_neg h]
    exact ⟨_, rfl, h2, h3⟩
theorem szLoop (l : List S38) (hl : Fits l) (K : Nat) : ∀ (n i : Nat) (a : Int), i + n = l.length → 0 ≤ a → a ≤ 1048576 →
    ∃ v, laws_szBlockS.l0 (K + n + 1) l a i = some v ∧ v ≤ a ∧ (0 ≤ v → ∀ j, i ≤ j → j < l.length → (rd_T38 l (j : Int)).f0.length ≤ 1048576)
  | 0, i, a, h, h0, h1 => by
    rw [laws_szBlockS.l0, if_neg (by omega)]
    exact ⟨_, rfl, by omega, fun _ j h2 h3 => by omega⟩
  | n + 1, i, a, h, h0, h1 => by
    obtain ⟨v, hv, h2, h3⟩ := szBlock_ok (rd_T38 l (i : Int)).f0 (rd_T38 l (i : Int)).f1 a (hl.2 i (by omega)) h0 h1
    rw [laws_szBlockS.l0, if_pos (by omega), if_pos (by omega), hv, Option.bind_some, w64_up (by omega : i < l.length) hl.1]
    by_cases hv0 : v < 0
    · rw [if_pos hv0]
      exact ⟨_, rfl, by omega, fun h => by omega⟩
    · rw [if_neg hv0]
      obtain ⟨u, hu, h4, h5⟩ := szLoop l hl K n (i + 1) v (by omega) (by omega) (by omega)
      refine ⟨u, hu, by omega, fun hu0 j hj hj2 => ?_⟩
      by_cases e : j = i
      · subst e
        exact h3 (by omega)
      · exact h5 hu0 j (by omega) hj2
theorem szBlockS_ok (l : List S38) (hl : Fits l) (k : Nat) (hk : l.length < k) :
    ∃ v, laws_szBlockS.f k l 1048576 = some v ∧ (0 ≤ v → l.length ≤ 1048576 ∧ ∀ j, j < l.length → (rd_T38 l (j : Int)).f0.length ≤ 1048576) := by
  unfold laws_szBlockS.f
  have := hl.1
  rw [wrap64_in _ (by omega)]
  by_cases h : (1048576 : Int) - (l.length : Int) < 0
  · rw [if_pos h]
    exact ⟨_, rfl, fun h => by omega⟩
  · rw [if_neg h]
    obtain ⟨v, hv, _, h2⟩ := szLoop l hl (k - l.length - 1) l.length 0 ((1048576 : Int) - (l.length : Int)) (by omega) (by omega) (by omega)
    rw [show k - l.length - 1 + l.length + 1 = k by omega] at hv
    exact ⟨v, hv, fun h0 => ⟨by omega, fun j hj => h2 h0 j (Nat.zero_le _) hj⟩⟩
theorem fill_step {α : Type} (xs : List α) (m : Nat) (z v : α) (i : Nat) (hi : xs.length = i) : (xs ++ List.replicate (m + 1) z).set i v = (xs ++ [v]) ++ List.replicate m z := by
  subst hi
  rw [List.set_append_right _ _ (Nat.le_refl _), Nat.sub_self, List.replicate_succ, List.set_cons_zero, List.append_assoc]
  rfl
theorem take_up_T67 {l : List S67} {i : Nat} (h : i < l.length) : l.take (i + 1) = l.take i ++ [rd_T67 l (i : Int)] := by
  rw [List.take_succ_eq_append_getElem h]
  simp [rd_T67, List.getD_eq_getElem?_getD, h]
theorem take_up_T38 {l : List S38} {i : Nat} (h : i < l.length) : l.take (i + 1) = l.take i ++ [rd_T38 l (i : Int)] := by
  rw [List.take_succ_eq_append_getElem h]
  simp [rd_T38, List.getD_eq_getElem?_getD, h]
theorem toPage_loop (l : List S67) (hl : l.length ≤ 9223372036854775807) (K : Nat) : ∀ (n i : Nat), i + n = l.length →
    laws_toPageS.l0 (K + n + 1) l ((l.take i).map cPage ++ List.replicate n z51) i = some (l.map cPage)
  | 0, i, h => by
    rw [laws_toPageS.l0, if_neg (by omega), List.take_of_length_le (by omega), List.replicate_zero, List.append_nil]
  | n + 1, i, h => by
    have hlen : ((l.take i).map cPage).length = i := by rw [List.length_map, List.length_take]; omega
    rw [laws_toPageS.l0, if_pos (by omega), if_pos (by omega), w64_up (by omega : i < l.length) hl]
    unfold laws_toPage.f laws_toRec.f
    rw [Option.bind_some, Option.bind_some, if_pos (by rw [List.length_append, hlen, List.length_replicate]; omega), Int.toNat_natCast, fill_step _ _ _ _ _ hlen]
    have ih := toPage_loop l hl K n (i + 1) (by omega)
    rw [take_up_T67 (by omega), List.map_append] at ih
    exact ih
theorem toPageS_ok (l : List S67) (hl : l.length ≤ 1048576) (k : Nat) (hk : l.length < k) : laws_toPageS.f k l = some (l.map cPage) := by
  unfold laws_toPageS.f
  rw [if_pos (by omega), Int.toNat_natCast, if_pos (by omega)]
  have := toPage_loop l (by omega) (k - l.length - 1) l.length 0 (by omega)
  rw [show k - l.length - 1 + l.length + 1 = k by omega] at this
  exact this
theorem toBlock_loop (l : List S38) (hl : l.length ≤ 1048576) (hp : ∀ j : Nat, j < l.length → (rd_T38 l (j : Int)).f0.length ≤ 1048576) (K : Nat) (hK : 1048576 < K) : ∀ (n i : Nat), i + n = l.length →
    laws_toBlockS.l0 (K + n + 1) l ((l.take i).map cBlock ++ List.replicate n z45) i = some (l.map cBlock)
  | 0, i, h => by
    rw [laws_toBlockS.l0, if_neg (by omega), List.take_of_length_le (by omega), List.replicate_zero, List.append_nil]
  | n + 1, i, h => by
    have hlen : ((l.take i).map cBlock).length = i := by rw [List.length_map, List.length_take]; omega
    rw [laws_toBlockS.l0, if_pos (by omega), if_pos (by omega), w64_up (by omega : i < l.length) (by omega)]
    unfold laws_toBlock.f
    rw [toPageS_ok _ (hp i (by omega)) _ (by have := hp i (by omega); omega), Option.bind_some, Option.bind_some, if_pos (by rw [List.length_append, hlen, List.length_replicate]; omega), Int.toNat_natCast, fill_step _ _ _ _ _ hlen]
    have ih := toBlock_loop l hl hp K hK n (i + 1) (by omega)
    rw [take_up_T38 (by omega), List.map_append] at ih
    exact ih
theorem toBlockS_ok (l : List S38) (hl : l.length ≤ 1048576) (hp : ∀ j : Nat, j < l.length → (rd_T38 l (j : Int)).f0.length ≤ 1048576) (k : Nat) (hk : l.length + 1048578 ≤ k) : laws_toBlockS.f k l = some (l.map cBlock) := by
  unfold laws_toBlockS.f
  rw [if_pos (by omega), Int.toNat_natCast, if_pos (by omega)]
  have := toBlock_loop l hl hp (k - l.length - 1) (by omega) l.length 0 (by omega)
  rw [show k - l.length - 1 + l.length + 1 = k by omega] at this
  exact this
theorem eqPage_loop (l : List S51) (hl : l.length ≤ 9223372036854775807) (K : Nat) : ∀ (n i : Nat), i + n = l.length → laws_eqPageS.l0 (K + n + 1) l l i = some true
  | 0, i, h => by rw [laws_eqPageS.l0, if_neg (by omega)]
  | n + 1, i, h => by
    rw [laws_eqPageS.l0, if_pos (by omega), if_pos (by omega), if_pos (by omega), w64_up (by omega : i < l.length) hl]
    unfold laws_eqPage.f laws_eqRec.f
    rw [if_pos rfl, if_pos rfl, if_pos rfl, if_pos rfl, if_pos rfl, Option.bind_some, if_pos rfl, Option.bind_some, if_pos rfl]
    exact eqPage_loop l hl K n (i + 1) (by omega)
theorem eqPageS_ok (l : List S51) (hl : l.length ≤ 1048576) (k : Nat) (hk : l.length < k) : laws_eqPageS.f k l l = some true := by
  unfold laws_eqPageS.f
  rw [if_pos rfl]
  have := eqPage_loop l (by omega) (k - l.length - 1) l.length 0 (by omega)
  rw [show k - l.length - 1 + l.length + 1 = k by omega] at this
  exact this
theorem eqBlock_loop (l : List S45) (hl : l.length ≤ 9223372036854775807) (hp : ∀ j : Nat, j < l.length → (rd_T45 l (j : Int)).f0.length ≤ 1048576) (K : Nat) (hK : 1048576 < K) : ∀ (n i : Nat), i + n = l.length → laws_eqBlockS.l0 (K + n + 1) l l i = some true
  | 0, i, h => by rw [laws_eqBlockS.l0, if_neg (by omega)]
  | n + 1, i, h => by
    rw [laws_eqBlockS.l0, if_pos (by omega), if_pos (by omega), if_pos (by omega), w64_up (by omega : i < l.length) hl]
    unfold laws_eqBlock.f
    rw [eqPageS_ok _ (hp i (by omega)) _ (by have := hp i (by omega); omega), Option.bind_some, if_pos rfl, if_pos rfl, Option.bind_some, if_pos rfl]
    exact eqBlock_loop l hl hp K hK n (i + 1) (by omega)
theorem eqBlockS_ok (l : List S45) (hl : l.length ≤ 1048576) (hp : ∀ j : Nat, j < l.length → (rd_T45 l (j : Int)).f0.length ≤ 1048576) (k : Nat) (hk : l.length + 1048578 ≤ k) : laws_eqBlockS.f k l l = some true := by
  unfold laws_eqBlockS.f
  rw [if_pos rfl]
  have := eqBlock_loop l (by omega) hp (k - l.length - 1) (by omega) l.length 0 (by omega)
  rw [show k - l.length - 1 + l.length + 1 = k by omega] at this
  exact this
theorem rd_cBlock (l : List S38) (j : Nat) (hj : j < l.length) : rd_T45 (l.map cBlock) (j : Int) = cBlock (rd_T38 l (j : Int)) := by
  simp [rd_T45, rd_T38, List.getD_eq_getElem?_getD, hj]
theorem cPages_len (l : List S38) (hp : ∀ j : Nat, j < l.length → (rd_T38 l (j : Int)).f0.length ≤ 1048576) : ∀ j : Nat, j < (l.map cBlock).length → (rd_T45 (l.map cBlock) (j : Int)).f0.length ≤ 1048576 := fun j hj => by
  rw [List.length_map] at hj
  rw [rd_cBlock l j hj]
  simpa [cBlock] using hp j hj
/-- What the law has of a list that is not too long. -/
theorem copies_ok (l : List S38) (hl : Fits l) : ∃ v, laws_szBlockS.f (l.length + 1048578) l 1048576 = some v ∧ (¬ v < 0 →
    laws_toBlockS.f (l.length + 1048578) l = some (l.map cBlock) ∧ laws_eqBlockS.f (l.length + 1048578) (l.map cBlock) (l.map cBlock) = some true) := by
  obtain ⟨v, hv, hs⟩ := szBlockS_ok l hl (l.length + 1048578) (by omega)
  refine ⟨v, hv, fun h => ?_⟩
  obtain ⟨h1, h2⟩ := hs (by omega)
  exact ⟨toBlockS_ok l h1 h2 _ (Nat.le_refl _), eqBlockS_ok _ (by rw [List.length_map]; exact h1) (cPages_len l h2) _ (by rw [List.length_map]; exact Nat.le_refl _)⟩
/-- The same with any number of rounds that is great enough, and one round less. -/
theorem copies_ok_at (l : List S38) (hl : Fits l) (k : Nat) (hk : l.length + 1048579 ≤ k) : ∃ v, laws_szBlockS.f k l 1048576 = some v ∧ (¬ v < 0 →
    laws_toBlockS.f k l = some (l.map cBlock) ∧ laws_toBlockS.f (k - 1) l = some (l.map cBlock) ∧ laws_eqBlockS.f (k - 1) (l.map cBlock) (l.map cBlock) = some true) := by
  obtain ⟨v, hv, hs⟩ := szBlockS_ok l hl k (by omega)
  refine ⟨v, hv, fun h => ?_⟩
  obtain ⟨h1, h2⟩ := hs (by omega)
  exact ⟨toBlockS_ok l h1 h2 _ (by omega), toBlockS_ok l h1 h2 _ (by omega), eqBlockS_ok _ (by rw [List.length_map]; exact h1) (cPages_len l h2) _ (by rw [List.length_map]; omega)⟩
/-! ### what ok blocks are -/
theorem rdB_cons {b : S45} {bs : List S45} (j : Nat) : rd_T45 (b :: bs) ((j + 1 : Nat) : Int) = rd_T45 bs (j : Int) := by
  unfold rd_T45
  rw [Int.toNat_natCast, Int.toNat_natCast]
  rfl
theorem blocksB_all : ∀ (l : List S45) (S : List Int), blocksB l S = true → ∀ j : Nat, j < l.length → blockB (rd_T45 l (j : Int)) = true
  | [], _, _, j, hj => by cases hj
  | b :: bs, S, h, j, hj => by
    rw [blocksB, Bool.and_eq_true] at h
    obtain ⟨h1, h2⟩ := h
    cases j with
    | zero => exact h1
    | succ j =>
      rw [rdB_cons]
      cases hp : pagesB b.f0 S with
      | none => rw [hp] at h2; cases h2
      | some S' =>
        rw [hp] at h2
        exact blocksB_all bs S' h2 j (by simpa using hj)
theorem flash_len {l : List S45} (h : flashOkB l = true) : l.length = 4 := by
  unfold flashOkB at h
  rw [Bool.and_eq_true, decide_eq_true_eq] at h
  omega
theorem flash_block {l : List S45} (h : flashOkB l = true) (j : Nat) (hj : j < 4) : (rd_T45 l (j : Int)).f0.length = 4 ∧ 0 ≤ (rd_T45 l (j : Int)).f1 ∧ (rd_T45 l (j : Int)).f1 ≤ 200 ∧ shapeB (rd_T45 l (j : Int)).f0 false = true := by
  have hl := flash_len h
  unfold flashOkB at h
  rw [Bool.and_eq_true] at h
  have := blocksB_all l [] h.2 j (by omega)
  unfold blockB at this
  rw [Bool.and_eq_true, decide_eq_true_eq] at this
  exact ⟨by omega, this.1.2.1, this.1.2.2, this.2⟩
theorem dropP_cons {l : List S51} {i : Nat} (h : i < l.length) : l.drop i = rd_T51 l (i : Int) :: l.drop (i + 1) := by
  rw [List.drop_eq_getElem_cons h]
  simp [rd_T51, List.getD_eq_getElem?_getD, h]
/-! ### how many pages are clean -/
def freeN : List S51 → Nat
  | [] => 0
  | p :: ps => (if p.f0 = 0 then 1 else 0) + freeN ps
theorem freeN_le : ∀ ps : List S51, freeN ps ≤ ps.length
  | [] => Nat.le_refl _
  | p :: ps => by
    have := freeN_le ps
    rw [freeN, List.length_cons]
    split <;> omega
theorem clean_loop (l : List S51) (b : Int) (hl : l.length ≤ 1048576) (K : Nat) : ∀ (n i m : Nat), i + n = l.length → m ≤ i →
    spec_l2Clean.l0 (K + n + 1) (m : Int) (i : Int) l b = some ((m + freeN (l.drop i) : Nat) : Int) ∧
    impl_freePages.l0 (K + n + 1) (m : Int) l (l.length : Int) (i : Int) = some ((m + freeN (l.drop i) : Nat) : Int)
  | 0, i, m, h, hm => by
    rw [spec_l2Clean.l0, impl_freePages.l0, if_neg (by omega), if_neg (by omega), List.drop_eq_nil_of_le (by omega)]
    exact ⟨rfl, rfl⟩
  | n + 1, i, m, h, hm => by
    have ih1 := clean_loop l b hl K n (i + 1) (m + 1) (by omega) (by omega)
    have ih2 := clean_loop l b hl K n (i + 1) m (by omega) (by omega)
    have e1 : wrap64 ((i : Int) + 1) = ((i + 1 : Nat) : Int) := by rw [wrap64_in _ (by omega)]; omega
    have e2 : wrap64 ((m : Int) + 1) = ((m + 1 : Nat) : Int) := by rw [wrap64_in _ (by omega)]; omega
    rw [dropP_cons (by omega : i < l.length), freeN]
    refine ⟨?_, ?_⟩
    · rw [spec_l2Clean.l0, if_pos (by omega), if_pos (by omega), e1, e2]
      by_cases hs : (rd_T51 l (i : Int)).f0 = 0
      · rw [if_pos hs, if_pos hs, show m + (1 + freeN (l.drop (i + 1))) = m + 1 + freeN (l.drop (i + 1)) by omega]
        exact ih1.1
      · rw [if_neg hs, if_neg hs, Nat.zero_add]
        exact ih2.1
    · rw [impl_freePages.l0, if_pos (by omega), if_pos (by omega), if_pos (by omega), e1, e2]
      by_cases hs : (rd_T51 l (i : Int)).f0 = 0
      · rw [if_pos hs, if_pos hs, show m + (1 + freeN (l.drop (i + 1))) = m + 1 + freeN (l.drop (i + 1)) by omega]
        exact ih1.2
      · rw [if_neg hs, if_neg hs, Nat.zero_add]
        exact ih2.2
theorem l2Clean_ok (l : List S51) (b : Int) (hl : l.length ≤ 1048576) (k : Nat) (hk : l.length < k) : spec_l2Clean.f k l b = some ((freeN l : Nat) : Int) := by
  have := (clean_loop l b hl (k - l.length - 1) l.length 0 0 (by omega) (by omega)).1
  rw [show k - l.length - 1 + l.length + 1 = k by omega, List.drop_zero, Nat.zero_add] at this
  exact this
theorem freePages_ok (l : List S51) (b : Int) (hl : l.length ≤ 1048576) (k : Nat) (hk : l.length < k) : impl_freePages.f k l b = some ((freeN l : Nat) : Int) := by
  have := (clean_loop l b hl (k - l.length - 1) l.length 0 0 (by omega) (by omega)).2
  rw [show k - l.length - 1 + l.length + 1 = k by omega, List.drop_zero, Nat.zero_add] at this
  exact this
/-! ### whether a number is used -/
def usedP : List S51 → Int → Bool
  | [], _ => false
  | p :: ps, s => if p.f0 = 1 ∧ p.f1.f1 = s then true else usedP ps s
def usedN : List S45 → Int → Bool
  | [], _ => false
  | b :: bs, s => if usedP b.f0 s = true then true else usedN bs s
theorem usedP_hit {p : S51} {ps : List S51} {s : Int} (h : p.f0 = 1 ∧ p.f1.f1 = s) : usedP (p :: ps) s = true := by rw [usedP, if_pos h]
theorem usedP_miss {p : S51} {ps : List S51} {s : Int} (h : ¬ (p.f0 = 1 ∧ p.f1.f1 = s)) : usedP (p :: ps) s = usedP ps s := by rw [usedP, if_neg h]
theorem dropB_rd {l : List S45} {i : Nat} (h : i < l.length) : l.drop i = rd_T45 l (i : Int) :: l.drop (i + 1) := by
  rw [List.drop_eq_getElem_cons h]
  simp [rd_T45, List.getD_eq_getElem?_getD, h]
theorem takeB_rd {l : List S45} {i : Nat} (h : i < l.length) : l.take (i + 1) = l.take i ++ [rd_T45 l (i : Int)] := by
  rw [List.take_succ_eq_append_getElem h]
  simp [rd_T45, List.getD_eq_getElem?_getD, h]
theorem specSeq_in (l : List S45) (s : Int) (i : Nat) (hi : i < l.length) (hl : l.length ≤ 1048576) (hp : (rd_T45 l (i : Int)).f0.length ≤ 1048576) (K : Nat) : ∀ (n j : Nat), j + n = (rd_T45 l (i : Int)).f0.length →
    spec_l2Seq.l1 (K + n + 1) l s (i : Int) (j : Int) = if usedP ((rd_T45 l (i : Int)).f0.drop j) s = true then some true else spec_l2Seq.l0 K l s ((i + 1 : Nat) : Int)
  | 0, j, h => by
    rw [spec_l2Seq.l1, if_pos (by omega), if_pos (by omega), if_neg (by omega), List.drop_eq_nil_of_le (by omega), w64_up hi (by omega), usedP, if_neg (by decide)]
  | n + 1, j, h => by
    have ih := specSeq_in l s i hi hl hp K n (j + 1) (by omega)
    rw [spec_l2Seq.l1, if_pos (by omega), if_pos (by omega), if_pos (by omega), if_pos (by omega), dropP_cons (by omega : j < _), w64_up (by omega : j < (rd_T45 l (i : Int)).f0.length) (by omega)]
    by_cases h1 : (rd_T51 (rd_T45 l (i : Int)).f0 (j : Int)).f0 = 1
    · rw [if_pos h1]
      by_cases h2 : (rd_T51 (rd_T45 l (i : Int)).f0 (j : Int)).f1.f1 = s
      · rw [if_pos h2, usedP_hit ⟨h1, h2⟩, if_pos rfl]
      · rw [if_neg h2, usedP_miss (fun h => h2 h.2)]
        exact ih
    · rw [if_neg h1, usedP_miss (fun h => h1 h.1)]
      exact ih
theorem specSeq_out (l : List S45) (s : Int) (hl : l.length ≤ 1048576) (P : Nat) (hP : P ≤ 1048576) (hp : ∀ i : Nat, i < l.length → (rd_T45 l (i : Int)).f0.length ≤ P) : ∀ (n i K : Nat), i + n = l.length →
    spec_l2Seq.l0 (K + n * (P + 2) + 1) l s (i : Int) = some (usedN (l.drop i) s)
  | 0, i, K, h => by
    rw [spec_l2Seq.l0, if_neg (by omega), List.drop_eq_nil_of_le (by omega), usedN]
  | n + 1, i, K, h => by
    have hpi := hp i (by omega)
    have ih := specSeq_out l s hl P hP hp n (i + 1) (K + (P - (rd_T45 l (i : Int)).f0.length)) (by omega)
    have e : K + (n + 1) * (P + 2) = (K + (P - (rd_T45 l (i : Int)).f0.length) + n * (P + 2) + 1) + (rd_T45 l (i : Int)).f0.length + 1 := by rw [Nat.add_mul]; omega
    have h1 := specSeq_in l s i (by omega) hl (by omega) (K + (P - (rd_T45 l (i : Int)).f0.length) + n * (P + 2) + 1) (rd_T45 l (i : Int)).f0.length 0 (by omega)
    rw [spec_l2Seq.l0, if_pos (by omega), e, dropB_rd (by omega : i < l.length), usedN]
    refine h1.trans ?_
    rw [List.drop_zero, ih]
    split <;> rfl
theorem implSeq_in (l : List S45) (s : Int) (i : Nat) (hi : i < l.length) (hl : l.length ≤ 1048576) (hp : (rd_T45 l (i : Int)).f0.length ≤ 1048576) (K : Nat) : ∀ (n j : Nat), j + n = (rd_T45 l (i : Int)).f0.length →
    impl_seqUsed.l1 (K + n + 1) s l (l.length : Int) (i : Int) (rd_T45 l (i : Int)).f0 ((rd_T45 l (i : Int)).f0.length : Int) (j : Int) = if usedP ((rd_T45 l (i : Int)).f0.drop j) s = true then some true else impl_seqUsed.l0 K s l (l.length : Int) ((i + 1 : Nat) : Int)
  | 0, j, h => by
    rw [impl_seqUsed.l1, if_neg (by omega), List.drop_eq_nil_of_le (by omega), w64_up hi (by omega), usedP, if_neg (by decide)]
  | n + 1, j, h => by
    have ih := implSeq_in l s i hi hl hp K n (j + 1) (by omega)
    rw [impl_seqUsed.l1, if_pos (by omega), if_pos (by omega), if_pos (by omega), dropP_cons (by omega : j < _), w64_up (by omega : j < (rd_T45 l (i : Int)).f0.length) (by omega)]
    by_cases h1 : (rd_T51 (rd_T45 l (i : Int)).f0 (j : Int)).f0 = 1
    · rw [if_pos h1]
      by_cases h2 : (rd_T51 (rd_T45 l (i : Int)).f0 (j : Int)).f1.f1 = s
      · rw [if_pos h2, usedP_hit ⟨h1, h2⟩, if_pos rfl]
      · rw [if_neg h2, usedP_miss (fun h => h2 h.2)]
        exact ih
    · rw [if_neg h1, usedP_miss (fun h => h1 h.1)]
      exact ih
theorem implSeq_out (l : List S45) (s : Int) (hl : l.length ≤ 1048576) (P : Nat) (hP : P ≤ 1048576) (hp : ∀ i : Nat, i < l.length → (rd_T45 l (i : Int)).f0.length ≤ P) : ∀ (n i K : Nat), i + n = l.length →
    impl_seqUsed.l0 (K + n * (P + 2) + 1) s l (l.length : Int) (i : Int) = some (usedN (l.drop i) s)
  | 0, i, K, h => by
    rw [impl_seqUsed.l0, if_neg (by omega), List.drop_eq_nil_of_le (by omega), usedN]
  | n + 1, i, K, h => by
    have hpi := hp i (by omega)
    have ih := implSeq_out l s hl P hP hp n (i + 1) (K + (P - (rd_T45 l (i : Int)).f0.length)) (by omega)
    have e : K + (n + 1) * (P + 2) = (K + (P - (rd_T45 l (i : Int)).f0.length) + n * (P + 2) + 1) + (rd_T45 l (i : Int)).f0.length + 1 := by rw [Nat.add_mul]; omega
    have h1 := implSeq_in l s i (by omega) hl (by omega) (K + (P - (rd_T45 l (i : Int)).f0.length) + n * (P + 2) + 1) (rd_T45 l (i : Int)).f0.length 0 (by omega)
    rw [impl_seqUsed.l0, if_pos (by omega), if_pos (by omega), if_pos (by omega), e, dropB_rd (by omega : i < l.length), usedN]
    refine h1.trans ?_
    rw [List.drop_zero, ih]
    split <;> rfl
theorem flash_small {l : List S45} (h : flashOkB l = true) : ∀ i : Nat, i < l.length → (rd_T45 l (i : Int)).f0.length ≤ 4 := fun i hi => by
  have := flash_len h
  have := (flash_block h i (by omega)).1
  omega
theorem specSeq_ok {l : List S45} (h : flashOkB l = true) (s : Int) (k : Nat) (hk : 26 ≤ k) : spec_l2Seq.f k l s = some (usedN l s) := by
  have hl := flash_len h
  have h1 := specSeq_out l s (by omega) 4 (by decide) (flash_small h) 4 0 (k - 25) (by omega)
  rw [show k - 25 + 4 * (4 + 2) + 1 = k by omega, List.drop_zero] at h1
  exact h1
theorem implSeq_ok {l : List S45} (h : flashOkB l = true) (s : Int) (k : Nat) (hk : 26 ≤ k) : impl_seqUsed.f k l s = some (usedN l s) := by
  have hl := flash_len h
  have h1 := implSeq_out l s (by omega) 4 (by decide) (flash_small h) 4 0 (k - 25) (by omega)
  rw [show k - 25 + 4 * (4 + 2) + 1 = k by omega, List.drop_zero] at h1
  exact h1
/-! ### the copy; what is written -/
theorem copyB_loop (l : List S45) (hl : l.length ≤ 1000) (hp : ∀ i : Nat, i < l.length → (rd_T45 l (i : Int)).f0.length ≤ 4) (K : Nat) : ∀ (n i : Nat), i + n = l.length → spec_l2Copy.l0 (K + n + 1) l (l.take i) (i : Int) = some l
  | 0, i, h => by rw [spec_l2Copy.l0, if_neg (by omega), List.take_of_length_le (by omega)]
  | n + 1, i, h => by
    have hpi := hp i (by omega)
    have ih := copyB_loop l hl hp K n (i + 1) (by omega)
    rw [spec_l2Copy.l0, if_pos (by omega), Option.bind_some, if_pos (by omega), if_pos (by rw [List.length_nil]; omega), if_pos (by rw [List.length_take]; omega), w64_up (by omega : i < l.length) (by omega), List.nil_append, show (⟨(rd_T45 l (i : Int)).f0, (rd_T45 l (i : Int)).f1⟩ : S45) = rd_T45 l (i : Int) from rfl, ← takeB_rd (by omega)]
    exact ih
theorem copyB_ok {l : List S45} (h : flashOkB l = true) (k : Nat) (hk : 6 ≤ k) : spec_l2Copy.f k l = some l := by
  have hl := flash_len h
  have h1 := copyB_loop l (by omega) (flash_small h) (k - 5) 4 0 (by omega)
  rw [show k - 5 + 4 + 1 = k by omega] at h1
  exact h1
theorem l6In_eq (a b c : Int) : spec_l6In.f a b c = some (decide (b ≤ a ∧ a ≤ c)) := by
  unfold spec_l6In.f
  by_cases h : a ≥ b
  · rw [if_pos h]
    exact congrArg some (decide_eq_decide.2 ⟨fun h2 => ⟨h, h2⟩, fun h2 => h2.2⟩)
  · rw [if_neg h]
    exact congrArg some (decide_eq_false (fun h2 => h h2.1)).symm
theorem specRecOk_eq (a b c d : Int) : spec_RecOk.f a b c d = some (recOkB a b c d) := by
  unfold spec_RecOk.f recOkB
  simp only [l6In_eq, Option.bind_some]
  repeat' split
  all_goals simp_all
  all_goals omega
def fwN (l : List S45) (b : Int) : Int := ((freeN (rd_T45 l b).f0 : Nat) : Int)
theorem fwN_le {l : List S45} {b : Int} (h : (rd_T45 l b).f0.length = 4) : 0 ≤ fwN l b ∧ fwN l b ≤ 4 := by
  have := freeN_le (rd_T45 l b).f0
  unfold fwN
  omega
theorem pages_at {l : List S45} (hf : flashOkB l = true) {b : Int} (hb : 0 ≤ b ∧ b < 4) : (rd_T45 l b).f0.length = 4 := by
  obtain ⟨j, rfl⟩ := Int.eq_ofNat_of_zero_le hb.1
  exact (flash_block hf j (by omega)).1
def FwG (l : List S45) (b r0 r1 r2 r3 : Int) : Prop := flashOkB l = true ∧ (0 ≤ b ∧ b < 4) ∧ recOkB r0 r1 r2 r3 = true
instance (l : List S45) (b r0 r1 r2 r3 : Int) : Decidable (FwG l b r0 r1 r2 r3) := by unfold FwG; exact inferInstance
def fwV (l : List S45) (b r0 r1 r2 r3 : Int) (tn : Bool) : List S45 := if FwG l b r0 r1 r2 r3 then outFW l b (fwN l b) (usedN l r1) (pageFW r0 r1 r2 r3 tn) else []
def fwB (l : List S45) (b r0 r1 r2 r3 : Int) : Bool := if FwG l b r0 r1 r2 r3 then okFW (fwN l b) (usedN l r1) else false
theorem specWrite_ok {l : List S45} (hf : flashOkB l = true) {b : Int} (hb : 0 ≤ b ∧ b < 4) (r0 r1 r2 r3 : Int) (tn : Bool) (k : Nat) (hk : 30 ≤ k) : spec_l2Write.f k l b r0 r1 r2 r3 tn = some (outFW l b (fwN l b) (usedN l r1) (pageFW r0 r1 r2 r3 tn), okFW (fwN l b) (usedN l r1)) := by
  have hl := flash_len hf
  have hp := pages_at hf hb
  have hn := fwN_le hp
  obtain ⟨k, rfl⟩ : ∃ m, k = m + 1 := ⟨k - 1, by omega⟩
  unfold spec_l2Write.f
  rw [if_pos hb.1, if_pos (by omega), l2Clean_ok _ _ (by omega) _ (by omega), Option.bind_some]
  show (if fwN l b = 0 then _ else _) = _
  by_cases h0 : fwN l b = 0
  · rw [if_pos h0, spec_l2Write.j0, if_pos rfl, (outFW_no (Or.inl h0)).1, (outFW_no (l0 := l) (b := b) (p := pageFW r0 r1 r2 r3 tn) (u := usedN l r1) (Or.inl h0)).2]
  · rw [if_neg h0, specSeq_ok hf r1 _ (by omega), Option.bind_some, spec_l2Write.j0]
    cases hu : usedN l r1 with
    | true => rw [if_pos rfl, (outFW_no (Or.inr rfl)).1, (outFW_no (l0 := l) (b := b) (p := pageFW r0 r1 r2 r3 tn) (n := fwN l b) (Or.inr rfl)).2]
    | false =>
      rw [if_neg (by decide), (outFW_yes h0).1, (outFW_yes (l0 := l) (b := b) (p := pageFW r0 r1 r2 r3 tn) h0).2]
      have e : wrap64 (4 - ((freeN (rd_T45 l b).f0 : Nat) : Int)) = 4 - fwN l b := wrap64_in _ (by unfold fwN at hn; omega)
      rw [e]
      cases tn with
      | true =>
        rw [if_pos rfl, if_pos hb.1, if_pos (by omega), if_pos (by omega), if_pos (by omega)]
        rfl
      | false =>
        rw [if_neg (by decide), if_pos hb.1, if_pos (by omega), if_pos (by omega), if_pos (by omega)]
        rfl
theorem specFW_ok (l : List S45) (b r0 r1 r2 r3 : Int) (tn : Bool) (k : Nat) (hk : 40 ≤ k) : spec_FlashWrite.f k l b r0 r1 r2 r3 tn = some (fwV l b r0 r1 r2 r3 tn, fwB l b r0 r1 r2 r3) := by
  obtain ⟨k, rfl⟩ : ∃ m, k = m + 1 := ⟨k - 1, by omega⟩
  unfold spec_FlashWrite.f spec_FlashOk.f fwV fwB
  rw [Option.bind_some]
  cases hf : flashOkB l with
  | false =>
    have hg : ¬ FwG l b r0 r1 r2 r3 := fun h => by have := h.1; rw [hf] at this; cases this
    rw [if_neg (by decide), spec_FlashWrite.j0, if_pos rfl, if_neg hg, if_neg hg]
  | true =>
    rw [if_pos rfl, l6In_eq, Option.bind_some]
    by_cases hb : 0 ≤ b ∧ b < 4
    · rw [decide_eq_true (show 0 ≤ b ∧ b ≤ 3 by omega), if_pos rfl, specRecOk_eq, Option.bind_some, spec_FlashWrite.j0]
      cases hr : recOkB r0 r1 r2 r3 with
      | false =>
        have hg : ¬ FwG l b r0 r1 r2 r3 := fun h => by have := h.2.2; rw [hr] at this; cases this
        rw [if_pos (by decide), if_neg hg, if_neg hg]
      | true =>
        have hg : FwG l b r0 r1 r2 r3 := ⟨hf, hb, hr⟩
        rw [if_neg (by decide), copyB_ok hf _ (by omega), Option.bind_some, specWrite_ok hf hb _ _ _ _ _ _ (by omega), Option.bind_some, if_pos hg, if_pos hg]
    · have hg : ¬ FwG l b r0 r1 r2 r3 := fun h => hb h.2.1
      rw [decide_eq_false (show ¬ (0 ≤ b ∧ b ≤ 3) by omega), if_neg (by decide), spec_FlashWrite.j0, if_pos rfl, if_neg hg, if_neg hg]
/-! ### what is marked is held -/
def rampPg (m : Int) : S51 := ⟨m, ⟨m + 1, m + 2, m + 3, m + 4⟩⟩
theorem rampPg_f (m : Int) : (rampPg m).f0 = m ∧ (rampPg m).f1.f0 = m + 1 ∧ (rampPg m).f1.f1 = m + 1 + 1 ∧ (rampPg m).f1.f2 = m + 1 + 1 + 1 ∧ (rampPg m).f1.f3 = m + 1 + 1 + 1 + 1 := by
  refine ⟨rfl, rfl, ?_, ?_, ?_⟩
  · show m + 2 = _; omega
  · show m + 3 = _; omega
  · show m + 4 = _; omega
def rampP (m : Int) : Nat → List S51
  | 0 => []
  | n + 1 => rampP m n ++ [rampPg (m + 5 * (n : Int))]
theorem rampP_len (m : Int) : ∀ n, (rampP m n).length = n
  | 0 => rfl
  | n + 1 => by rw [rampP, List.length_append, rampP_len m n]; rfl
theorem set_at {α : Type} (pre : List α) (x y : α) (ys : List α) (i : Nat) (hi : pre.length = i) : (pre ++ x :: ys).set i y = pre ++ y :: ys := by
  subst hi
  rw [List.set_append_right _ _ (Nat.le_refl _), Nat.sub_self, List.set_cons_zero]
theorem rdP_at (pre : List S51) (x : S51) (ys : List S51) (i : Nat) (hi : pre.length = i) : rd_T51 (pre ++ x :: ys) (i : Int) = x := by
  subst hi
  simp [rd_T51, List.getD_eq_getElem?_getD]
theorem rdB_at (pre : List S45) (x : S45) (ys : List S45) (i : Nat) (hi : pre.length = i) : rd_T45 (pre ++ x :: ys) (i : Int) = x := by
  subst hi
  simp [rd_T45, List.getD_eq_getElem?_getD]
theorem markP_loop (xs : List S51) (m : Int) (h0 : 0 ≤ m) (h1 : m ≤ 8000000000000000000) (hl : xs.length ≤ 1048576) (K : Nat) : ∀ (n i : Nat), i + n = xs.length → laws_markPageS.l0 (K + n + 1) (rampP m i ++ xs.drop i) (m + 5 * (i : Int)) i = some (m + 5 * (xs.length : Int), rampP m xs.length)
  | 0, i, h => by
    rw [laws_markPageS.l0, if_neg (by simp [rampP_len]; omega), List.drop_eq_nil_of_le (by omega), List.append_nil, show i = xs.length by omega]
  | n + 1, i, h => by
    have hr := rampP_len m i
    have hd : xs.drop i = xs[i] :: xs.drop (i + 1) := List.drop_eq_getElem_cons (by omega)
    have w1 : ∀ q : Int, 0 ≤ q → q ≤ 9000000000000000000 → wrap64 (q + 1) = q + 1 := fun q _ _ => wrap64_in _ (by omega)
    rw [laws_markPageS.l0, if_pos (by simp [rampP_len]; omega), if_pos (by omega), w64_up (by omega : i < xs.length) (by omega), hd]
    generalize xs[i] = x
    simp only [Option.bind_some, Int.toNat_natCast, set_at _ _ _ _ _ hr, rdP_at _ _ _ _ hr]
    rw [w1 _ (by omega) (by omega), w1 _ (by omega) (by omega), w1 _ (by omega) (by omega), w1 _ (by omega) (by omega), w1 _ (by omega) (by omega)]
    have ih := markP_loop xs m h0 h1 hl K n (i + 1) (by omega)
    rw [rampP, List.append_assoc] at ih
    have e : ∀ j : Int, j = m + 5 * ((i + 1 : Nat) : Int) → laws_markPageS.l0 (K + n + 1) (rampP m i ++ (rampPg (m + 5 * (i : Int)) :: xs.drop (i + 1))) j ((i + 1 : Nat) : Int) = some (m + 5 * (xs.length : Int), rampP m xs.length) := fun j hj => by rw [hj]; exact ih
    have e2 : ∀ q : S51, q = rampPg (m + 5 * (i : Int)) → ∀ j : Int, j = m + 5 * ((i + 1 : Nat) : Int) → laws_markPageS.l0 (K + n + 1) (rampP m i ++ (q :: xs.drop (i + 1))) j ((i + 1 : Nat) : Int) = some (m + 5 * (xs.length : Int), rampP m xs.length) := fun q hq => by rw [hq]; exact e
    exact e2 _ (by unfold rampPg; simp only [Int.add_assoc]; rfl) _ (by omega)
theorem markP_ok (xs : List S51) (m : Int) (h0 : 0 ≤ m) (h1 : m ≤ 8000000000000000000) (hl : xs.length ≤ 1048576) (k : Nat) (hk : xs.length < k) : laws_markPageS.f k xs m = some (m + 5 * (xs.length : Int), rampP m xs.length) := by
  have := markP_loop xs m h0 h1 hl (k - xs.length - 1) xs.length 0 (by omega)
  rw [show k - xs.length - 1 + xs.length + 1 = k by omega] at this
  simpa [rampP, laws_markPageS.f] using this
theorem rd_rampP (m : Int) : ∀ (n i : Nat), i < n → rd_T51 (rampP m n) (i : Int) = rampPg (m + 5 * (i : Int))
  | n + 1, i, h => by
    rw [rampP]
    by_cases e : i = n
    · subst e
      exact rdP_at _ _ _ _ (rampP_len m i)
    · have ih := rd_rampP m n i (by omega)
      rw [← ih]
      unfold rd_T51
      rw [Int.toNat_natCast, List.getD_eq_getElem?_getD, List.getD_eq_getElem?_getD, List.getElem?_append_left (by rw [rampP_len]; omega)]
theorem heldP_loop (m : Int) (h0 : 0 ≤ m) (h1 : m ≤ 8000000000000000000) (N : Nat) (hl : N ≤ 1048576) (K : Nat) : ∀ (n i : Nat), i + n = N → laws_heldPageS.l0 (K + n + 1) (rampP m N) (m + 5 * (i : Int)) i = some (m + 5 * (N : Int))
  | 0, i, h => by rw [laws_heldPageS.l0, if_neg (by rw [rampP_len]; omega), show i = N by omega]
  | n + 1, i, h => by
    have w1 : ∀ q : Int, 0 ≤ q → q ≤ 9000000000000000000 → wrap64 (q + 1) = q + 1 := fun q _ _ => wrap64_in _ (by omega)
    have ih := heldP_loop m h0 h1 N hl K n (i + 1) (by omega)
    rw [laws_heldPageS.l0, if_pos (by rw [rampP_len]; omega), if_pos (by omega), rd_rampP m N i (by omega), w64_up (by omega : i < N) (by omega)]
    rw [w1 _ (by omega) (by omega), w1 _ (by omega) (by omega), w1 _ (by omega) (by omega), w1 _ (by omega) (by omega), w1 _ (by omega) (by omega)]
    obtain ⟨q0, q1, q2, q3, q4⟩ := rampPg_f (m + 5 * (i : Int))
    rw [if_pos q0, if_pos q1, if_pos q2, if_pos q3, if_pos q4, show K + (n + 1) = K + n + 1 by omega]
    rw [show m + 5 * (i : Int) + 1 + 1 + 1 + 1 + 1 = m + 5 * ((i + 1 : Nat) : Int) by omega]
    exact ih
theorem heldP_ok (m : Int) (h0 : 0 ≤ m) (h1 : m ≤ 8000000000000000000) (N : Nat) (hl : N ≤ 1048576) (k : Nat) (hk : N < k) : laws_heldPageS.f k (rampP m N) m = some (m + 5 * (N : Int)) := by
  have := heldP_loop m h0 h1 N hl (k - N - 1) N 0 (by omega)
  rw [show k - N - 1 + N + 1 = k by omega] at this
  simpa [laws_heldPageS.f] using this
def rampB : Int → List S45 → List S45
  | _, [] => []
  | m, b :: bs => ⟨rampP m b.f0.length, m + 5 * (b.f0.length : Int)⟩ :: rampB (m + 5 * (b.f0.length : Int) + 1) bs
def endB : Int → List S45 → Int
  | m, [] => m
  | m, b :: bs => endB (m + 5 * (b.f0.length : Int) + 1) bs
theorem rampB_len : ∀ (m : Int) (bs : List S45), (rampB m bs).length = bs.length
  | _, [] => rfl
  | m, b :: bs => by rw [rampB, List.length_cons, List.length_cons, rampB_len _ bs]
theorem endB_ge : ∀ (m : Int) (bs : List S45), m ≤ endB m bs
  | _, [] => Int.le_refl _
  | m, b :: bs => by
    have := endB_ge (m + 5 * (b.f0.length : Int) + 1) bs
    rw [endB]
    omega
theorem markB_loop (K : Nat) (hK : 1048576 < K) : ∀ (bs pre : List S45) (m : Int) (i : Nat), pre.length = i → 0 ≤ m → m + 5242881 * (bs.length : Int) ≤ 8000000000000000000 → i + bs.length ≤ 1048576 → (∀ b ∈ bs, b.f0.length ≤ 1048576) →
    laws_markBlockS.l0 (K + bs.length + 1) (pre ++ bs) m i = some (endB m bs, pre ++ rampB m bs)
  | [], pre, m, i, hi, _, _, _, _ => by
    rw [laws_markBlockS.l0, if_neg (by rw [List.append_nil, hi]; omega), endB, rampB]
  | b :: bs, pre, m, i, hi, h0, h1, h2, hp => by
    have hb := hp b (List.mem_cons_self ..)
    rw [List.length_cons] at h1 h2
    have ih := markB_loop K hK bs (pre ++ [⟨rampP m b.f0.length, m + 5 * (b.f0.length : Int)⟩]) (m + 5 * (b.f0.length : Int) + 1) (i + 1) (by rw [List.length_append, hi]; rfl) (by omega) (by omega) (by omega) (fun c hc => hp c (List.mem_cons_of_mem _ hc))
    rw [List.length_cons, laws_markBlockS.l0, if_pos (by rw [List.length_append, List.length_cons, hi]; omega), if_pos (by omega), rdB_at pre b bs i hi, markP_ok b.f0 m h0 (by omega) hb _ (by omega), Option.bind_some, Int.toNat_natCast, set_at pre _ _ bs i hi, wrap64_in _ (by omega), wrap64_in _ (by omega), endB, rampB]
    rw [List.append_assoc, List.append_assoc] at ih
    exact ih
theorem heldB_loop (K : Nat) (hK : 1048576 < K) : ∀ (bs pre : List S45) (m : Int) (i : Nat), pre.length = i → 0 ≤ m → m + 5242881 * (bs.length : Int) ≤ 8000000000000000000 → i + bs.length ≤ 1048576 → (∀ b ∈ bs, b.f0.length ≤ 1048576) →
    laws_heldBlockS.l0 (K + bs.length + 1) (pre ++ rampB m bs) m i = some (endB m bs)
  | [], pre, m, i, hi, _, _, _, _ => by
    rw [laws_heldBlockS.l0, rampB, if_neg (by rw [List.append_nil, hi]; omega), endB]
  | b :: bs, pre, m, i, hi, h0, h1, h2, hp => by
    have hb := hp b (List.mem_cons_self ..)
    rw [List.length_cons] at h1 h2
    have ih := heldB_loop K hK bs (pre ++ [⟨rampP m b.f0.length, m + 5 * (b.f0.length : Int)⟩]) (m + 5 * (b.f0.length : Int) + 1) (i + 1) (by rw [List.length_append, hi]; rfl) (by omega) (by omega) (by omega) (fun c hc => hp c (List.mem_cons_of_mem _ hc))
    rw [rampB, List.length_cons, laws_heldBlockS.l0, if_pos (by rw [List.length_append, List.length_cons, rampB_len, hi]; omega), if_pos (by omega), rdB_at pre _ _ i hi]
    show ((laws_heldPageS.f _ (rampP m b.f0.length) m).bind _) = _
    rw [heldP_ok m h0 (by omega) b.f0.length hb _ (by omega), Option.bind_some, if_neg (by omega), if_pos rfl, wrap64_in _ (by omega), wrap64_in _ (by omega), endB]
    rw [List.append_assoc] at ih
    exact ih
theorem mem_rd {xs : List S45} {n : Nat} (hp : ∀ j : Nat, j < xs.length → (rd_T45 xs (j : Int)).f0.length ≤ n) : ∀ b ∈ xs, b.f0.length ≤ n := fun b hb => by
  obtain ⟨j, hj, rfl⟩ := List.mem_iff_getElem.1 hb
  have := hp j hj
  simpa [rd_T45, List.getD_eq_getElem?_getD, hj] using this
theorem marks_ok (xs : List S45) (hl : xs.length ≤ 1048576) (hp : ∀ j : Nat, j < xs.length → (rd_T45 xs (j : Int)).f0.length ≤ 1048576) (k : Nat) (hk : xs.length + 1048578 ≤ k) :
    laws_markBlockS.f k xs 1 = some (endB 1 xs, rampB 1 xs) ∧ laws_heldBlockS.f k (rampB 1 xs) 1 = some (endB 1 xs) ∧ 1 ≤ endB 1 xs := by
  have h1 := markB_loop (k - xs.length - 1) (by omega) xs [] 1 0 rfl (by omega) (by omega) (by omega) (mem_rd hp)
  have h2 := heldB_loop (k - xs.length - 1) (by omega) xs [] 1 0 rfl (by omega) (by omega) (by omega) (mem_rd hp)
  rw [show k - xs.length - 1 + xs.length + 1 = k by omega] at h1 h2
  exact ⟨h1, h2, endB_ge 1 xs⟩
/-! ### the whole -/
theorem outFW_small {l : List S45} (hf : flashOkB l = true) {b n : Int} (hb : 0 ≤ b ∧ b < 4) (u : Bool) (p : S51) : (outFW l b n u p).length = 4 ∧ ∀ x ∈ outFW l b n u p, x.f0.length = 4 := by
  have hl := flash_len hf
  have h4 : ∀ x ∈ l, x.f0.length = 4 := fun x hx => by
    obtain ⟨j, hj, rfl⟩ := List.mem_iff_getElem.1 hx
    have := (flash_block hf j (by omega)).1
    simpa [rd_T45, List.getD_eq_getElem?_getD, hj] using this
  unfold outFW
  split
  · unfold listFW
    refine ⟨by rw [List.length_set]; exact hl, fun x hx => ?_⟩
    rcases List.mem_or_eq_of_mem_set hx with h | rfl
    · exact h4 x h
    · rw [List.length_set]
      exact pages_at hf hb
  · exact ⟨hl, h4⟩
theorem fwV_small (l : List S45) (b r0 r1 r2 r3 : Int) (tn : Bool) : (fwV l b r0 r1 r2 r3 tn).length ≤ 4 ∧ ∀ j : Nat, j < (fwV l b r0 r1 r2 r3 tn).length → (rd_T45 (fwV l b r0 r1 r2 r3 tn) (j : Int)).f0.length ≤ 1048576 := by
  unfold fwV
  split
  · rename_i hg
    obtain ⟨h1, h2⟩ := outFW_small hg.1 (n := fwN l b) hg.2.1 (usedN l r1) (pageFW r0 r1 r2 r3 tn)
    refine ⟨by omega, fun j hj => ?_⟩
    have h3 := h2 _ (List.getElem_mem hj)
    have e : rd_T45 (outFW l b (fwN l b) (usedN l r1) (pageFW r0 r1 r2 r3 tn)) (j : Int) = (outFW l b (fwN l b) (usedN l r1) (pageFW r0 r1 r2 r3 tn))[j] := by simp [rd_T45, List.getD_eq_getElem?_getD, hj]
    rw [e, h3]
    decide
  · exact ⟨Nat.zero_le _, fun j hj => by cases hj⟩
theorem implFW_any (A0 : Option Addr) (c0 : Nat) (l0 : List S45) (b r0 r1 r2 r3 : Int) (tn : Bool) (w : World) (hr0 : Kd.C k45 w A0 l0.length l0) (hc0 : l0.length ≤ c0) :
    Calls Try.prog 8 #[.slice A0 l0.length c0, .int .i64 b, .agg #[.int .i64 r0, .int .i64 r1, .int .i64 r2, .int .i64 r3], .bool tn] w fun e w' => ∃ v, e = .returned (.tuple #[v, .bool (fwB l0 b r0 r1 r2 r3)]) ∧ Kd.S kb_ 45 w' w.heap.size (fun k => w.heap.size ≤ k) v (fwV l0 b r0 r1 r2 r3 tn) ∧ Below w.heap.size w w' := by
  unfold fwB fwV
  by_cases hg : FwG l0 b r0 r1 r2 r3
  · rw [if_pos hg, if_pos hg]
    have hl := flash_len hg.1
    have hp := pages_at hg.1 hg.2.1
    have hall : ∀ x ∈ l0, x.f0.length = 4 := fun x hx => by
      obtain ⟨j, hj, rfl⟩ := List.mem_iff_getElem.1 hx
      have := (flash_block hg.1 j (by omega)).1
      simpa [rd_T45, List.getD_eq_getElem?_getD, hj] using this
    exact impl_FlashWrite.good 100 A0 c0 l0 b r0 r1 r2 r3 (fwN l0 b) tn (usedN l0 r1) w hr0 hc0 hg.1 hl hall hg.2.1 hg.2.2 hp (freePages_ok _ _ (by omega) _ (by omega)) (fwN_le hp) (implSeq_ok hg.1 r1 100 (by decide))
  · rw [if_neg hg, if_neg hg]
    refine (impl_FlashWrite.bad A0 c0 l0 b r0 r1 r2 r3 tn w hr0 hc0 hg).mono ?_
    rintro e w' ⟨rfl, hb⟩
    exact ⟨_, rfl, Kd.S_nil _ _ _ _ _, hb⟩
end Go.Proofs.Ytfamgmnlflgblaa.Pure
