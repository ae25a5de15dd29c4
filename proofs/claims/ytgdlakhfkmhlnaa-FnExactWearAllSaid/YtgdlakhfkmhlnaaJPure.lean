/- The plain law. -/
import Derived.Test.YtgdlakhfkmhlnaaPa0
import Derived.Test.YtgdlakhfkmhlnaaPa1
import Derived.Test.YtgdlakhfkmhlnaaPa2
import Derived.Test.YtgdlakhfkmhlnaaPa3
import Derived.Test.YtgdlakhfkmhlnaaPa4
import Derived.Test.YtgdlakhfkmhlnaaPa5
import Derived.IntWalk
import Derived.Laws.BitsLemmas
set_option linter.unusedVariables false
set_option linter.unusedSimpArgs false
set_option linter.unusedSectionVars false
/- WearAll, in plain Lean: the law's copies of blocks are alike; on a good flash the answer of the program's own text is the sum of four. -/
namespace Go.Proofs.Ytgdlakhfkmhlnaa.Pure
open Go.RowKit Go.IntWalk Go.Proofs.Ytgdlakhfkmhlnaa.Pa Go.Proofs.YtgdlakhfkmhlnaaW.PrintWords Go.Proofs.YtgdlakhfkmhlnaaW.PrintLast
/-! ### the law's copies of blocks -/
def Fits (l : List S32) : Prop := l.length ≤ 9223372036854775807 ∧ ∀ i : Nat, i < l.length → (rd_T32 l (i : Int)).f0.length ≤ 9223372036854775807
theorem fits_of {w : World} {A : Option Addr} {l : List S32} (h : Kd.C k32 w A l.length l) : Fits l := ⟨Kd.C_max h, fun i hi => by
  obtain ⟨_, _, _, _, _, _, _, h5⟩ := at_T32 h (i : Int) (by omega) (by omega)
  exact Kd.C_max h5⟩
def cPage (p : S71) : S49 := ⟨p.f0, ⟨p.f1.f0, p.f1.f1, p.f1.f2, p.f1.f3⟩⟩
def cBlock (b : S32) : S36 := ⟨b.f0.map cPage, b.f1⟩
theorem w64_up {i n : Nat} (h : i < n) (hn : n ≤ 9223372036854775807) : wrap64 ((i : Int) + 1) = ((i + 1 : Nat) : Int) := by
  rw [wrap64_in _ (by omega)]
  omega
theorem szPageS_ok (l : List S71) (a : Int) (hl : l.length ≤ 9223372036854775807) (h0 : 0 ≤ a) (h1 : a ≤ 1048576) :
    ∃ v, laws_szPageS.f l a = some v ∧ v ≤ a ∧ (0 ≤ v → l.length ≤ 1048576) := by
  unfold laws_szPageS.f
  rw [wrap64_in _ (by omega)]
  by_cases h : a - (l.length : Int) < 0
  · rw [if_pos h]
    exact ⟨_, rfl, by omega, fun hv => by omega⟩
  · rw [if_neg h]
    exact ⟨_, rfl, by omega, fun hv => by omega⟩
theorem szBlock_ok (l : List S71) (b a : Int) (hl : l.length ≤ 9223372036854775807) (h0 : 0 ≤ a) (h1 : a ≤ 1048576) :
    ∃ v, laws_szBlock.f l b a = some v ∧ v ≤ a ∧ (0 ≤ v → l.length ≤ 1048576) := by
  obtain ⟨v, hv, h2, h3⟩ := szPageS_ok l a hl h0 h1
  unfold laws_szBlock.f
  rw [hv, Option.bind_some]
  by_cases h : v < 0
  · rw [if_pos h]
    exact ⟨_, rfl, by omega, fun h => by omega⟩
  · rw [if_neg h]
    exact ⟨_, rfl, h2, h3⟩
theorem szLoop (l : List S32) (hl : Fits l) (K : Nat) : ∀ (n i : Nat) (a : Int), i + n = l.length → 0 ≤ a → a ≤ 1048576 →
    ∃ v, laws_szBlockS.l0 (K + n + 1) l a i = some v ∧ v ≤ a ∧ (0 ≤ v → ∀ j, i ≤ j → j < l.length → (rd_T32 l (j : Int)).f0.length ≤ 1048576)
  | 0, i, a, h, h0, h1 => by
    rw [laws_szBlockS.l0, if_neg (by omega)]
    exact ⟨_, rfl, by omega, fun _ j h2 h3 => by omega⟩
  | n + 1, i, a, h, h0, h1 => by
    obtain ⟨v, hv, h2, h3⟩ := szBlock_ok (rd_T32 l (i : Int)).f0 (rd_T32 l (i : Int)).f1 a (hl.2 i (by omega)) h0 h1
    rw [laws_szBlockS.l0, if_pos (by omega), if_pos (by omega), hv, Option.bind_some, w64_up (by omega : i < l.length) hl.1]
    by_cases hv0 : v < 0
    · rw [if_pos hv0]
      exact ⟨_, rfl, by omega, fun h => by omega⟩
    · rw [if_neg hv0]
      obtain ⟨u, hu, h4, h5⟩ := szLoop l hl K n (i + 1) v (by omega) (by omega) (by omega)
      refine ⟨u, hu, by omega, fun hu0 j hj hj2 => ?_⟩
      by_cases e : j = i
      · subst e
        exact h3 (by omega)
      · exact h5 hu0 j (by omega) hj2
theorem szBlockS_ok (l : List S32) (hl : Fits l) (k : Nat) (hk : l.length < k) :
    ∃ v, laws_szBlockS.f k l 1048576 = some v ∧ (0 ≤ v → l.length ≤ 1048576 ∧ ∀ j, j < l.length → (rd_T32 l (j : Int)).f0.length ≤ 1048576) := by
  unfold laws_szBlockS.f
  have := hl.1
  rw [wrap64_in _ (by omega)]
  by_cases h : (1048576 : Int) - (l.length : Int) < 0
  · rw [if_pos h]
    exact ⟨_, rfl, fun h => by omega⟩
  · rw [if_neg h]
    obtain ⟨v, hv, _, h2⟩ := szLoop l hl (k - l.length - 1) l.length 0 ((1048576 : Int) - (l.length : Int)) (by omega) (by omega) (by omega)
    rw [show k - l.length - 1 + l.length + 1 = k by omega] at hv
    exact ⟨v, hv, fun h0 => ⟨by omega, fun j hj => h2 h0 j (Nat.zero_le _) hj⟩⟩
theorem fill_step {α : Type} (xs : List α) (m : Nat) (z v : α) (i : Nat) (hi : xs.length = i) : (xs ++ List.replicate (m + 1) z).set i v = (xs ++ [v]) ++ List.replicate m z := by
  subst hi
  rw [List.set_append_right _ _ (Nat.le_refl _), Nat.sub_self, List.replicate_succ, List.set_cons_zero, List.append_assoc]
  rfl
theorem take_up_T71 {l : List S71} {i : Nat} (h : i < l.length) : l.take (i + 1) = l.take i ++ [rd_T71 l (i : Int)] := by
  rw [List.take_succ_eq_append_getElem h]
  simp [rd_T71, List.getD_eq_getElem?_getD, h]
theorem take_up_T32 {l : List S32} {i : Nat} (h : i < l.length) : l.take (i + 1) = l.take i ++ [rd_T32 l (i : Int)] := by
  rw [List.take_succ_eq_append_getElem h]
  simp [rd_T32, List.getD_eq_getElem?_getD, h]
theorem toPage_loop (l : List S71) (hl : l.length ≤ 9223372036854775807) (K : Nat) : ∀ (n i : Nat), i + n = l.length →
    laws_toPageS.l0 (K + n + 1) l ((l.take i).map cPage ++ List.replicate n z49) i = some (l.map cPage)
  | 0, i, h => by
    rw [laws_toPageS.l0, if_neg (by omega), List.take_of_length_le (by omega), List.replicate_zero, List.append_nil]
  | n + 1, i, h => by
    have hlen : ((l.take i).map cPage).length = i := by rw [List.length_map, List.length_take]; omega
    rw [laws_toPageS.l0, if_pos (by omega), if_pos (by omega), w64_up (by omega : i < l.length) hl]
    unfold laws_toPage.f laws_toRec.f
    rw [Option.bind_some, Option.bind_some, if_pos (by rw [List.length_append, hlen, List.length_replicate]; omega), Int.toNat_natCast, fill_step _ _ _ _ _ hlen]
    have ih := toPage_loop l hl K n (i + 1) (by omega)
    rw [take_up_T71 (by omega), List.map_append] at ih
    exact ih
theorem toPageS_ok (l : List S71) (hl : l.length ≤ 1048576) (k : Nat) (hk : l.length < k) : laws_toPageS.f k l = some (l.map cPage) := by
  unfold laws_toPageS.f
  rw [if_pos (by omega), Int.toNat_natCast, if_pos (by omega)]
  have := toPage_loop l (by omega) (k - l.length - 1) l.length 0 (by omega)
  rw [show k - l.length - 1 + l.length + 1 = k by omega] at this
  exact this
theorem toBlock_loop (l : List S32) (hl : l.length ≤ 1048576) (hp : ∀ j : Nat, j < l.length → (rd_T32 l (j : Int)).f0.length ≤ 1048576) (K : Nat) (hK : 1048576 < K) : ∀ (n i : Nat), i + n = l.length →
    laws_toBlockS.l0 (K + n + 1) l ((l.take i).map cBlock ++ List.replicate n z36) i = some (l.map cBlock)
  | 0, i, h => by
    rw [laws_toBlockS.l0, if_neg (by omega), List.take_of_length_le (by omega), List.replicate_zero, List.append_nil]
  | n + 1, i, h => by
    have hlen : ((l.take i).map cBlock).length = i := by rw [List.length_map, List.length_take]; omega
    rw [laws_toBlockS.l0, if_pos (by omega), if_pos (by omega), w64_up (by omega : i < l.length) (by omega)]
    unfold laws_toBlock.f
    rw [toPageS_ok _ (hp i (by omega)) _ (by have := hp i (by omega); omega), Option.bind_some, Option.bind_some, if_pos (by rw [List.length_append, hlen, List.length_replicate]; omega), Int.toNat_natCast, fill_step _ _ _ _ _ hlen]
    have ih := toBlock_loop l hl hp K hK n (i + 1) (by omega)
    rw [take_up_T32 (by omega), List.map_append] at ih
    exact ih
theorem toBlockS_ok (l : List S32) (hl : l.length ≤ 1048576) (hp : ∀ j : Nat, j < l.length → (rd_T32 l (j : Int)).f0.length ≤ 1048576) (k : Nat) (hk : l.length + 1048578 ≤ k) : laws_toBlockS.f k l = some (l.map cBlock) := by
  unfold laws_toBlockS.f
  rw [if_pos (by omega), Int.toNat_natCast, if_pos (by omega)]
  have := toBlock_loop l hl hp (k - l.length - 1) (by omega) l.length 0 (by omega)
  rw [show k - l.length - 1 + l.length + 1 = k by omega] at this
  exact this
theorem eqPage_loop (l : List S49) (hl : l.length ≤ 9223372036854775807) (K : Nat) : ∀ (n i : Nat), i + n = l.length → laws_eqPageS.l0 (K + n + 1) l l i = some true
  | 0, i, h => by rw [laws_eqPageS.l0, if_neg (by omega)]
  | n + 1, i, h => by
    rw [laws_eqPageS.l0, if_pos (by omega), if_pos (by omega), if_pos (by omega), w64_up (by omega : i < l.length) hl]
    unfold laws_eqPage.f laws_eqRec.f
    rw [if_pos rfl, if_pos rfl, if_pos rfl, if_pos rfl, if_pos rfl, Option.bind_some, if_pos rfl, Option.bind_some, if_pos rfl]
    exact eqPage_loop l hl K n (i + 1) (by omega)
theorem eqPageS_ok (l : List S49) (hl : l.length ≤ 1048576) (k : Nat) (hk : l.length < k) : laws_eqPageS.f k l l = some true := by
  unfold laws_eqPageS.f
  rw [if_pos rfl]
  have := eqPage_loop l (by omega) (k - l.length - 1) l.length 0 (by omega)
  rw [show k - l.length - 1 + l.length + 1 = k by omega] at this
  exact this
theorem eqBlock_loop (l : List S36) (hl : l.length ≤ 9223372036854775807) (hp : ∀ j : Nat, j < l.length → (rd_T36 l (j : Int)).f0.length ≤ 1048576) (K : Nat) (hK : 1048576 < K) : ∀ (n i : Nat), i + n = l.length → laws_eqBlockS.l0 (K + n + 1) l l i = some true
  | 0, i, h => by rw [laws_eqBlockS.l0, if_neg (by omega)]
  | n + 1, i, h => by
    rw [laws_eqBlockS.l0, if_pos (by omega), if_pos (by omega), if_pos (by omega), w64_up (by omega : i < l.length) hl]
    unfold laws_eqBlock.f
    rw [eqPageS_ok _ (hp i (by omega)) _ (by have := hp i (by omega); omega), Option.bind_some, if_pos rfl, if_pos rfl, Option.bind_some, if_pos rfl]
    exact eqBlock_loop l hl hp K hK n (i + 1) (by omega)
theorem eqBlockS_ok (l : List S36) (hl : l.length ≤ 1048576) (hp : ∀ j : Nat, j < l.length → (rd_T36 l (j : Int)).f0.length ≤ 1048576) (k : Nat) (hk : l.length + 1048578 ≤ k) : laws_eqBlockS.f k l l = some true := by
  unfold laws_eqBlockS.f
  rw [if_pos rfl]
  have := eqBlock_loop l (by omega) hp (k - l.length - 1) (by omega) l.length 0 (by omega)
  rw [show k - l.length - 1 + l.length + 1 = k by omega] at this
  exact this
theorem rd_cBlock (l : List S32) (j : Nat) (hj : j < l.length) : rd_T36 (l.map cBlock) (j : Int) = cBlock (rd_T32 l (j : Int)) := by
  simp [rd_T36, rd_T32, List.getD_eq_getElem?_getD, hj]
theorem cPages_len (l : List S32) (hp : ∀ j : Nat, j < l.length → (rd_T32 l (j : Int)).f0.length ≤ 1048576) : ∀ j : Nat, j < (l.map cBlock).length → (rd_T36 (l.map cBlock) (j : Int)).f0.length ≤ 1048576 := fun j hj => by
  rw [List.length_map] at hj
  rw [rd_cBlock l j hj]
  simpa [cBlock] using hp j hj
/-- What the law has of a list that is not too long. -/
theorem copies_ok (l : List S32) (hl : Fits l) : ∃ v, laws_szBlockS.f (l.length + 1048578) l 1048576 = some v ∧ (¬ v < 0 →
    laws_toBlockS.f (l.length + 1048578) l = some (l.map cBlock) ∧ laws_eqBlockS.f (l.length + 1048578) (l.map cBlock) (l.map cBlock) = some true) := by
  obtain ⟨v, hv, hs⟩ := szBlockS_ok l hl (l.length + 1048578) (by omega)
  refine ⟨v, hv, fun h => ?_⟩
  obtain ⟨h1, h2⟩ := hs (by omega)
  exact ⟨toBlockS_ok l h1 h2 _ (Nat.le_refl _), eqBlockS_ok _ (by rw [List.length_map]; exact h1) (cPages_len l h2) _ (by rw [List.length_map]; exact Nat.le_refl _)⟩
/-- The same with any number of rounds that is great enough, and one round less. -/
theorem copies_ok_at (l : List S32) (hl : Fits l) (k : Nat) (hk : l.length + 1048579 ≤ k) : ∃ v, laws_szBlockS.f k l 1048576 = some v ∧ (¬ v < 0 →
    laws_toBlockS.f k l = some (l.map cBlock) ∧ laws_toBlockS.f (k - 1) l = some (l.map cBlock) ∧ laws_eqBlockS.f (k - 1) (l.map cBlock) (l.map cBlock) = some true) := by
  obtain ⟨v, hv, hs⟩ := szBlockS_ok l hl k (by omega)
  refine ⟨v, hv, fun h => ?_⟩
  obtain ⟨h1, h2⟩ := hs (by omega)
  exact ⟨toBlockS_ok l h1 h2 _ (by omega), toBlockS_ok l h1 h2 _ (by omega), eqBlockS_ok _ (by rw [List.length_map]; exact h1) (cPages_len l h2) _ (by rw [List.length_map]; omega)⟩
theorem flash4 (r : List S36) (h : flashOkB r = true) : ∃ a b c d, r = [a, b, c, d] ∧ a.f0.length = 4 ∧ b.f0.length = 4 ∧ c.f0.length = 4 ∧ d.f0.length = 4 := by
  unfold flashOkB at h
  simp only [Bool.and_eq_true, decide_eq_true_eq] at h
  obtain ⟨h4, hb⟩ := h
  match r, h4, hb with
  | [a, b, c, d], _, hb =>
    refine ⟨a, b, c, d, rfl, ?_⟩
    have one : ∀ (x : S36) (xs : List S36) (S : List Int), blocksB (x :: xs) S = true → x.f0.length = 4 ∧ ∃ S', blocksB xs S' = true := by
      intro x xs S hx
      simp only [blocksB, Bool.and_eq_true] at hx
      obtain ⟨h1, h2⟩ := hx
      simp only [blockB, Bool.and_eq_true, decide_eq_true_eq] at h1
      refine ⟨by omega, ?_⟩
      split at h2
      · cases h2
      · exact ⟨_, h2⟩
    obtain ⟨g1, S1, k1⟩ := one _ _ _ hb
    obtain ⟨g2, S2, k2⟩ := one _ _ _ k1
    obtain ⟨g3, S3, k3⟩ := one _ _ _ k2
    obtain ⟨g4, _⟩ := one _ _ _ k3
    exact ⟨g1, g2, g3, g4⟩
  | [], h4, _ => simp at h4
  | [_], h4, _ => simp at h4
  | [_, _], h4, _ => simp at h4
  | [_, _, _], h4, _ => simp at h4
  | _ :: _ :: _ :: _ :: _ :: _, h4, _ => simp only [List.length_cons] at h4; omega
theorem wear4 (k : Nat) (hk : 8 ≤ k) (a b c d : S36) : spec_WearAll.l0 k [a, b, c, d] 0 0 = some (wrap64 (wrap64 (wrap64 (wrap64 (0 + a.f1) + b.f1) + c.f1) + d.f1)) := by
  obtain ⟨n, rfl⟩ : ∃ n, k = n + 5 := ⟨k - 5, by omega⟩
  have e1 : wrap64 (0 + 1) = 1 := by rw [wrap64_in _ (by omega)]; rfl
  have e2 : wrap64 (1 + 1) = 2 := by rw [wrap64_in _ (by omega)]; rfl
  have e3 : wrap64 (2 + 1) = 3 := by rw [wrap64_in _ (by omega)]; rfl
  have e4 : wrap64 (3 + 1) = 4 := by rw [wrap64_in _ (by omega)]; rfl
  simp only [spec_WearAll.l0, List.length_cons, List.length_nil, e1, e2, e3, e4]
  simp [rd_T36]
theorem FnExactWearAll (l : List S32) (hl : Fits l) : ∃ k left, laws_szBlockS.f k l 1048576 = some left ∧
    (0 ≤ left → ∃ (r : List S36) (sw : Int) (fl : Bool), laws_toBlockS.f k l = some r ∧ spec_WearAll.f k r = some sw ∧ impl_FlashOk.f r = some fl ∧ laws_eqBlockS.f k r r = some true ∧ (fl = false → sw = -1) ∧ (fl = true → r.length = 4)) ∧
    (∀ (r : List S36) (sw : Int), spec_WearAll.f k r = some sw → impl_FlashOk.f r = some true → (∀ i, i < 4 → (r.getD i z36).f0.length = 4) ∧
      IntKind.i64.wrap (IntKind.i64.wrap (IntKind.i64.wrap (IntKind.i64.wrap (0 + (r.getD 0 z36).f1) + (r.getD 1 z36).f1) + (r.getD 2 z36).f1) + (r.getD 3 z36).f1) = sw) := by
  obtain ⟨v, hv, hs⟩ := copies_ok l hl
  refine ⟨l.length + 1048578, v, hv, fun h => ?_, fun r sw h1 h2 => ?_⟩
  · obtain ⟨ht, he⟩ := hs (by omega)
    cases hf : flashOkB (l.map cBlock) with
    | false => exact ⟨l.map cBlock, -1, false, ht, by simp [spec_WearAll.f, spec_FlashOk.f, hf], by simp [impl_FlashOk.f, hf], he, fun _ => rfl, fun h => by cases h⟩
    | true =>
      obtain ⟨a, b, c, d, hr, _⟩ := flash4 _ hf
      refine ⟨l.map cBlock, wrap64 (wrap64 (wrap64 (wrap64 (0 + a.f1) + b.f1) + c.f1) + d.f1), true, ht, ?_, by simp [impl_FlashOk.f, hf], he, fun h => (by cases h), fun _ => by rw [hr]; rfl⟩
      simp only [spec_WearAll.f, spec_FlashOk.f, hf, Option.bind_some, if_true]
      rw [hr]
      exact wear4 _ (by omega) a b c d
  · have hf : flashOkB r = true := by simpa [impl_FlashOk.f] using h2
    obtain ⟨a, b, c, d, rfl, g1, g2, g3, g4⟩ := flash4 r hf
    refine ⟨fun i hi => ?_, ?_⟩
    · match i, hi with
      | 0, _ => exact g1
      | 1, _ => exact g2
      | 2, _ => exact g3
      | 3, _ => exact g4
    · simp only [spec_WearAll.f, spec_FlashOk.f, hf, Option.bind_some, if_true] at h1
      rw [wear4 _ (by omega) a b c d] at h1
      have hw : ∀ x, IntKind.i64.wrap x = wrap64 x := fun x => by rw [IntKind.wrap_i64]; unfold wrap64; rfl
      simp only [hw]
      have h3 := Option.some.inj h1
      exact h3
end Go.Proofs.Ytgdlakhfkmhlnaa.Pure
