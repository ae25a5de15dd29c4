import Derived.Test.YtddagnomnamfdaaDoorRecText
namespace Go.Proofs.YtddagnomnamfdaaDoor.Ta
open Go.RowKit Go.Proofs.YtddagnomnamfdaaDoorW.PrintWords Go.Proofs.YtddagnomnamfdaaDoorW.PrintLast Go.Proofs.YtddagnomnamfdaaDoorW.PrintMore
theorem wrap64_id (x : Int) (h0 : -9223372036854775808 ≤ x) (h1 : x ≤ 9223372036854775807) : wrap64 x = x := by unfold wrap64; omega
theorem l6In_eq (a b c : Int) : spec_l6In.f a b c = some (decide (b ≤ a ∧ a ≤ c)) := by
  unfold spec_l6In.f
  by_cases h : a ≥ b
  · rw [if_pos h]
    exact congrArg some (decide_eq_decide.2 ⟨fun h2 => ⟨h, h2⟩, fun h2 => h2.2⟩)
  · rw [if_neg h]
    exact congrArg some (decide_eq_false (fun h2 => h h2.1)).symm
theorem specRecOk_eq (a b c d : Int) : spec_RecOk.f a b c d = some (recOkB a b c d) := by
  unfold spec_RecOk.f recOkB
  simp only [l6In_eq, Option.bind_some]
  repeat' split
  all_goals simp_all
  all_goals omega

theorem dec_len (u : Nat) (h : u < 9223372036854775808) : (Lib.decDigits u).length ≤ 21 := by
  have h2 := Lib.itoa_length_le (u : Int) (by omega) (by omega)
  unfold Lib.itoa at h2
  rw [if_neg (by omega)] at h2
  simpa using h2
theorem one_fig (n : Int) (h0 : 0 ≤ n) (h1 : n < 10) : strOfNums [(wrap64 (48 + n)) % 256] = ⟨#[UInt8.ofNat (48 + n.toNat)]⟩ := by
  unfold strOfNums
  rw [show wrap64 (48 + n) = 48 + n from wrap64_id _ (by omega) (by omega)]
  have e : ((48 + n) % 256).toNat = 48 + n.toNat := by omega
  simp only [List.map_cons, List.map_nil, e]
/-- The reference's figures are the library's. -/
theorem dec_ok : ∀ (k u : Nat), u < 10 ^ (k + 1) → u < 9223372036854775808 → spec_l6Dec.f (k + 1) (u : Int) = some ⟨(Lib.decDigits u).toArray⟩
  | k, u, hu, hb => by
    rw [spec_l6Dec.f, if_neg (by omega), if_neg (by omega)]
    by_cases h : u < 10
    · rw [if_pos (by omega), one_fig _ (by omega) (by omega), Lib.decDigits.eq_def u, dif_pos h]
      simp
    · rw [if_neg (by omega)]
      obtain ⟨k, rfl⟩ : ∃ m, k = m + 1 := ⟨k - 1, by rcases k with _ | k <;> omega⟩
      have hd : wrap64 (Int.tdiv (u : Int) 10) = ((u / 10 : Nat) : Int) := by
        rw [Int.tdiv_eq_ediv_of_nonneg (by omega), wrap64_id _ (by omega) (by omega)]
        omega
      have hm : Int.tmod (u : Int) 10 = ((u % 10 : Nat) : Int) := by
        rw [Int.tmod_eq_emod_of_nonneg (by omega)]
        omega
      rw [hd, dec_ok k (u / 10) (by rw [Nat.pow_succ] at hu; omega) (by omega), Option.bind_some, Option.bind_some, hm, one_fig _ (by omega) (by omega)]
      have hl := dec_len (u / 10) (by omega)
      rw [if_pos (by show (Lib.decDigits (u / 10)).toArray.size + 1 ≤ _; rw [List.size_toArray]; omega), Lib.decDigits.eq_def u, dif_neg h]
      congr 1
theorem dec_itoa (k : Nat) (n : Int) (hk : 5 ≤ k) (h0 : 0 ≤ n) (h1 : n ≤ 600) : spec_l6Dec.f k n = some ⟨(Lib.itoa n).toArray⟩ := by
  obtain ⟨m, rfl⟩ : ∃ m, k = (m + 4) + 1 := ⟨k - 5, by omega⟩
  obtain ⟨u, rfl⟩ : ∃ u : Nat, n = u := ⟨n.toNat, by omega⟩
  have hp : (10 : Nat) ^ 4 ≤ 10 ^ (m + 4 + 1) := Nat.pow_le_pow_right (by omega) (by omega)
  rw [dec_ok (m + 4) u (by omega) (by omega)]
  unfold Lib.itoa
  rw [if_neg (by omega), Int.toNat_natCast]
theorem fit {a b : Nat} (h : a + b ≤ 1000) : a + b ≤ 9223372036854775807 := by omega
/-- The reference's text is the program's. -/
theorem specRecText_ok (a b c d : Int) (k : Nat) (hk : 5 ≤ k) : spec_RecText.f k a b c d = some (recTextS a b c d) := by
  unfold spec_RecText.f recTextS recTextL
  rw [specRecOk_eq, Option.bind_some]
  cases hok : recOkB a b c d with
  | false => rfl
  | true =>
    have hr := hok
    unfold recOkB at hr
    obtain ⟨ha, hb1, hb2, hc1, hc2, hd1, hd2⟩ := of_decide_eq_true hr
    have sb := itoa_small (n := b) (by omega) (by omega)
    have sc := itoa_small (n := c) (by omega) (by omega)
    have sd := itoa_small (n := d) (by omega) (by omega)
    rw [if_pos rfl, if_pos rfl, Option.bind_some, dec_itoa k b hk (by omega) (by omega), dec_itoa k c hk (by omega) (by omega), dec_itoa k d hk (by omega) (by omega)]
    have hw : rdOf ByteArray.empty [(⟨#[]⟩ : ByteArray), ⟨#[100, 105, 114, 116, 121]⟩, ⟨#[99, 108, 101, 97, 110]⟩] a = ⟨(wordL a).toArray⟩ := by
      rcases ha with rfl | rfl <;> rfl
    have sw : (⟨(wordL a).toArray⟩ : ByteArray).size ≤ 100 := by
      rcases ha with rfl | rfl <;> decide
    have s1 : (⟨#[32]⟩ : ByteArray).size = 1 := rfl
    rw [hw, if_pos (by omega), if_pos (by rcases ha with rfl | rfl <;> decide), if_pos (by omega), Option.bind_some]
    rw [if_pos (fit (by rw [ByteArray.size_append]; omega)), if_pos (fit (by simp only [ByteArray.size_append]; omega)), Option.bind_some]
    rw [if_pos (fit (by simp only [ByteArray.size_append]; omega)), if_pos (fit (by simp only [ByteArray.size_append]; omega)), Option.bind_some]
    rw [if_pos (fit (by simp only [ByteArray.size_append]; omega))]
    congr 1
    apply ByteArray.ext
    simp [Lib.join, List.intercalate, List.intersperse]
end Go.Proofs.YtddagnomnamfdaaDoor.Ta
