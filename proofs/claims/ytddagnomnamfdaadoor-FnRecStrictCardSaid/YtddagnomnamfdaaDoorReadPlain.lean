import Derived.Test.YtddagnomnamfdaaDoorRecPlain
import Derived.Test.YtddagnomnamfdaaDoorL1Cut
namespace Go.Proofs.YtddagnomnamfdaaDoor.Ta
open Go.RowKit Go.IntWalk Go.Proofs.YtddagnomnamfdaaDoorW.PrintWords Go.Proofs.YtddagnomnamfdaaDoorW.PrintLast Go.Proofs.YtddagnomnamfdaaDoorW.PrintMore
/-! ### what a record's text is cut into -/
theorem cut_word : ∀ (p : List UInt8) (ys : List ByteArray) (x : ByteArray), (32 : UInt8) ∉ p → p.foldl (cutStep 32) (ys ++ [x]) = ys ++ [x ++ ⟨p.toArray⟩]
  | [], ys, x, _ => by
    have e : x ++ (⟨#[]⟩ : ByteArray) = x := ByteArray.append_empty
    rw [List.foldl_nil, e]
  | b :: p, ys, x, h => by
    have hb : b ≠ 32 := fun e => h (List.mem_cons.2 (Or.inl e.symm))
    have e : cutStep 32 (ys ++ [x]) b = ys ++ [x ++ ⟨#[b]⟩] := by
      unfold cutStep
      rw [if_neg hb]
      simp
    rw [List.foldl_cons, e, cut_word p ys _ (fun q => h (List.mem_cons_of_mem _ q))]
    congr 2
    apply ByteArray.ext
    simp
theorem cut_blank (l : List UInt8) (ys : List ByteArray) (x : ByteArray) : (32 :: l).foldl (cutStep 32) (ys ++ [x]) = l.foldl (cutStep 32) ((ys ++ [x]) ++ [⟨#[]⟩]) := rfl
theorem empty_ap (p : List UInt8) : (⟨#[]⟩ : ByteArray) ++ ⟨p.toArray⟩ = ⟨p.toArray⟩ := by
  apply ByteArray.ext
  simp
theorem cut_four {p q r t : List UInt8} (hp : (32 : UInt8) ∉ p) (hq : (32 : UInt8) ∉ q) (hr : (32 : UInt8) ∉ r) (ht : (32 : UInt8) ∉ t) :
    cutL 32 (p ++ 32 :: (q ++ 32 :: (r ++ 32 :: t))) = [⟨p.toArray⟩, ⟨q.toArray⟩, ⟨r.toArray⟩, ⟨t.toArray⟩] := by
  unfold cutL
  rw [List.foldl_append, show [(⟨#[]⟩ : ByteArray)] = [] ++ [⟨#[]⟩] from rfl, cut_word p _ _ hp, cut_blank, List.foldl_append, cut_word q _ _ hq, cut_blank, List.foldl_append, cut_word r _ _ hr, cut_blank, cut_word t _ _ ht]
  simp only [empty_ap, List.nil_append, List.cons_append]
theorem cut_text {a b c d : Int} (h : recOkB a b c d = true) : cutL 32 (recTextL a b c d) = [⟨(wordL a).toArray⟩, ⟨(Lib.itoa b).toArray⟩, ⟨(Lib.itoa c).toArray⟩, ⟨(Lib.itoa d).toArray⟩] := by
  obtain ⟨p1, p2, p3, p4, p5, p6, p7⟩ := ok_parts h
  rw [text_eq h, cut_four (word_noBlank _) (itoa_noBlank (by omega)) (itoa_noBlank (by omega)) (itoa_noBlank (by omega))]
/-! ### figures -/
theorem dec_digit : ∀ (u : Nat), ∀ x ∈ Lib.decDigits u, 48 ≤ x.toNat ∧ x.toNat ≤ 57
  | u => by
    intro x hx
    rw [Lib.decDigits.eq_def] at hx
    by_cases h : u < 10
    · rw [dif_pos h, List.mem_singleton] at hx
      rw [hx, UInt8.toNat_ofNat']
      omega
    · rw [dif_neg h, List.mem_append, List.mem_singleton] at hx
      rcases hx with hx | hx
      · exact dec_digit (u / 10) x hx
      · rw [hx, UInt8.toNat_ofNat']
        omega
theorem dec_len3 (u : Nat) (h : u < 1000) : 1 ≤ (Lib.decDigits u).length ∧ (Lib.decDigits u).length ≤ 3 := by
  rw [Lib.decDigits.eq_def u]
  by_cases h1 : u < 10
  · rw [dif_pos h1]; simp
  rw [dif_neg h1, Lib.decDigits.eq_def (u / 10)]
  by_cases h2 : u / 10 < 10
  · rw [dif_pos h2]; simp
  rw [dif_neg h2, Lib.decDigits.eq_def (u / 10 / 10), dif_pos (by omega)]
  simp
theorem text_short20 {a b c d : Int} (h : recOkB a b c d = true) : (recTextS a b c d).size ≤ 20 := by
  obtain ⟨p1, p2, p3, p4, p5, p6, p7⟩ := ok_parts h
  have h1 : (wordL a).length = 5 := by rcases p1 with rfl | rfl <;> rfl
  have h2 := (dec_len3 b.toNat (by omega)).2
  have h3 := (dec_len3 c.toNat (by omega)).2
  have h4 := (dec_len3 d.toNat (by omega)).2
  show (recTextL a b c d).toArray.size ≤ 20
  rw [List.size_toArray, text_eq h, itoa_nn (by omega), itoa_nn (by omega), itoa_nn (by omega)]
  simp only [List.length_append, List.length_cons]
  omega

theorem bt_range (x : ByteArray) (i : Int) : 0 ≤ bt x i ∧ bt x i ≤ 255 := by
  unfold bt
  split
  · have := (x[i.toNat]).toNat_lt
    omega
  · omega
/-- A text of any letters: the reference's reading comes to an end. -/
theorem dec_total (x : ByteArray) (hx : x.size ≤ 1000) : ∀ (n k : Nat) (acc : Int) (i : Nat), n = x.size - i → i ≤ x.size → n < k → ∃ r, spec_l1Dec.l0 k x acc i = some r
  | n, 0, _, _, _, _, hk => absurd hk (by omega)
  | n, k + 1, acc, i, hn, hi, hk => by
    unfold spec_l1Dec.l0
    by_cases h : (i : Int) < (x.size : Int)
    · rw [if_pos h, if_pos (by omega)]
      by_cases h1 : bt x i < 48
      · rw [if_pos h1]; exact ⟨_, rfl⟩
      rw [if_neg h1]
      by_cases h2 : bt x i > 57
      · rw [if_pos h2]; exact ⟨_, rfl⟩
      rw [if_neg h2, show wrap64 ((i : Int) + 1) = ((i + 1 : Nat) : Int) by rw [wrap64_id _ (by omega) (by omega)]; omega]
      exact dec_total x hx (n - 1) k _ (i + 1) (by omega) (by omega) (by omega)
    · rw [if_neg h]; exact ⟨_, rfl⟩
theorem l1Dec_total (x : ByteArray) (k : Nat) (hk : 5 ≤ k) : ∃ r, spec_l1Dec.f k x = some r := by
  unfold spec_l1Dec.f
  rw [l6In_eq, Option.bind_some]
  by_cases h : (1 : Int) ≤ (x.size : Int) ∧ (x.size : Int) ≤ 3
  · rw [decide_eq_true h, if_pos rfl]
    exact dec_total x (by omega) x.size k 0 0 (by omega) (Nat.zero_le _) (by omega)
  · rw [decide_eq_false h, if_neg (by simp)]
    exact ⟨_, rfl⟩
theorem valL_take {l : List UInt8} {i : Nat} (h : i < l.length) : valL (l.take (i + 1)) = valL (l.take i) * 10 + ((l[i]).toNat - 48) := by
  rw [List.take_add_one, List.getElem?_eq_getElem h]
  exact valL_snoc _ _
theorem fold_small : ∀ (l : List UInt8) (m : Nat), (∀ x ∈ l, 48 ≤ x.toNat ∧ x.toNat ≤ 57) → l.foldl (fun m x => m * 10 + (x.toNat - 48)) m < (m + 1) * 10 ^ l.length
  | [], m, _ => by simp
  | x :: l, m, h => by
    have h2 := h x (List.mem_cons.2 (Or.inl rfl))
    have h1 := fold_small l (m * 10 + (x.toNat - 48)) (fun y hy => h y (List.mem_cons_of_mem _ hy))
    rw [List.foldl_cons, List.length_cons, Nat.pow_succ]
    have h3 : (m * 10 + (x.toNat - 48) + 1) * 10 ^ l.length ≤ ((m + 1) * 10) * 10 ^ l.length := Nat.mul_le_mul_right _ (by omega)
    have h4 : (m + 1) * (10 ^ l.length * 10) = ((m + 1) * 10) * 10 ^ l.length := by rw [Nat.mul_assoc, Nat.mul_comm 10]
    rw [h4]
    exact Nat.lt_of_lt_of_le h1 h3
theorem valL_small (l : List UInt8) (h : ∀ x ∈ l, 48 ≤ x.toNat ∧ x.toNat ≤ 57) : valL l < 10 ^ l.length := by
  have := fold_small l 0 h
  rw [Nat.zero_add, Nat.one_mul] at this
  exact this
theorem bt_list {l : List UInt8} {i : Nat} (h : i < l.length) : bt ⟨l.toArray⟩ (i : Int) = (((l[i]).toNat : Nat) : Int) := by
  unfold bt
  rw [dif_pos (show (i : Int).toNat < (⟨l.toArray⟩ : ByteArray).size by show (i : Int).toNat < l.toArray.size; rw [List.size_toArray]; omega)]
  simp
  rfl
theorem dec_value (l : List UInt8) (hl : l.length ≤ 3) (hd : ∀ x ∈ l, 48 ≤ x.toNat ∧ x.toNat ≤ 57) : ∀ (n k i : Nat), n = l.length - i → i ≤ l.length → n < k → spec_l1Dec.l0 k ⟨l.toArray⟩ (valL (l.take i) : Nat) i = some ((valL l : Nat) : Int)
  | n, 0, _, _, _, hk => absurd hk (by omega)
  | n, k + 1, i, hn, hi, hk => by
    have hsz : (⟨l.toArray⟩ : ByteArray).size = l.length := by show l.toArray.size = l.length; simp
    unfold spec_l1Dec.l0
    rw [hsz]
    by_cases h : i < l.length
    · have hb := hd l[i] (List.getElem_mem h)
      have hs := valL_small (l.take i) (fun x hx => hd x (List.mem_of_mem_take hx))
      rw [List.length_take, Nat.min_eq_left (by omega)] at hs
      have hp : 10 ^ i ≤ 10 ^ 3 := Nat.pow_le_pow_right (by omega) (by omega)
      rw [if_pos (by omega), if_pos (by omega), bt_list h, if_neg (by omega), if_neg (by omega)]
      have e1 : wrap64 ((i : Int) + 1) = ((i + 1 : Nat) : Int) := by rw [wrap64_id _ (by omega) (by omega)]; omega
      have e2 : wrap64 (wrap64 (10 * ((valL (l.take i) : Nat) : Int)) + ((((l[i]).toNat : Nat) : Int) - 48) % 256) = ((valL (l.take (i + 1)) : Nat) : Int) := by
        rw [valL_take h, wrap64_id (10 * _) (by omega) (by omega), wrap64_id _ (by omega) (by omega)]
        omega
      rw [e1, e2]
      exact dec_value l hl hd (n - 1) k (i + 1) (by omega) (by omega) (by omega)
    · rw [if_neg (by omega), List.take_of_length_le (by omega)]
theorem l1Dec_itoa (n : Int) (h0 : 0 ≤ n) (h1 : n ≤ 600) (k : Nat) (hk : 5 ≤ k) : spec_l1Dec.f k ⟨(Lib.itoa n).toArray⟩ = some n := by
  rw [itoa_nn h0]
  obtain ⟨l1, l2⟩ := dec_len3 n.toNat (by omega)
  have hsz : (⟨(Lib.decDigits n.toNat).toArray⟩ : ByteArray).size = (Lib.decDigits n.toNat).length := by show (Lib.decDigits n.toNat).toArray.size = _; simp
  unfold spec_l1Dec.f
  rw [l6In_eq, Option.bind_some, hsz, decide_eq_true (by omega), if_pos rfl]
  have h := dec_value (Lib.decDigits n.toNat) l2 (dec_digit _) (Lib.decDigits n.toNat).length k 0 (by omega) (Nat.zero_le _) (by omega)
  rw [List.take_zero] at h
  rw [valL_dec] at h
  have e : ((n.toNat : Nat) : Int) = n := by omega
  rw [e] at h
  exact h
end Go.Proofs.YtddagnomnamfdaaDoor.Ta
