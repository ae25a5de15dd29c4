import Derived.Test.YtddagnomnamfdaaDoorRecSpec
import Derived.IntWalk
import Derived.Laws.BitsAllLaws
namespace Go.Proofs.YtddagnomnamfdaaDoor.Ta
open Go.RowKit Go.IntWalk Go.Proofs.YtddagnomnamfdaaDoorW.PrintWords Go.Proofs.YtddagnomnamfdaaDoorW.PrintLast Go.Proofs.YtddagnomnamfdaaDoorW.PrintMore
theorem i64_xor_nat (a b : Nat) (ha : a < 4611686018427387904) (hb : b < 4611686018427387904) : bits .xor .i64 (a : Int) (b : Int) = ((a ^^^ b : Nat) : Int) := by
  have hx : a ^^^ b < 2 ^ 62 := Nat.xor_lt_two_pow (by omega) (by omega)
  show IntKind.i64.wrap ((BitVec.ofInt 64 (a : Int) ^^^ BitVec.ofInt 64 (b : Int)).toNat : Int) = _
  rw [BitVec.toNat_xor, ofInt_u64 a (by omega), ofInt_u64 b (by omega)]
  rw [IntKind.wrap_i64]
  omega
theorem i64_xor_pos {a b : Int} (h1 : 0 ≤ a) (h2 : a < 4611686018427387904) (h3 : 0 ≤ b) (h4 : b < 4611686018427387904) : 0 ≤ bits .xor .i64 a b := by
  obtain ⟨A, rfl⟩ := Int.eq_ofNat_of_zero_le h1
  obtain ⟨B, rfl⟩ := Int.eq_ofNat_of_zero_le h3
  rw [i64_xor_nat A B (by omega) (by omega)]
  omega
/-- The letters of a code. -/
def Bytes (s : List Int) : Prop := ∀ x ∈ s, 0 ≤ x ∧ x ≤ 255
theorem rd_byte {s : List Int} (hb : Bytes s) (i : Int) : 0 ≤ rd s i ∧ rd s i ≤ 255 := by
  unfold rd
  rw [List.getD_eq_getElem?_getD]
  cases h : s[i.toNat]? with
  | none => simp
  | some v => simpa using hb v (List.mem_of_getElem? h)
theorem pick_ok (k : Nat) {s : List Int} {p n : Int} (hb : Bytes s) (hp : 0 ≤ p) (hp2 : p < 1000000) (hn : 1 ≤ n) (hn2 : n ≤ 1000000) :
    ∃ v, spec_l6Rd_pick.f (k + 1) s p n = some (v, p + 1) ∧ 0 ≤ v ∧ v < n := by
  have e1 : wrap64 (p + 1) = p + 1 := wrap64_in _ (by omega)
  have e2 : wrap64 (p + 1 - 1) = p := by rw [wrap64_in _ (by omega)]; omega
  unfold spec_l6Rd_pick.f
  rw [if_neg (by omega), e1, spec_l6Rd_pick.j0, e2]
  cases hs : ((s.length : Int) == 0) with
  | true => exact ⟨0, by simp, by omega, by omega⟩
  | false =>
    have hl : (s.length : Int) ≠ 0 := by simpa using hs
    have hl0 : 0 < (s.length : Int) := by omega
    rw [if_neg (by simp)]
    by_cases hc : p < (s.length : Int)
    · rw [if_pos hc, if_pos hp, if_neg (by omega)]
      have hr := rd_byte hb p
      rw [wrap64_in _ (by omega)]
      exact ⟨_, rfl, Int.tmod_nonneg _ hr.1, Int.tmod_lt_of_pos _ (by omega)⟩
    · have e3 : wrap64 (p * 7) = p * 7 := wrap64_in _ (by omega)
      have e4 : wrap64 (p * 7 + 3) = p * 7 + 3 := wrap64_in _ (by omega)
      rw [if_neg hc, if_neg hl, e3, e4, if_pos (Int.tmod_nonneg _ hp), if_pos (Int.tmod_lt_of_pos _ hl0), if_pos (Int.tmod_nonneg _ (by omega)), if_pos (Int.tmod_lt_of_pos _ hl0), if_neg (by omega)]
      refine ⟨_, rfl, ?_, Int.tmod_lt_of_pos _ (by omega)⟩
      apply Int.tmod_nonneg
      have r1 := rd_byte hb (Int.tmod p (s.length : Int))
      have r2 := rd_byte hb (Int.tmod (p * 7 + 3) (s.length : Int))
      have q1 : 0 ≤ Int.tdiv p (s.length : Int) := Int.tdiv_nonneg hp (by omega)
      have q2 : Int.tdiv p (s.length : Int) ≤ p := by
        rw [Int.tdiv_eq_ediv_of_nonneg hp]
        exact Int.ediv_le_self _ hp
      generalize rd s (Int.tmod p (s.length : Int)) = x at *
      generalize rd s (Int.tmod (p * 7 + 3) (s.length : Int)) = y at *
      generalize Int.tdiv p (s.length : Int) = q at *
      rw [wrap64_in x (by omega), wrap64_in y (by omega), wrap64_in q (by omega), wrap64_in (x * 131) (by omega), wrap64_in (y * 1117) (by omega), wrap64_in (p * 29) (by omega), wrap64_in (q * 53) (by omega), wrap64_in (x * 131 + y * 1117) (by omega), wrap64_in (x * 131 + y * 1117 + p * 29) (by omega), wrap64_in (x * 131 + y * 1117 + p * 29 + q * 53) (by omega)]
      have t0 : 0 ≤ x * 131 + y * 1117 + p * 29 + q * 53 := by omega
      rw [Int.tdiv_eq_ediv_of_nonneg t0, wrap64_in _ (by omega)]
      exact i64_xor_pos t0 (by omega) (by omega) (by omega)
theorem open_ok {l : List Int} (hb : Bytes l) : ∃ s, spec_l6Open.f l = some (s, 0) ∧ Bytes s := by
  unfold spec_l6Open.f
  by_cases h : (l.length : Int) > 2000
  · rw [if_pos h, if_pos (by omega)]
    exact ⟨_, rfl, fun x hx => hb x (List.mem_of_mem_take hx)⟩
  · rw [if_neg h]
    exact ⟨_, rfl, hb⟩
theorem rec_ok (k : Nat) {s : List Int} {p : Int} (hb : Bytes s) (hp : 0 ≤ p) (hp2 : p < 900000) :
    ∃ a b c d q, spec_l71Rec.f (k + 1) s p = some (a, b, c, d, q) ∧ 0 ≤ q ∧ q ≤ p + 10 := by
  obtain ⟨v1, h1, _, _⟩ := pick_ok k (n := 2) hb hp (by omega) (by omega) (by omega)
  obtain ⟨v2, h2, _, _⟩ := pick_ok k (p := p + 1) (n := 40) hb (by omega) (by omega) (by omega) (by omega)
  obtain ⟨v3, h3, _, _⟩ := pick_ok k (p := p + 1 + 1) (n := 6) hb (by omega) (by omega) (by omega) (by omega)
  obtain ⟨v4, h4, _, _⟩ := pick_ok k (p := p + 1 + 1 + 1) (n := 10) hb (by omega) (by omega) (by omega) (by omega)
  obtain ⟨v5, h5, _, _⟩ := pick_ok k (p := p + 1 + 1 + 1 + 1) (n := 20) hb (by omega) (by omega) (by omega) (by omega)
  obtain ⟨w1, g1, _, _⟩ := pick_ok k (p := p + 1 + 1 + 1 + 1 + 1) (n := 4) hb (by omega) (by omega) (by omega) (by omega)
  obtain ⟨w2, g2, _, _⟩ := pick_ok k (p := p + 1 + 1 + 1 + 1 + 1) (n := 3) hb (by omega) (by omega) (by omega) (by omega)
  obtain ⟨w3, g3, _, _⟩ := pick_ok k (p := p + 1 + 1 + 1 + 1 + 1) (n := 2) hb (by omega) (by omega) (by omega) (by omega)
  unfold spec_l71Rec.f
  simp only [h1, h2, h3, h4, h5, Option.bind_some]
  by_cases c0 : v5 = 0
  · rw [if_pos c0]
    simp only [g1, Option.bind_some]
    exact ⟨_, _, _, _, _, rfl, by omega, by omega⟩
  rw [if_neg c0]
  by_cases c1 : v5 = 1
  · rw [if_pos c1]
    simp only [g2, Option.bind_some]
    rw [if_pos (by omega), if_pos (by simp; omega)]
    exact ⟨_, _, _, _, _, rfl, by omega, by omega⟩
  rw [if_neg c1]
  by_cases c2 : v5 = 2
  · rw [if_pos c2]
    simp only [g3, Option.bind_some]
    rw [if_pos (by omega), if_pos (by simp; omega)]
    exact ⟨_, _, _, _, _, rfl, by omega, by omega⟩
  rw [if_neg c2]
  by_cases c3 : v5 = 3
  · rw [if_pos c3]
    simp only [g3, Option.bind_some]
    rw [if_pos (by omega), if_pos (by simp; omega)]
    exact ⟨_, _, _, _, _, rfl, by omega, by omega⟩
  rw [if_neg c3]
  exact ⟨_, _, _, _, _, rfl, by omega, by omega⟩
theorem drawRecText_ok (k : Nat) {l : List Int} (hb : Bytes l) : ∃ a b c d, spec_DrawRecText.f (k + 1) l = some (a, b, c, d) := by
  obtain ⟨s, h0, hs⟩ := open_ok hb
  obtain ⟨a, b, c, d, q, h1, hq, hq2⟩ := rec_ok k hs (p := 0) (by omega) (by omega)
  unfold spec_DrawRecText.f
  simp only [h0, h1, Option.bind_some]
  exact ⟨_, _, _, _, rfl⟩
theorem bytes_of {l : List Int} (h : ∀ x ∈ l, (Lit.int .u8 x).wf = true) : Bytes l := fun x hx => by
  have := h x hx
  have h2 : (decide (0 ≤ x) && decide (x ≤ 255)) = true := this
  simpa using h2

/-- A number's figures tell it. -/
def valL (l : List UInt8) : Nat := l.foldl (fun m x => m * 10 + (x.toNat - 48)) 0
theorem valL_snoc (l : List UInt8) (x : UInt8) : valL (l ++ [x]) = valL l * 10 + (x.toNat - 48) := by
  unfold valL
  rw [List.foldl_append]
  rfl
theorem fig_val (n : Nat) (h : n < 10) : (UInt8.ofNat (48 + n)).toNat - 48 = n := by
  rw [UInt8.toNat_ofNat']
  omega
theorem valL_dec : ∀ u : Nat, valL (Lib.decDigits u) = u
  | u => by
    rw [Lib.decDigits.eq_def]
    by_cases h : u < 10
    · rw [dif_pos h]
      have e := valL_snoc [] (UInt8.ofNat (48 + u))
      rw [List.nil_append, fig_val u h] at e
      rw [e]
      show 0 * 10 + u = u
      omega
    · rw [dif_neg h, valL_snoc, valL_dec (u / 10), fig_val _ (by omega)]
      omega
theorem dec_noBlank : ∀ u : Nat, (32 : UInt8) ∉ Lib.decDigits u
  | u => by
    rw [Lib.decDigits.eq_def]
    by_cases h : u < 10
    · rw [dif_pos h, List.mem_singleton]
      intro e
      have := congrArg UInt8.toNat e
      rw [UInt8.toNat_ofNat'] at this
      have h2 : (32 : UInt8).toNat = 32 := rfl
      omega
    · rw [dif_neg h, List.mem_append, List.mem_singleton]
      rintro (e | e)
      · exact dec_noBlank (u / 10) e
      · have := congrArg UInt8.toNat e
        rw [UInt8.toNat_ofNat'] at this
        have h2 : (32 : UInt8).toNat = 32 := rfl
        omega
theorem itoa_nn {n : Int} (h : 0 ≤ n) : Lib.itoa n = Lib.decDigits n.toNat := by unfold Lib.itoa; rw [if_neg (by omega)]
theorem itoa_inj {m n : Int} (hm : 0 ≤ m) (hn : 0 ≤ n) (h : Lib.itoa m = Lib.itoa n) : m = n := by
  rw [itoa_nn hm, itoa_nn hn] at h
  have e := congrArg valL h
  rw [valL_dec, valL_dec] at e
  omega
theorem itoa_noBlank {n : Int} (h : 0 ≤ n) : (32 : UInt8) ∉ Lib.itoa n := by rw [itoa_nn h]; exact dec_noBlank _
theorem word_noBlank (a : Int) : (32 : UInt8) ∉ wordL a := by unfold wordL; split <;> decide
/-- A blank parts a text in one way. -/
theorem parts : ∀ {a b x y : List UInt8}, (32 : UInt8) ∉ a → (32 : UInt8) ∉ b → a ++ 32 :: x = b ++ 32 :: y → a = b ∧ x = y
  | [], [], x, y, _, _, h => ⟨rfl, (List.cons.inj h).2⟩
  | [], b :: qs, x, y, _, hb, h => absurd (List.mem_cons.2 (Or.inl (List.cons.inj h).1)) hb
  | a :: ps, [], x, y, ha, _, h => absurd (List.mem_cons.2 (Or.inl (List.cons.inj h).1.symm)) ha
  | a :: ps, b :: qs, x, y, ha, hb, h => by
    obtain ⟨e1, e2⟩ := List.cons.inj h
    obtain ⟨e3, e4⟩ := parts (fun q => ha (List.mem_cons_of_mem _ q)) (fun q => hb (List.mem_cons_of_mem _ q)) e2
    exact ⟨by rw [e1, e3], e4⟩
theorem text_eq {a b c d : Int} (h : recOkB a b c d = true) : recTextL a b c d = wordL a ++ 32 :: (Lib.itoa b ++ 32 :: (Lib.itoa c ++ 32 :: Lib.itoa d)) := by
  unfold recTextL
  rw [if_pos h]
  simp [Lib.join, List.intercalate, List.intersperse]
theorem word_inj {a b : Int} (ha : a = 1 ∨ a = 2) (hb : b = 1 ∨ b = 2) (h : wordL a = wordL b) : a = b := by
  rcases ha with rfl | rfl <;> rcases hb with rfl | rfl <;> first | rfl | exact absurd h (by decide)
theorem ok_parts {a b c d : Int} (h : recOkB a b c d = true) : (a = 1 ∨ a = 2) ∧ 1 ≤ b ∧ b ≤ 600 ∧ 1 ≤ c ∧ c ≤ 6 ∧ 0 ≤ d ∧ d ≤ 9 := by unfold recOkB at h; exact of_decide_eq_true h
/-- Two texts of records are the same just if the records are. -/
theorem text_inj {a b c d a' b' c' d' : Int} (h : recOkB a b c d = true) (h' : recOkB a' b' c' d' = true) (e : recTextL a b c d = recTextL a' b' c' d') : a = a' ∧ b = b' ∧ c = c' ∧ d = d' := by
  obtain ⟨p1, p2, p3, p4, p5, p6, p7⟩ := ok_parts h
  obtain ⟨q1, q2, q3, q4, q5, q6, q7⟩ := ok_parts h'
  rw [text_eq h, text_eq h'] at e
  obtain ⟨e1, e⟩ := parts (word_noBlank _) (word_noBlank _) e
  obtain ⟨e2, e⟩ := parts (itoa_noBlank (by omega)) (itoa_noBlank (by omega)) e
  obtain ⟨e3, e4⟩ := parts (itoa_noBlank (by omega)) (itoa_noBlank (by omega)) e
  exact ⟨word_inj p1 q1 e1, itoa_inj (by omega) (by omega) e2, itoa_inj (by omega) (by omega) e3, itoa_inj (by omega) (by omega) e4⟩
theorem text_empty (a b c d : Int) : (recTextS a b c d = ⟨#[]⟩) ↔ recOkB a b c d = false := by
  unfold recTextS
  cases h : recOkB a b c d with
  | false => exact ⟨fun _ => rfl, fun _ => by unfold recTextL; rw [h]; rfl⟩
  | true =>
    rw [text_eq h]
    constructor
    · intro e
      have := congrArg (fun s : ByteArray => s.data.size) e
      simp at this
    · intro e; cases e
end Go.Proofs.YtddagnomnamfdaaDoor.Ta
