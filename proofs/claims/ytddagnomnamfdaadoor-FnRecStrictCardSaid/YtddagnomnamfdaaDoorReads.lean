import Derived.Test.YtddagnomnamfdaaDoorReadPlain
import Derived.Lib.SplitLaws
import Derived.Lib.AtoiBound
namespace Go.Proofs.YtddagnomnamfdaaDoor.Ta
open Go.RowKit Go.Proofs.YtddagnomnamfdaaDoorW.PrintWords Go.Proofs.YtddagnomnamfdaaDoorW.PrintLast Go.Proofs.YtddagnomnamfdaaDoorW.PrintMore
/-- What reading a text answers: the record whose text it is; or none, and no record has that text. -/
def Reads (s : ByteArray) (a b c d : Int) (ok : Bool) : Prop :=
  (ok = true ∧ recOkB a b c d = true ∧ recTextS a b c d = s) ∨ (ok = false ∧ a = 0 ∧ b = 0 ∧ c = 0 ∧ d = 0 ∧ ∀ x y z u, recOkB x y z u = true → recTextS x y z u ≠ s)
theorem reads_one {s : ByteArray} {a b c d a' b' c' d' : Int} {ok ok' : Bool} (h : Reads s a b c d ok) (h' : Reads s a' b' c' d' ok') : a = a' ∧ b = b' ∧ c = c' ∧ d = d' ∧ ok = ok' := by
  rcases h with ⟨h1, h2, h3⟩ | ⟨h1, h2, h3, h4, h5, h6⟩ <;> rcases h' with ⟨g1, g2, g3⟩ | ⟨g1, g2, g3, g4, g5, g6⟩
  · have e : recTextS a b c d = recTextS a' b' c' d' := h3.trans g3.symm
    have e2 := congrArg (fun q : ByteArray => q.data.toList) e
    obtain ⟨p1, p2, p3, p4⟩ := text_inj h2 g2 (by simpa [recTextS] using e2)
    exact ⟨p1, p2, p3, p4, h1.trans g1.symm⟩
  · exact absurd h3 (g6 _ _ _ _ h2)
  · exact absurd g3 (h6 _ _ _ _ g2)
  · exact ⟨h2.trans g2.symm, h3.trans g3.symm, h4.trans g4.symm, h5.trans g5.symm, h1.trans g1.symm⟩
theorem data_inj {s : ByteArray} {l : List UInt8} (h : (⟨l.toArray⟩ : ByteArray) = s) : s.data.toList = l := by
  subst h
  simp
theorem reads_long {s : ByteArray} (h : 20 < s.size) : Reads s 0 0 0 0 false := .inr ⟨rfl, rfl, rfl, rfl, rfl, fun x y z u hk e => by
  have := text_short20 hk
  rw [e] at this
  omega⟩
theorem index_word : ∀ (p rest : List UInt8), (32 : UInt8) ∉ p → Lib.index (p ++ 32 :: rest) [32] = p.length
  | [], rest, _ => by simp [Lib.index]
  | b :: p, rest, h => by
    have hb : b ≠ 32 := fun e => h (List.mem_cons.2 (Or.inl e.symm))
    have ih := index_word p rest (fun q => h (List.mem_cons_of_mem _ q))
    have hp : ([32] : List UInt8).isPrefixOf (b :: (p ++ 32 :: rest)) = false := by simp [List.isPrefixOf, Ne.symm hb]
    rw [List.cons_append, Lib.index, hp, ih, if_neg (by simp), if_neg (by simp), List.length_cons]
    omega
theorem index_last : ∀ (p : List UInt8), (32 : UInt8) ∉ p → Lib.index p [32] = -1
  | [], _ => by simp [Lib.index]
  | b :: p, h => by
    have hb : b ≠ 32 := fun e => h (List.mem_cons.2 (Or.inl e.symm))
    have ih := index_last p (fun q => h (List.mem_cons_of_mem _ q))
    have hp : ([32] : List UInt8).isPrefixOf (b :: p) = false := by simp [List.isPrefixOf, Ne.symm hb]
    rw [Lib.index, hp, ih]
    simp
theorem split_word (p rest : List UInt8) (k : Nat) (h : (32 : UInt8) ∉ p) : Lib.splitK [32] 0 (k + 1) (p ++ 32 :: rest) = p :: Lib.splitK [32] 0 k rest := by
  rw [Lib.splitK, index_word p rest h, if_neg (by simp)]
  simp
theorem split_last (p : List UInt8) (k : Nat) (h : (32 : UInt8) ∉ p) : Lib.splitK [32] 0 k p = [p] := by
  cases k with
  | zero => rfl
  | succ k => rw [Lib.splitK, index_last p h]; rfl
theorem split_four {p q r t : List UInt8} (hp : (32 : UInt8) ∉ p) (hq : (32 : UInt8) ∉ q) (hr : (32 : UInt8) ∉ r) (ht : (32 : UInt8) ∉ t) :
    Lib.count (p ++ 32 :: (q ++ 32 :: (r ++ 32 :: t))) [32] = 3 ∧ Lib.splitK [32] 0 3 (p ++ 32 :: (q ++ 32 :: (r ++ 32 :: t))) = [p, q, r, t] := by
  refine ⟨?_, by rw [split_word p _ _ hp, split_word q _ _ hq, split_word r _ _ hr, split_last t _ ht]⟩
  rw [Lib.count_one]
  simp only [List.count_append, List.count_cons_self, List.count_eq_zero_of_not_mem hp, List.count_eq_zero_of_not_mem hq, List.count_eq_zero_of_not_mem hr, List.count_eq_zero_of_not_mem ht]
theorem bytes_mk {x : ByteArray} {l : List UInt8} (h : x.data.toList = l) : x = ⟨l.toArray⟩ := by
  subst h
  apply ByteArray.ext
  simp
/-- The pieces have room beside the blanks. -/
theorem split_small (sep : ByteArray) (h1 : sep.size = 1) : ∀ (k : Nat) (s : ByteArray), Lib.countB s sep = k → ∀ x ∈ Lib.splitB sep 0 k s, x.size + k ≤ s.size
  | 0, s, _, x, hx => by
    rw [Lib.splitB_zero, List.mem_singleton] at hx
    rw [hx]
    exact Nat.le_refl _
  | k + 1, s, hk, x, hx => by
    rcases Lib.indexB_cases s sep with hix | ⟨i, hix, hroom⟩
    · rw [Lib.countB_miss s sep hix] at hk; omega
    · have hc := Lib.countB_hit s sep i (by omega) hix
      have hk2 : Lib.countB (s.extract (i + sep.size) s.size) sep = k := by omega
      have hl := Lib.countB_le sep (by omega) _ (s.extract (i + sep.size) s.size) (Nat.le_refl _)
      have hs : (s.extract (i + sep.size) s.size).size = s.size - (i + sep.size) := by rw [ByteArray.size_extract]; omega
      rw [Lib.splitB_hit sep 0 k s i hix, List.mem_cons] at hx
      rcases hx with rfl | hx
      · rw [ByteArray.size_extract]
        omega
      · have := split_small sep h1 k _ hk2 x hx
        omega
theorem decFrom_val : ∀ (l : List UInt8) (acc : Nat), (∀ x ∈ l, 48 ≤ x.toNat ∧ x.toNat ≤ 57) → Lib.decFrom acc l = some (l.foldl (fun m x => m * 10 + (x.toNat - 48)) acc)
  | [], _, _ => rfl
  | b :: l, acc, h => by
    have hb := h b (List.mem_cons.2 (Or.inl rfl))
    rw [Lib.decFrom, Lib.digitVal, if_pos hb, List.foldl_cons]
    exact decFrom_val l _ (fun x hx => h x (List.mem_cons_of_mem _ hx))
theorem four_of {α : Type} {xs : List α} (h : xs.length = 4) : ∃ x0 x1 x2 x3, xs = [x0, x1, x2, x3] := by
  match xs, h with
  | [x0, x1, x2, x3], _ => exact ⟨x0, x1, x2, x3, rfl⟩
/-- What a record's text is split into. -/
theorem split_text {a b c d : Int} (h : recOkB a b c d = true) : Lib.countB (recTextS a b c d) ⟨#[32]⟩ = 3 ∧ Lib.splitB ⟨#[32]⟩ 0 3 (recTextS a b c d) = [⟨(wordL a).toArray⟩, ⟨(Lib.itoa b).toArray⟩, ⟨(Lib.itoa c).toArray⟩, ⟨(Lib.itoa d).toArray⟩] := by
  obtain ⟨p1, p2, p3, p4, p5, p6, p7⟩ := ok_parts h
  obtain ⟨h1, h2⟩ := split_four (word_noBlank a) (itoa_noBlank (n := b) (by omega)) (itoa_noBlank (n := c) (by omega)) (itoa_noBlank (n := d) (by omega))
  rw [← text_eq h] at h1 h2
  have e : (recTextS a b c d).data.toList = recTextL a b c d := by simp [recTextS]
  refine ⟨?_, ?_⟩
  · show Lib.count (recTextS a b c d).data.toList [32] = 3
    rw [e]
    exact h1
  · have h3 := Lib.splitB_data ⟨#[32]⟩ 0 3 (recTextS a b c d)
    rw [e] at h3
    have h4 : (Lib.splitB ⟨#[32]⟩ 0 3 (recTextS a b c d)).map (·.data.toList) = [wordL a, Lib.itoa b, Lib.itoa c, Lib.itoa d] := h3.trans h2
    generalize Lib.splitB ⟨#[32]⟩ 0 3 (recTextS a b c d) = xs at h4
    obtain ⟨x0, x1, x2, x3, rfl⟩ := four_of (by have := congrArg List.length h4; rw [List.length_map] at this; exact this)
    simp only [List.map_cons, List.map_nil, List.cons.injEq, and_true] at h4
    rw [bytes_mk h4.1, bytes_mk h4.2.1, bytes_mk h4.2.2.1, bytes_mk h4.2.2.2]
theorem atoi_itoa {n : Int} (h0 : 0 ≤ n) (h1 : n ≤ 600) : Lib.atoi (Lib.itoa n) = some n := by
  rw [itoa_nn h0]
  have hd := dec_digit n.toNat
  have hl := (dec_len3 n.toNat (by omega)).1
  have hv := valL_dec n.toNat
  generalize Lib.decDigits n.toNat = l at hd hl hv
  match l, hl with
  | b :: r, _ =>
    have hb := hd b (List.mem_cons.2 (Or.inl rfl))
    have n1 : (b == 45) = false := by
      cases hq : (b == 45) with
      | false => rfl
      | true => rw [eq_of_beq hq] at hb; exact absurd hb (by decide)
    have n2 : (b == 43) = false := by
      cases hq : (b == 43) with
      | false => rfl
      | true => rw [eq_of_beq hq] at hb; exact absurd hb (by decide)
    rw [Lib.atoi, n1, n2, if_neg (by simp), if_neg (by simp), Lib.decNat, if_neg (by simp), decFrom_val _ _ hd]
    have hv2 : (b :: r).foldl (fun m x => m * 10 + (x.toNat - 48)) 0 = n.toNat := hv
    rw [hv2]
    simp
    omega
/-- A record stored into its block, field by field. -/
def putRec (W : World) (g : Nat) (a b c d : Int) : World := (((W.setCell ⟨g, 0, none⟩ (.int .i64 a)).setCell ⟨g, 1, none⟩ (.int .i64 b)).setCell ⟨g, 2, none⟩ (.int .i64 c)).setCell ⟨g, 3, none⟩ (.int .i64 d)
theorem put_blk {W : World} {g t : Nat} {x0 x1 x2 x3 : Value} (h : W.heap[g]? = some (.cells #[x0, x1, x2, x3] t (0, 0))) (a b c d : Int) : (putRec W g a b c d).heap[g]? = some (.cells #[.int .i64 a, .int .i64 b, .int .i64 c, .int .i64 d] t (0, 0)) :=
  blk_put (blk_put (blk_put (blk_put h 0 _ rfl) 1 _ rfl) 2 _ rfl) 3 _ rfl
theorem put_below {B g : Nat} {w W : World} (h : Below B w W) (hg : B ≤ g) (a b c d : Int) : Below B w (putRec W g a b c d) := (((h.setCell (p := ⟨g, 0, none⟩) hg _).setCell (p := ⟨g, 1, none⟩) hg _).setCell (p := ⟨g, 2, none⟩) hg _).setCell (p := ⟨g, 3, none⟩) hg _
theorem chain3 {w a b c : World} (h1 : Drawn0 w.drew a) (h2 : Drawn0 a b) (h3 : Drawn0 b c) : Below w.heap.size w c := by
  have e1 := below_then (below_drew (Below.refl _ w)) (Nat.le_refl _) h1.below
  have e2 := below_then e1 e1.size h2.below
  exact below_then e2 e2.size h3.below
end Go.Proofs.YtddagnomnamfdaaDoor.Ta
