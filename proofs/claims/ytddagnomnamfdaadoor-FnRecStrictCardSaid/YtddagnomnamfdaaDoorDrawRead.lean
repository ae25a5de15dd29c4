import Derived.Test.YtddagnomnamfdaaDoorTc
import Derived.Test.YtddagnomnamfdaaDoorReadPlain
namespace Go.Proofs.YtddagnomnamfdaaDoor.Ta
open Go.RowKit Go.IntWalk Go.Proofs.YtddagnomnamfdaaDoorW.PrintWords Go.Proofs.YtddagnomnamfdaaDoorW.PrintLast Go.Proofs.YtddagnomnamfdaaDoorW.PrintMore
theorem e_pick : @Tc.spec_l6Rd_pick.f = @spec_l6Rd_pick.f := rfl
theorem e_open : @Tc.spec_l6Open.f = @spec_l6Open.f := rfl
theorem e_l71 : @Tc.spec_l71Rec.f = @spec_l71Rec.f := rfl
theorem e_dec : ∀ k n, Tc.spec_l6Dec.f k n = spec_l6Dec.f k n
  | 0, _ => rfl
  | k + 1, n => by
    rw [Tc.spec_l6Dec.f, spec_l6Dec.f]
    simp only [e_dec k]
theorem e_text (k : Nat) (a b c d : Int) : Tc.spec_RecText.f k a b c d = spec_RecText.f k a b c d := by
  unfold Tc.spec_RecText.f spec_RecText.f
  rw [show @Tc.spec_RecOk.f = @spec_RecOk.f from rfl]
  simp only [e_dec]
theorem text_size (a b c d : Int) : (recTextS a b c d).size ≤ 20 := by
  cases h : recOkB a b c d with
  | true => exact text_short20 h
  | false => rw [(text_empty a b c d).2 h]; exact Nat.zero_le _
theorem rd_size : ∀ (l : List ByteArray), (∀ y ∈ l, y.size ≤ 2) → ∀ x, (rdOf ByteArray.empty l x).size ≤ 2 := fun l h x => by
  unfold rdOf
  rw [List.getD_eq_getElem?_getD]
  cases hq : l[x.toNat]? with
  | none => exact Nat.zero_le _
  | some v => exact h v (List.mem_of_getElem? hq)
theorem of_some {s : List Int} {p x : Int} {l : List ByteArray} (hl : (l.length : Int) = 5) (h4 : spec_l6Rd_pick.f 6 s p 5 = some (x, p + 1)) (hx0 : 0 ≤ x) (hx1 : x < 5) : Tc.spec_l6Rd_of.f 6 s p l = some (rdOf ByteArray.empty l x, p + 1) := by
  unfold Tc.spec_l6Rd_of.f
  rw [e_pick, hl, h4, Option.bind_some]
  rw [if_pos hx0, if_pos hx1]
def words5 : List ByteArray := [(⟨#[48]⟩ : ByteArray), ⟨#[32]⟩, ⟨#[49]⟩, ⟨#[120]⟩, ⟨#[32, 53]⟩]
theorem words5_size : ∀ y ∈ words5, y.size ≤ 2 := by
  intro y hy
  unfold words5 at hy
  simp only [List.mem_cons, List.not_mem_nil, or_false] at hy
  rcases hy with rfl | rfl | rfl | rfl | rfl
  · exact Nat.le_succ 1
  · exact Nat.le_succ 1
  · exact Nat.le_succ 1
  · exact Nat.le_succ 1
  · exact Nat.le_refl 2
theorem ex_bind {α β : Type} {x : Option α} {f : α → Option β} {a : α} (h : x = some a) (hf : ∃ r, f a = some r) : ∃ r, x.bind f = some r := by
  subst h
  exact hf
theorem ex_if {α : Type} {c : Prop} [Decidable c] {x y : Option α} (h : c) (hx : ∃ r, x = some r) : ∃ r, (if c then x else y) = some r := by rw [if_pos h]; exact hx
theorem ex_else {α : Type} {c : Prop} [Decidable c] {x y : Option α} (h : ¬ c) (hx : ∃ r, y = some r) : ∃ r, (if c then x else y) = some r := by rw [if_neg h]; exact hx
theorem at_pick {k : Nat} {s : List Int} {p n : Int} {r : Int × Int} (h : spec_l6Rd_pick.f k s p n = some r) : Tc.spec_l6Rd_pick.f k s p n = some r := by rw [e_pick]; exact h
/-- The drawn text is there, whatever the code. -/
theorem drawRecRead_ok {l : List Int} (hb : Bytes l) : ∃ r, Tc.spec_DrawRecRead.f 6 l = some r := by
  obtain ⟨s, h0, hs⟩ := open_ok hb
  obtain ⟨a, b, c, d, q, h1, hq, hq2⟩ := rec_ok 5 hs (p := 0) (by omega) (by omega)
  have hz := text_size a b c d
  have ht := (e_text 6 a b c d).trans (specRecText_ok a b c d 6 (by decide))
  unfold Tc.spec_DrawRecRead.f
  refine ex_bind (by rw [e_open]; exact h0) ?_
  refine ex_bind (a := (a, b, c, d, q)) (by rw [e_l71]; exact h1) ?_
  refine ex_bind ht ?_
  clear ht h1 h0
  generalize recTextS a b c d = t at hz ⊢
  have ew : wrap64 ((t.size : Int) + 1) = (t.size : Int) + 1 := wrap64_id _ (by omega) (by omega)
  obtain ⟨v, h2, hv0, hv1⟩ := pick_ok 5 (p := q) (n := (t.size : Int) + 1) hs (by omega) (by omega) (by omega) (by omega)
  obtain ⟨u, h3, hu0, hu1⟩ := pick_ok 5 (p := q + 1) (n := 8) hs (by omega) (by omega) (by omega) (by omega)
  refine ex_bind (a := (v, q + 1)) (by rw [ew]; exact at_pick h2) ?_
  refine ex_bind (a := (u, q + 1 + 1)) (at_pick h3) ?_
  by_cases c0 : u = 0
  · exact ex_if c0 (ex_if hv0 (ex_if (show v ≤ (t.size : Int) by omega) ⟨_, rfl⟩))
  refine ex_else c0 ?_
  by_cases c1 : u = 1
  · refine ex_if c1 (ex_if hv0 (ex_if (show v ≤ (t.size : Int) by omega) ?_))
    obtain ⟨x, h4, hx0, hx1⟩ := pick_ok 5 (p := q + 1 + 1) (n := 5) hs (by omega) (by omega) (by omega) (by omega)
    have h5 := of_some (l := words5) rfl h4 hx0 hx1
    have h6 := rd_size words5 words5_size x
    generalize rdOf ByteArray.empty words5 x = y at h5 h6
    refine ex_bind h5 ?_
    have e1 : (t.extract 0 v.toNat).size ≤ 20 := by rw [ByteArray.size_extract]; omega
    have e2 : (t.extract v.toNat t.size).size ≤ 20 := by rw [ByteArray.size_extract]; omega
    have e3 : (t.extract 0 v.toNat).size + y.size ≤ 9223372036854775807 := by omega
    have e4 : ((t.extract 0 v.toNat) ++ y).size + (t.extract v.toNat t.size).size ≤ 9223372036854775807 := by rw [ByteArray.size_append]; omega
    exact ex_if e3 (ex_if e4 ⟨_, rfl⟩)
  · exact ex_else c1 ⟨_, rfl⟩
end Go.Proofs.YtddagnomnamfdaaDoor.Ta
