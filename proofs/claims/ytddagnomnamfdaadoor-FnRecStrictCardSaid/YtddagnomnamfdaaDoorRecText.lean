import Derived.Test.YtddagnomnamfdaaDoorTa
import Derived.Test.YtddagnomnamfdaaDoorShelfA
import Derived.Lib.SmallJoins
import Derived.Handy
import Derived.Lib.AppendIntMem
import Derived.Lib.ItoaLen
namespace Go.Proofs.YtddagnomnamfdaaDoor.Ta
open Go.RowKit Go.Proofs.YtddagnomnamfdaaDoorW.PrintWords Go.Proofs.YtddagnomnamfdaaDoorW.PrintLast Go.Proofs.YtddagnomnamfdaaDoorW.PrintMore
/-- The word of a kind; a record's text. -/
def wordL (a : Int) : List UInt8 := if a = 1 then [100, 105, 114, 116, 121] else [99, 108, 101, 97, 110]
def recTextL (a b c d : Int) : List UInt8 := if recOkB a b c d = true then Lib.join [wordL a, Lib.itoa b, Lib.itoa c, Lib.itoa d] [32] else []
def recTextS (a b c d : Int) : ByteArray := ⟨(recTextL a b c d).toArray⟩
theorem tabKept {w w' : World} (h : Lib.TabIs Tryd.prog w "internal/strconv.uint64pow10" .u64 Lib.pow10Tab) (hb : Below w.heap.size w w') : Lib.TabIs Tryd.prog w' "internal/strconv.uint64pow10" .u64 Lib.pow10Tab :=
  Joins.tab_stays (g := 2) (by kernel_rfl) h hb (Nat.le_refl _)
theorem itoa_any (n : Int) (h0 : -9223372036854775808 ≤ n) (h1 : n ≤ 9223372036854775807) (w : World) (htab : Lib.TabIs Tryd.prog w "internal/strconv.uint64pow10" .u64 Lib.pow10Tab) :
    Calls Tryd.prog 19 #[.int .i64 n] w fun e w' => e = .returned (.string ⟨(Lib.itoa n).toArray⟩) ∧ Below w.heap.size w w' := by
  refine (Tryd.strconv_Itoa n h0 h1 w htab).mono ?_
  rintro e w' ⟨rfl, k, os, rfl⟩
  exact ⟨rfl, Lib.below_grow _ w (Nat.le_refl _) k os⟩
theorem assert_dirty (v : Value) (w : World) : (Instr.typeAssert (.iface 61 v) 38 61 true).run Tryd.prog w = .ok (.tuple #[v, .bool true]) w := by kernel_rfl
theorem assert_not (v : Value) (w : World) : (Instr.typeAssert (.iface 62 v) 38 61 true).run Tryd.prog w = .ok (.tuple #[(.agg #[.int .i64 0, .int .i64 0, .int .i64 0, .int .i64 0]), .bool false]) w := by kernel_rfl
theorem assert_clean (v : Value) (w : World) : (Instr.typeAssert (.iface 62 v) 38 62 true).run Tryd.prog w = .ok (.tuple #[v, .bool true]) w := by kernel_rfl
set_option maxHeartbeats 1000000 in
set_option maxRecDepth 100000 in
theorem entryWord_dirty (a b c d : Int) (w : World) : Calls Tryd.prog 18 #[.iface 61 (.agg #[.int .i64 a, .int .i64 b, .int .i64 c, .int .i64 d])] w fun e w' => e = .returned (.string ⟨#[100, 105, 114, 116, 121]⟩) ∧ w = w' := by
  have h1 := assert_dirty
  have h2 := assert_not
  have h3 := assert_clean
  go_enter Tryd.func18, Tryd.ntmps18
  go_wp2
  go_ret
  exact ⟨rfl, rfl⟩
set_option maxHeartbeats 1000000 in
set_option maxRecDepth 100000 in
theorem entryWord_clean (a b c d : Int) (w : World) : Calls Tryd.prog 18 #[.iface 62 (.agg #[.int .i64 a, .int .i64 b, .int .i64 c, .int .i64 d])] w fun e w' => e = .returned (.string ⟨#[99, 108, 101, 97, 110]⟩) ∧ w = w' := by
  have h1 := assert_dirty
  have h2 := assert_not
  have h3 := assert_clean
  go_enter Tryd.func18, Tryd.ntmps18
  go_wp2
  go_ret
  exact ⟨rfl, rfl⟩
theorem itoa_small {n : Int} (h0 : 0 ≤ n) (h1 : n ≤ 600) : (⟨(Lib.itoa n).toArray⟩ : ByteArray).size ≤ 100 := by
  have h := Lib.itoa_length_le n (by omega) (by omega)
  show (Lib.itoa n).toArray.size ≤ 100
  rw [List.size_toArray]
  omega
theorem joinFour (x1 x2 x3 x4 : ByteArray) (h1 : x1.size ≤ 100) (h2 : x2.size ≤ 100) (h3 : x3.size ≤ 100) (h4 : x4.size ≤ 100) (w : World) :
    Calls Tryd.prog 20 #[.slice (some ⟨w.heap.size, 0, none⟩) 4 4, .string ⟨#[32]⟩] (w.alloc (.cells #[.string x1, .string x2, .string x3, .string x4] 9)) fun e w' => e = .returned (.string ⟨(Lib.join [x1.data.toList, x2.data.toList, x3.data.toList, x4.data.toList] [32]).toArray⟩) ∧ Below (w.heap.size + 1) (w.alloc (.cells #[.string x1, .string x2, .string x3, .string x4] 9)) w' := by
  have hn := blk_new w (.cells #[.string x1, .string x2, .string x3, .string x4] 9)
  have h := Tryd.strings_Join w.heap.size 0 4 [x1, x2, x3, x4] ⟨#[32]⟩ (w.alloc (.cells #[.string x1, .string x2, .string x3, .string x4] 9))
    (fun j x hj => by
      rw [Nat.zero_add, blk_cell hn j]
      rcases j with _ | _ | _ | _ | j
      · obtain rfl := Option.some.inj hj; rfl
      · obtain rfl := Option.some.inj hj; rfl
      · obtain rfl := Option.some.inj hj; rfl
      · obtain rfl := Option.some.inj hj; rfl
      · simp at hj)
    (by rw [World.size_alloc]; omega) (by simp) (by simp)
    (by
      have e1 : x1.data.toList.length = x1.size := by simp
      have e2 : x2.data.toList.length = x2.size := by simp
      have e3 : x3.data.toList.length = x3.size := by simp
      have e4 : x4.data.toList.length = x4.size := by simp
      simp [Lib.join, List.intercalate, List.intersperse]
      omega)
  refine h.mono ?_
  rintro e w' ⟨rfl, hb⟩
  refine ⟨rfl, ?_⟩
  rw [World.size_alloc] at hb
  exact hb
theorem keepT3 {p q r : Prop} {w7 W : World} (h : p ∧ q ∧ r ∧ Below w7.heap.size w7 W) : Below w7.heap.size w7 W := h.2.2.2
theorem keep3 {a b c : Addr} {va vb vc : Value} {w7 W W' : World} (h : W.cell? a = some va ∧ W.cell? b = some vb ∧ W.cell? c = some vc ∧ Below w7.heap.size w7 W) (hb : Below W.heap.size W W') : W'.cell? a = some va ∧ W'.cell? b = some vb ∧ W'.cell? c = some vc ∧ Below w7.heap.size w7 W' :=
  ⟨up hb h.1, up hb h.2.1, up hb h.2.2.1, below_then h.2.2.2 h.2.2.2.size hb⟩
set_option maxHeartbeats 2000000 in
set_option maxRecDepth 100000 in
theorem impl_RecText.calls (a b c d : Int) (w : World) (htab : Lib.TabIs Tryd.prog w "internal/strconv.uint64pow10" .u64 Lib.pow10Tab) :
    Calls Tryd.prog 8 #[.agg #[.int .i64 a, .int .i64 b, .int .i64 c, .int .i64 d]] w fun e w' => e = .returned (.string (recTextS a b c d)) ∧ Below w.heap.size w w' := by
  have hu24 := Tryd.underlying24
  have hbox := blk_new w (.cells #[.int .i64 a, .int .i64 b, .int .i64 c, .int .i64 d] 24)
  have hB1 := below_alloc (Below.refl _ w) (.cells #[.int .i64 a, .int .i64 b, .int .i64 c, .int .i64 d] 24)
  go_enter Tryd.func8, Tryd.ntmps8
  go_wp2_with fail
  refine (impl_RecOk.calls a b c d (recOkB a b c d) _ rfl).mono ?_
  rintro e w2 ⟨rfl, hb2⟩
  have hB2 := below_then hB1 hB1.size hb2
  have hbx := blk_below hbox hb2
  have hq0 : w2.cell? ⟨w.heap.size, 0, none⟩ = some (.int .i64 a) := (blk_cell hbx 0).trans rfl
  have hq1 : w2.cell? ⟨w.heap.size, 1, none⟩ = some (.int .i64 b) := (blk_cell hbx 1).trans rfl
  have hq2 : w2.cell? ⟨w.heap.size, 2, none⟩ = some (.int .i64 c) := (blk_cell hbx 2).trans rfl
  have hq3 : w2.cell? ⟨w.heap.size, 3, none⟩ = some (.int .i64 d) := (blk_cell hbx 3).trans rfl
  clear hb2 hbox hB1
  cases hok : recOkB a b c d with
  | false =>
    have hs : Aside0 (recTextS a b c d = ⟨#[]⟩) := ⟨by unfold recTextS recTextL; rw [hok]; rfl⟩
    clear hok
    go_wp2
    go_ret
    exact ⟨by rw [hs.out]; rfl, hB2⟩
  | true =>
    go_wp2_with fail
    refine (entryOf_any a b c d _).mono ?_
    rintro e w3 ⟨rfl, rfl⟩
    have hok2 := Aside0.mk hok
    have hk : a = 1 ∨ a = 2 := by have h := hok; unfold recOkB at h; exact (of_decide_eq_true h).1
    clear hok
    rcases hk with h | h
    · subst h
      simp only [entryV, if_true]
      go_wp2_with go_in
      have hB5 := below_alloc (below_alloc (below_alloc (below_alloc hB2 (.cells #[.int .i64 1, .int .i64 b, .int .i64 c, .int .i64 d] 24)) (.cells #[.int .i64 1, .int .i64 b, .int .i64 c, .int .i64 d] 61)) (.cells #[.int .i64 1, .int .i64 b, .int .i64 c, .int .i64 d] 24)) (.cells #[.int .i64 1, .int .i64 b, .int .i64 c, .int .i64 d] 24)
      have hX5 := blk_new (((w2.alloc (.cells #[.int .i64 1, .int .i64 b, .int .i64 c, .int .i64 d] 24)).alloc (.cells #[.int .i64 1, .int .i64 b, .int .i64 c, .int .i64 d] 61)).alloc (.cells #[.int .i64 1, .int .i64 b, .int .i64 c, .int .i64 d] 24)) (.cells #[.int .i64 1, .int .i64 b, .int .i64 c, .int .i64 d] 24)
      simp only [World.size_alloc] at hX5
      generalize hw : (((w2.alloc (.cells #[.int .i64 1, .int .i64 b, .int .i64 c, .int .i64 d] 24)).alloc (.cells #[.int .i64 1, .int .i64 b, .int .i64 c, .int .i64 d] 61)).alloc (.cells #[.int .i64 1, .int .i64 b, .int .i64 c, .int .i64 d] 24)).alloc (.cells #[.int .i64 1, .int .i64 b, .int .i64 c, .int .i64 d] 24) = w5 at hB5 hX5
      clear hw
      have hT := Aside0.mk (tabKept htab hB5)
      have hr : 1 ≤ b ∧ b ≤ 600 ∧ 1 ≤ c ∧ c ≤ 6 ∧ 0 ≤ d ∧ d ≤ 9 := by have h := hok2.out; unfold recOkB at h; exact (of_decide_eq_true h).2
      generalize w2.heap.size + 1 + 1 + 1 = g at hX5 ⊢
      have hHB := Aside0.mk hB5
      have c1 : w5.cell? ⟨g, 1, none⟩ = some (.int .i64 b) := (blk_cell hX5 1).trans rfl
      have c2 : w5.cell? ⟨g, 2, none⟩ = some (.int .i64 c) := (blk_cell hX5 2).trans rfl
      have c3 : w5.cell? ⟨g, 3, none⟩ = some (.int .i64 d) := (blk_cell hX5 3).trans rfl
      have hSS := (⟨c1, c2, c3, Below.refl _ w5⟩ : _ ∧ _ ∧ _ ∧ Below w5.heap.size w5 w5)
      clear hB5 hX5 hB2 hbx hq0 hq1 hq2 hq3 htab
      go_region_held3 (fun W => W.cell? ⟨g, 1, none⟩ = some (.int .i64 b) ∧ W.cell? ⟨g, 2, none⟩ = some (.int .i64 c) ∧ W.cell? ⟨g, 3, none⟩ = some (.int .i64 d) ∧ Below w5.heap.size w5 W)
        (first | assumption | exact keep3 hSS (below_drew (Below.refl _ w5)) | exact keep3 (by assumption) (below_alloc (Below.refl _ _) _) | exact keep3 (by assumption) hb | go_keep)
        (first
          | (go_at_call 18; refine (entryWord_dirty _ _ _ _ _).mono ?_; rintro e w6 ⟨rfl, rfl⟩)
          | (go_at_call 19; refine (itoa_any _ (by omega) (by omega) _ (tabKept hT.out (keepT3 (by assumption)))).mono ?_; rintro e w7 ⟨rfl, hb⟩)
          | fail)
      have hbb := keepT3 (by assumption : _ ∧ _ ∧ _ ∧ Below w5.heap.size w5 (w7.alloc _))
      have hB6 := below_then hHB.out hHB.out.size hbb
      clear hbb hSS c1 c2 c3 hT
      go_wp2_with fail
      refine (joinFour _ _ _ _ (by decide) (itoa_small (by omega) (by omega)) (itoa_small (by omega) (by omega)) (itoa_small (by omega) (by omega)) _).mono ?_
      rintro e w8 ⟨rfl, hb8⟩
      have hB8 := below_then hB6 hB6.size (by rw [World.size_alloc]; exact hb8)
      clear hB6 hb8
      go_wp2
      go_ret
      refine ⟨?_, hB8⟩
      have e1 : recTextS 1 b c d = ⟨(Lib.join [wordL 1, Lib.itoa b, Lib.itoa c, Lib.itoa d] [32]).toArray⟩ := by unfold recTextS recTextL; rw [if_pos hok2.out]
      rw [e1]
      rfl
    · subst h
      simp only [entryV, if_neg (show ¬ ((2 : Int) = 1) by decide), if_true]
      go_wp2_with go_in
      have hB5 := below_alloc (below_alloc (below_alloc (below_alloc hB2 (.cells #[.int .i64 2, .int .i64 b, .int .i64 c, .int .i64 d] 24)) (.cells #[.int .i64 2, .int .i64 b, .int .i64 c, .int .i64 d] 62)) (.cells #[.int .i64 2, .int .i64 b, .int .i64 c, .int .i64 d] 24)) (.cells #[.int .i64 2, .int .i64 b, .int .i64 c, .int .i64 d] 24)
      have hX5 := blk_new (((w2.alloc (.cells #[.int .i64 2, .int .i64 b, .int .i64 c, .int .i64 d] 24)).alloc (.cells #[.int .i64 2, .int .i64 b, .int .i64 c, .int .i64 d] 62)).alloc (.cells #[.int .i64 2, .int .i64 b, .int .i64 c, .int .i64 d] 24)) (.cells #[.int .i64 2, .int .i64 b, .int .i64 c, .int .i64 d] 24)
      simp only [World.size_alloc] at hX5
      generalize hw : (((w2.alloc (.cells #[.int .i64 2, .int .i64 b, .int .i64 c, .int .i64 d] 24)).alloc (.cells #[.int .i64 2, .int .i64 b, .int .i64 c, .int .i64 d] 62)).alloc (.cells #[.int .i64 2, .int .i64 b, .int .i64 c, .int .i64 d] 24)).alloc (.cells #[.int .i64 2, .int .i64 b, .int .i64 c, .int .i64 d] 24) = w5 at hB5 hX5
      clear hw
      have hT := Aside0.mk (tabKept htab hB5)
      have hr : 1 ≤ b ∧ b ≤ 600 ∧ 1 ≤ c ∧ c ≤ 6 ∧ 0 ≤ d ∧ d ≤ 9 := by have h := hok2.out; unfold recOkB at h; exact (of_decide_eq_true h).2
      generalize w2.heap.size + 1 + 1 + 1 = g at hX5 ⊢
      have hHB := Aside0.mk hB5
      have c1 : w5.cell? ⟨g, 1, none⟩ = some (.int .i64 b) := (blk_cell hX5 1).trans rfl
      have c2 : w5.cell? ⟨g, 2, none⟩ = some (.int .i64 c) := (blk_cell hX5 2).trans rfl
      have c3 : w5.cell? ⟨g, 3, none⟩ = some (.int .i64 d) := (blk_cell hX5 3).trans rfl
      have hSS := (⟨c1, c2, c3, Below.refl _ w5⟩ : _ ∧ _ ∧ _ ∧ Below w5.heap.size w5 w5)
      clear hB5 hX5 hB2 hbx hq0 hq1 hq2 hq3 htab
      go_region_held3 (fun W => W.cell? ⟨g, 1, none⟩ = some (.int .i64 b) ∧ W.cell? ⟨g, 2, none⟩ = some (.int .i64 c) ∧ W.cell? ⟨g, 3, none⟩ = some (.int .i64 d) ∧ Below w5.heap.size w5 W)
        (first | assumption | exact keep3 hSS (below_drew (Below.refl _ w5)) | exact keep3 (by assumption) (below_alloc (Below.refl _ _) _) | exact keep3 (by assumption) hb | go_keep)
        (first
          | (go_at_call 18; refine (entryWord_clean _ _ _ _ _).mono ?_; rintro e w6 ⟨rfl, rfl⟩)
          | (go_at_call 19; refine (itoa_any _ (by omega) (by omega) _ (tabKept hT.out (keepT3 (by assumption)))).mono ?_; rintro e w7 ⟨rfl, hb⟩)
          | fail)
      have hbb := keepT3 (by assumption : _ ∧ _ ∧ _ ∧ Below w5.heap.size w5 (w7.alloc _))
      have hB6 := below_then hHB.out hHB.out.size hbb
      clear hbb hSS c1 c2 c3 hT
      go_wp2_with fail
      refine (joinFour _ _ _ _ (by decide) (itoa_small (by omega) (by omega)) (itoa_small (by omega) (by omega)) (itoa_small (by omega) (by omega)) _).mono ?_
      rintro e w8 ⟨rfl, hb8⟩
      have hB8 := below_then hB6 hB6.size (by rw [World.size_alloc]; exact hb8)
      clear hB6 hb8
      go_wp2
      go_ret
      refine ⟨?_, hB8⟩
      have e1 : recTextS 2 b c d = ⟨(Lib.join [wordL 2, Lib.itoa b, Lib.itoa c, Lib.itoa d] [32]).toArray⟩ := by unfold recTextS recTextL; rw [if_pos hok2.out]
      rw [e1]
      rfl
end Go.Proofs.YtddagnomnamfdaaDoor.Ta
