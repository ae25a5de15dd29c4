import Derived.Test.YtddagnomnamfdaaDoorReads
import Derived.Lib.AtoiErrMem
namespace Go.Proofs.YtddagnomnamfdaaDoor.Ta
open Go.RowKit Go.Proofs.YtddagnomnamfdaaDoorW.PrintWords Go.Proofs.YtddagnomnamfdaaDoorW.PrintLast Go.Proofs.YtddagnomnamfdaaDoorW.PrintMore
theorem atoi_ok (x : ByteArray) (n : Int) (hl : x.size ≤ 18) (h : Lib.atoi x.data.toList = some n) (w : World) :
    Calls Tryd.prog 24 #[.string x] w fun e w' => e = .returned (.tuple #[.int .i64 n, .nilIface]) ∧ Below w.heap.size w w' := by
  refine (Tryd.strconv_Atoi x n hl h w).mono ?_
  rintro e w' ⟨rfl, t, rfl⟩
  exact ⟨rfl, Lib.bytesWorld_below _ _ _⟩
theorem atoi_no (x : ByteArray) (hl : x.size ≤ 18) (h : Lib.atoi x.data.toList = none) (ev : Value) (w : World) (hv : w.cell? ⟨0, 0, none⟩ = some ev) (hev : ev = .nilIface ∨ ∃ te pe, ev = .iface te pe) :
    Calls Tryd.prog 24 #[.string x] w fun e w' => ∃ p, e = .returned (.tuple #[.int .i64 0, .iface 78 (.pointer (some ⟨p, 0, none⟩))]) ∧ Below w.heap.size w w' := by
  refine (Tryd.strconv_Atoi_err x hl h ev w hv hev).mono ?_
  rintro e w' ⟨p, rfl, -, -, hb⟩
  exact ⟨p, rfl, hb⟩
theorem split_any (s : ByteArray) (hs : s.size ≤ 20) (m : Int) (w : World) (hM : w.cell? ⟨3, 0, none⟩ = some (.int .i64 m)) :
    Calls Tryd.prog 23 #[.string s, .string ⟨#[32]⟩] w fun e w' => ∃ (g n : Nat) (xs : List ByteArray), e = .returned (.slice (some ⟨g, 0, none⟩) (n + 1) (n + 1)) ∧ w'.heap[g]? = some (.cells (xs.map Value.string).toArray 9 (0, 0)) ∧ w.heap.size ≤ g ∧ Below w.heap.size w w' ∧ n = Lib.countB s ⟨#[32]⟩ ∧ xs = Lib.splitB ⟨#[32]⟩ 0 n s := by
  refine (Tryd.strings_Split s ⟨#[32]⟩ m w (by omega) hM (by decide)).mono ?_
  rintro e w' ⟨rfl, rfl⟩
  exact ⟨_, _, _, rfl, blk_new w _, Nat.le_refl _, below_alloc (Below.refl _ w) _, rfl, rfl⟩
/-- The pieces of a text that some record has. -/
def Pieces (s x0 x1 x2 x3 : ByteArray) : Prop := ∀ x y z u, recOkB x y z u = true → recTextS x y z u = s → [x0, x1, x2, x3] = [⟨(wordL x).toArray⟩, ⟨(Lib.itoa y).toArray⟩, ⟨(Lib.itoa z).toArray⟩, ⟨(Lib.itoa u).toArray⟩]
theorem reads_none {s x0 x1 x2 x3 : ByteArray} (H : Pieces s x0 x1 x2 x3) (h : (x0 ≠ ⟨#[100, 105, 114, 116, 121]⟩ ∧ x0 ≠ ⟨#[99, 108, 101, 97, 110]⟩) ∨ Lib.atoi x1.data.toList = none ∨ Lib.atoi x2.data.toList = none ∨ Lib.atoi x3.data.toList = none) : Reads s 0 0 0 0 false := .inr ⟨rfl, rfl, rfl, rfl, rfl, fun x y z u hk e => by
  have hp := H x y z u hk e
  obtain ⟨p1, p2, p3, p4, p5, p6, p7⟩ := ok_parts hk
  simp only [List.cons.injEq, and_true] at hp
  obtain ⟨rfl, rfl, rfl, rfl⟩ := hp
  rcases h with ⟨h1, h2⟩ | h | h | h
  · rcases p1 with rfl | rfl
    · exact h1 rfl
    · exact h2 rfl
  · simp [atoi_itoa (n := y) (by omega) (by omega)] at h
  · simp [atoi_itoa (n := z) (by omega) (by omega)] at h
  · simp [atoi_itoa (n := u) (by omega) (by omega)] at h⟩
theorem reads_bad {s x0 x1 x2 x3 : ByteArray} {k b c d : Int} (H : Pieces s x0 x1 x2 x3) (hk0 : (k = 1 ∧ x0 = ⟨#[100, 105, 114, 116, 121]⟩) ∨ (k = 2 ∧ x0 = ⟨#[99, 108, 101, 97, 110]⟩)) (h1 : Lib.atoi x1.data.toList = some b) (h2 : Lib.atoi x2.data.toList = some c) (h3 : Lib.atoi x3.data.toList = some d)
    (hb : ¬ (recOkB k b c d = true ∧ recTextS k b c d = s)) : Reads s 0 0 0 0 false := .inr ⟨rfl, rfl, rfl, rfl, rfl, fun x y z u hk e => by
  have hp := H x y z u hk e
  obtain ⟨p1, p2, p3, p4, p5, p6, p7⟩ := ok_parts hk
  simp only [List.cons.injEq, and_true] at hp
  obtain ⟨rfl, rfl, rfl, rfl⟩ := hp
  simp only [atoi_itoa (n := y) (by omega) (by omega), atoi_itoa (n := z) (by omega) (by omega), atoi_itoa (n := u) (by omega) (by omega), Option.some.injEq] at h1 h2 h3
  subst h1 h2 h3
  have hx : k = x := by
    rcases hk0 with ⟨rfl, h⟩ | ⟨rfl, h⟩ <;> rcases p1 with rfl | rfl
    · rfl
    · exact absurd h (by decide)
    · exact absurd h (by decide)
    · rfl
  subst hx
  exact hb ⟨hk, e⟩⟩
theorem strL_lit {x : ByteArray} {l : List UInt8} (h : x ≠ ⟨l.toArray⟩) : (x.toList == l) = false := beq_false_of_ne (fun q => h (bytes_mk (by rw [← ByteArray.toList_eq]; exact q)))
theorem strL_ne {x y : ByteArray} (h : x ≠ y) : (x.toList == y.toList) = false := beq_false_of_ne (fun q => h (by
  rw [ByteArray.toList_eq, ByteArray.toList_eq] at q
  rw [bytes_mk q]))
theorem strL_eq {x y : ByteArray} (h : x = y) : (x.toList == y.toList) = true := by
  subst h
  exact beq_self_eq_true _
def Got (j : Nat) (x1 x2 x3 : ByteArray) (a b c : Int) : Prop := (1 ≤ j → Lib.atoi x1.data.toList = some a) ∧ (2 ≤ j → Lib.atoi x2.data.toList = some b) ∧ (3 ≤ j → Lib.atoi x3.data.toList = some c)
set_option maxHeartbeats 4000000 in
set_option maxRecDepth 100000 in
theorem impl_RecRead.calls (s : ByteArray) (m : Int) (ev : Value) (w : World) (htab : Lib.TabIs Tryd.prog w "internal/strconv.uint64pow10" .u64 Lib.pow10Tab)
    (hE : w.cell? ⟨0, 0, none⟩ = some ev) (hev : ev = .nilIface ∨ ∃ te pe, ev = .iface te pe) (hM : w.cell? ⟨3, 0, none⟩ = some (.int .i64 m)) :
    Calls Tryd.prog 10 #[.string s] w fun e w' => ∃ (a b c d : Int) (ok : Bool), e = .returned (.tuple #[.agg #[.int .i64 a, .int .i64 b, .int .i64 c, .int .i64 d], .bool ok]) ∧ Reads s a b c d ok ∧ Below w.heap.size w w' := by
  have hu := Tryd.underlying24
  have hu2 := Tryd.underlying43
  have hu3 := Tryd.underlying47
  have hr := blk_new w (.cells #[.int .i64 0, .int .i64 0, .int .i64 0, .int .i64 0] 24)
  have hB1 := below_alloc (Below.refl _ w) (.cells #[.int .i64 0, .int .i64 0, .int .i64 0, .int .i64 0] 24)
  by_cases g0 : 20 < s.size
  · have h0 : decide ((20 : Int) < (s.size : Int)) = true := decide_eq_true (by omega)
    go_enter Tryd.func10, Tryd.ntmps10
    go_wp2
    refine bodyPost_ret (results_ct rfl _ _ w.heap.size 24 #[.int .i64 0, .int .i64 0, .int .i64 0, .int .i64 0] (0, 0) _ rfl hr hu rfl (by kernel_rfl)) rfl ?_
    exact ⟨0, 0, 0, 0, false, rfl, reads_long g0, hB1⟩
  · have h0 : decide ((20 : Int) < (s.size : Int)) = false := decide_eq_false (by omega)
    go_enter Tryd.func10, Tryd.ntmps10
    go_wp2_with fail
    refine (split_any s (by omega) m _ (up hB1 hM)).mono ?_
    rintro e w2 ⟨g, n, xs, rfl, hx2, hgl, hb, hn, hxs⟩
    have hB2 := below_then hB1 hB1.size hb
    have hr2 := blk_below hr hb
    have hgl2 : w.heap.size + 1 ≤ g := by rw [World.size_alloc] at hgl; exact hgl
    clear hB1 hr hb h0 hgl
    have z0 : w2.cell? ⟨w.heap.size, 0, none⟩ = some (.int .i64 0) := (blk_cell hr2 0).trans rfl
    have zf0 : w2.frozen? ⟨w.heap.size, 0, none⟩ = false := blk_frozen hr2 0
    have z1 : w2.cell? ⟨w.heap.size, 1, none⟩ = some (.int .i64 0) := (blk_cell hr2 1).trans rfl
    have zf1 : w2.frozen? ⟨w.heap.size, 1, none⟩ = false := blk_frozen hr2 1
    have z2 : w2.cell? ⟨w.heap.size, 2, none⟩ = some (.int .i64 0) := (blk_cell hr2 2).trans rfl
    have zf2 : w2.frozen? ⟨w.heap.size, 2, none⟩ = false := blk_frozen hr2 2
    have z3 : w2.cell? ⟨w.heap.size, 3, none⟩ = some (.int .i64 0) := (blk_cell hr2 3).trans rfl
    have zf3 : w2.frozen? ⟨w.heap.size, 3, none⟩ = false := blk_frozen hr2 3
    by_cases h4 : n = 3
    · subst h4
      have hlen := Lib.splitB_all ⟨#[32]⟩ (by decide) 0 3 s hn.symm
      have hsm := split_small ⟨#[32]⟩ rfl 3 s hn.symm
      rw [← hxs] at hlen hsm
      obtain ⟨x0, x1, x2, x3, rfl⟩ := four_of hlen
      have HP := Aside0.mk (show Pieces s x0 x1 x2 x3 from fun x y z u hk e => by
        rw [hxs, ← e]
        exact (split_text hk).2)
      have l1 := hsm x1 (by simp)
      have l2 := hsm x2 (by simp)
      have l3 := hsm x3 (by simp)
      clear hn hxs hlen hsm
      have d0 : w2.cell? ⟨g, 0, none⟩ = some (.string x0) := (blk_cell hx2 0).trans rfl
      have hlt := blk_lt hx2
      have HX2 : Aside0 (w2.heap[g]? = some (.cells #[.string x0, .string x1, .string x2, .string x3] 9 (0, 0))) := ⟨hx2⟩
      clear hx2
      have hlr := blk_lt hr2
      by_cases k1 : x0 = ⟨#[100, 105, 114, 116, 121]⟩
      · subst k1
        go_wp2_with fail
        go_loopw [35] (fun v W => ∃ (j : Nat) (a b c : Int), j ≤ 3 ∧ v = .int .i64 j ∧ Aside0 (W.heap[w2.heap.size]? = some (.cells #[.int .i64 1, .int .i64 a, .int .i64 b, .int .i64 c] 24 (0, 0))) ∧ Aside0 (W.heap[g]? = some (.cells #[.string ⟨#[100, 105, 114, 116, 121]⟩, .string x1, .string x2, .string x3] 9 (0, 0))) ∧ Aside0 (W.heap[w2.heap.size + 1]? = some (.cells #[.pointer (some ⟨w2.heap.size, 1, none⟩), .pointer (some ⟨w2.heap.size, 2, none⟩), .pointer (some ⟨w2.heap.size, 3, none⟩)] 46 (0, 0))) ∧ Aside0 (Below w2.heap.size w2 W) ∧ Aside0 (Got j x1 x2 x3 a b c)) (fun v _ => 3 - (intOf v).toNat)
        case atStart =>
          have hsz : (w2.alloc (.cells #[.int .i64 1, .int .i64 0, .int .i64 0, .int .i64 0] 24)).heap.size = w2.heap.size + 1 := World.size_alloc _ _
          refine ⟨0, 0, 0, 0, by decide, rfl, ⟨blk_alloc (blk_new _ _) _⟩, ⟨blk_alloc (blk_alloc HX2.out _) _⟩, ⟨?_⟩, ⟨below_alloc (below_alloc (Below.refl _ _) _) _⟩, ⟨fun h => absurd h (by decide), fun h => absurd h (by decide), fun h => absurd h (by decide)⟩⟩
          rw [← hsz]
          exact blk_new _ _
        case round =>
          obtain ⟨j, a, b, c, hj, rfl, hR, hX, hG, hbr, hgot⟩ := hrel
          have hrr := blk_below hr2 hbr.out
          have hBr := below_then hB2 hB2.size hbr.out
          by_cases hlt : j < 3
          · obtain rfl | rfl | rfl : j = 0 ∨ j = 1 ∨ j = 2 := by omega
            · have p1 : wr.cell? ⟨w2.heap.size + 1, 0, none⟩ = some (.pointer (some ⟨w2.heap.size, 1, none⟩)) := (blk_cell hG.out 0).trans rfl
              have p2 : wr.cell? ⟨g, 1, none⟩ = some (.string x1) := (blk_cell hX.out 1).trans rfl
              go_wp2_with fail
              cases hat : Lib.atoi x1.data.toList with
              | some n =>
                refine (atoi_ok x1 n (by omega) hat _).mono ?_
                rintro e w5 ⟨rfl, hb5⟩
                have hR5 := blk_below hR.out hb5
                have q1 : w5.cell? ⟨w2.heap.size, 1, none⟩ = some (.int .i64 a) := (blk_cell hR5 1).trans rfl
                have q2 : w5.frozen? ⟨w2.heap.size, 1, none⟩ = false := blk_frozen hR5 1
                have hat2 := Aside0.mk hat
                clear hat
                go_wp2
                have hat := hat2.out
                exact ⟨⟨1, n, b, c, by decide, by go_num, ⟨blk_put hR5 1 _ rfl⟩, ⟨blk_far (blk_below hX.out hb5) (by show g ≠ w2.heap.size; omega) _⟩, ⟨blk_far (blk_below hG.out hb5) (by show w2.heap.size + 1 ≠ w2.heap.size; omega) _⟩, ⟨(below_then hbr.out hbr.out.size hb5).setCell (p := ⟨w2.heap.size, 1, none⟩) (Nat.le_refl _) _⟩, ⟨fun _ => hat, fun h => absurd h (by decide), fun h => absurd h (by decide)⟩⟩, by simp [intOf]⟩
              | none =>
                refine (atoi_no x1 (by omega) hat ev _ (up hBr hE) hev).mono ?_
                rintro e w5 ⟨p, rfl, hb5⟩
                have hq := blk_below hrr hb5
                have y0 : w5.cell? ⟨w.heap.size, 0, none⟩ = some (.int .i64 0) := (blk_cell hq 0).trans rfl
                have yf0 : w5.frozen? ⟨w.heap.size, 0, none⟩ = false := blk_frozen hq 0
                have y1 : w5.cell? ⟨w.heap.size, 1, none⟩ = some (.int .i64 0) := (blk_cell hq 1).trans rfl
                have yf1 : w5.frozen? ⟨w.heap.size, 1, none⟩ = false := blk_frozen hq 1
                have y2 : w5.cell? ⟨w.heap.size, 2, none⟩ = some (.int .i64 0) := (blk_cell hq 2).trans rfl
                have yf2 : w5.frozen? ⟨w.heap.size, 2, none⟩ = false := blk_frozen hq 2
                have y3 : w5.cell? ⟨w.heap.size, 3, none⟩ = some (.int .i64 0) := (blk_cell hq 3).trans rfl
                have yf3 : w5.frozen? ⟨w.heap.size, 3, none⟩ = false := blk_frozen hq 3
                have hat2 := Aside0.mk hat
                clear hat
                go_wp2
                refine bodyPost_ret (results_ct rfl _ _ w.heap.size 24 #[.int .i64 0, .int .i64 0, .int .i64 0, .int .i64 0] (0, 0) _ rfl (put_blk hq 0 0 0 0) hu rfl (by kernel_rfl)) rfl ?_
                exact ⟨0, 0, 0, 0, false, rfl, reads_none HP.out (Or.inr (Or.inl hat2.out)), put_below (below_then hBr hBr.size hb5) (Nat.le_refl _) 0 0 0 0⟩
            · have p1 : wr.cell? ⟨w2.heap.size + 1, 1, none⟩ = some (.pointer (some ⟨w2.heap.size, 2, none⟩)) := (blk_cell hG.out 1).trans rfl
              have p2 : wr.cell? ⟨g, 2, none⟩ = some (.string x2) := (blk_cell hX.out 2).trans rfl
              go_wp2_with fail
              cases hat : Lib.atoi x2.data.toList with
              | some n =>
                refine (atoi_ok x2 n (by omega) hat _).mono ?_
                rintro e w5 ⟨rfl, hb5⟩
                have hR5 := blk_below hR.out hb5
                have q1 : w5.cell? ⟨w2.heap.size, 2, none⟩ = some (.int .i64 b) := (blk_cell hR5 2).trans rfl
                have q2 : w5.frozen? ⟨w2.heap.size, 2, none⟩ = false := blk_frozen hR5 2
                have hat2 := Aside0.mk hat
                clear hat
                go_wp2
                have hat := hat2.out
                exact ⟨⟨2, a, n, c, by decide, by go_num, ⟨blk_put hR5 2 _ rfl⟩, ⟨blk_far (blk_below hX.out hb5) (by show g ≠ w2.heap.size; omega) _⟩, ⟨blk_far (blk_below hG.out hb5) (by show w2.heap.size + 1 ≠ w2.heap.size; omega) _⟩, ⟨(below_then hbr.out hbr.out.size hb5).setCell (p := ⟨w2.heap.size, 2, none⟩) (Nat.le_refl _) _⟩, ⟨fun _ => hgot.out.1 (by decide), fun _ => hat, fun h => absurd h (by decide)⟩⟩, by simp [intOf]⟩
              | none =>
                refine (atoi_no x2 (by omega) hat ev _ (up hBr hE) hev).mono ?_
                rintro e w5 ⟨p, rfl, hb5⟩
                have hq := blk_below hrr hb5
                have y0 : w5.cell? ⟨w.heap.size, 0, none⟩ = some (.int .i64 0) := (blk_cell hq 0).trans rfl
                have yf0 : w5.frozen? ⟨w.heap.size, 0, none⟩ = false := blk_frozen hq 0
                have y1 : w5.cell? ⟨w.heap.size, 1, none⟩ = some (.int .i64 0) := (blk_cell hq 1).trans rfl
                have yf1 : w5.frozen? ⟨w.heap.size, 1, none⟩ = false := blk_frozen hq 1
                have y2 : w5.cell? ⟨w.heap.size, 2, none⟩ = some (.int .i64 0) := (blk_cell hq 2).trans rfl
                have yf2 : w5.frozen? ⟨w.heap.size, 2, none⟩ = false := blk_frozen hq 2
                have y3 : w5.cell? ⟨w.heap.size, 3, none⟩ = some (.int .i64 0) := (blk_cell hq 3).trans rfl
                have yf3 : w5.frozen? ⟨w.heap.size, 3, none⟩ = false := blk_frozen hq 3
                have hat2 := Aside0.mk hat
                clear hat
                go_wp2
                refine bodyPost_ret (results_ct rfl _ _ w.heap.size 24 #[.int .i64 0, .int .i64 0, .int .i64 0, .int .i64 0] (0, 0) _ rfl (put_blk hq 0 0 0 0) hu rfl (by kernel_rfl)) rfl ?_
                exact ⟨0, 0, 0, 0, false, rfl, reads_none HP.out (Or.inr (Or.inr (Or.inl hat2.out))), put_below (below_then hBr hBr.size hb5) (Nat.le_refl _) 0 0 0 0⟩
            · have p1 : wr.cell? ⟨w2.heap.size + 1, 2, none⟩ = some (.pointer (some ⟨w2.heap.size, 3, none⟩)) := (blk_cell hG.out 2).trans rfl
              have p2 : wr.cell? ⟨g, 3, none⟩ = some (.string x3) := (blk_cell hX.out 3).trans rfl
              go_wp2_with fail
              cases hat : Lib.atoi x3.data.toList with
              | some n =>
                refine (atoi_ok x3 n (by omega) hat _).mono ?_
                rintro e w5 ⟨rfl, hb5⟩
                have hR5 := blk_below hR.out hb5
                have q1 : w5.cell? ⟨w2.heap.size, 3, none⟩ = some (.int .i64 c) := (blk_cell hR5 3).trans rfl
                have q2 : w5.frozen? ⟨w2.heap.size, 3, none⟩ = false := blk_frozen hR5 3
                have hat2 := Aside0.mk hat
                clear hat
                go_wp2
                have hat := hat2.out
                exact ⟨⟨3, a, b, n, by decide, by go_num, ⟨blk_put hR5 3 _ rfl⟩, ⟨blk_far (blk_below hX.out hb5) (by show g ≠ w2.heap.size; omega) _⟩, ⟨blk_far (blk_below hG.out hb5) (by show w2.heap.size + 1 ≠ w2.heap.size; omega) _⟩, ⟨(below_then hbr.out hbr.out.size hb5).setCell (p := ⟨w2.heap.size, 3, none⟩) (Nat.le_refl _) _⟩, ⟨fun _ => hgot.out.1 (by decide), fun _ => hgot.out.2.1 (by decide), fun _ => hat⟩⟩, by simp [intOf]⟩
              | none =>
                refine (atoi_no x3 (by omega) hat ev _ (up hBr hE) hev).mono ?_
                rintro e w5 ⟨p, rfl, hb5⟩
                have hq := blk_below hrr hb5
                have y0 : w5.cell? ⟨w.heap.size, 0, none⟩ = some (.int .i64 0) := (blk_cell hq 0).trans rfl
                have yf0 : w5.frozen? ⟨w.heap.size, 0, none⟩ = false := blk_frozen hq 0
                have y1 : w5.cell? ⟨w.heap.size, 1, none⟩ = some (.int .i64 0) := (blk_cell hq 1).trans rfl
                have yf1 : w5.frozen? ⟨w.heap.size, 1, none⟩ = false := blk_frozen hq 1
                have y2 : w5.cell? ⟨w.heap.size, 2, none⟩ = some (.int .i64 0) := (blk_cell hq 2).trans rfl
                have yf2 : w5.frozen? ⟨w.heap.size, 2, none⟩ = false := blk_frozen hq 2
                have y3 : w5.cell? ⟨w.heap.size, 3, none⟩ = some (.int .i64 0) := (blk_cell hq 3).trans rfl
                have yf3 : w5.frozen? ⟨w.heap.size, 3, none⟩ = false := blk_frozen hq 3
                have hat2 := Aside0.mk hat
                clear hat
                go_wp2
                refine bodyPost_ret (results_ct rfl _ _ w.heap.size 24 #[.int .i64 0, .int .i64 0, .int .i64 0, .int .i64 0] (0, 0) _ rfl (put_blk hq 0 0 0 0) hu rfl (by kernel_rfl)) rfl ?_
                exact ⟨0, 0, 0, 0, false, rfl, reads_none HP.out (Or.inr (Or.inr (Or.inr hat2.out))), put_below (below_then hBr hBr.size hb5) (Nat.le_refl _) 0 0 0 0⟩
          · obtain rfl : j = 3 := by omega
            have c0 : wr.cell? ⟨w2.heap.size, 0, none⟩ = some (.int .i64 1) := (blk_cell hR.out 0).trans rfl
            have c1 : wr.cell? ⟨w2.heap.size, 1, none⟩ = some (.int .i64 a) := (blk_cell hR.out 1).trans rfl
            have c2 : wr.cell? ⟨w2.heap.size, 2, none⟩ = some (.int .i64 b) := (blk_cell hR.out 2).trans rfl
            have c3 : wr.cell? ⟨w2.heap.size, 3, none⟩ = some (.int .i64 c) := (blk_cell hR.out 3).trans rfl
            go_wp2_with fail
            refine (impl_RecOk.calls 1 a b c (recOkB 1 a b c) _ rfl).mono ?_
            rintro e w5 ⟨rfl, hb5⟩
            have hR5 := blk_below hR.out hb5
            have hrr5 := blk_below hrr hb5
            have hB5 := below_then hBr hBr.size hb5
            have HT := Aside0.mk (tabKept htab hB5)
            clear c0 c1 c2 c3 htab
            cases hok : recOkB 1 a b c with
            | false =>
              have hq := hrr5
              have y0 : w5.cell? ⟨w.heap.size, 0, none⟩ = some (.int .i64 0) := (blk_cell hq 0).trans rfl
              have yf0 : w5.frozen? ⟨w.heap.size, 0, none⟩ = false := blk_frozen hq 0
              have y1 : w5.cell? ⟨w.heap.size, 1, none⟩ = some (.int .i64 0) := (blk_cell hq 1).trans rfl
              have yf1 : w5.frozen? ⟨w.heap.size, 1, none⟩ = false := blk_frozen hq 1
              have y2 : w5.cell? ⟨w.heap.size, 2, none⟩ = some (.int .i64 0) := (blk_cell hq 2).trans rfl
              have yf2 : w5.frozen? ⟨w.heap.size, 2, none⟩ = false := blk_frozen hq 2
              have y3 : w5.cell? ⟨w.heap.size, 3, none⟩ = some (.int .i64 0) := (blk_cell hq 3).trans rfl
              have yf3 : w5.frozen? ⟨w.heap.size, 3, none⟩ = false := blk_frozen hq 3
              have hok2 := Aside0.mk hok
              clear hok
              go_wp2
              refine bodyPost_ret (results_ct rfl _ _ w.heap.size 24 #[.int .i64 0, .int .i64 0, .int .i64 0, .int .i64 0] (0, 0) _ rfl (put_blk hq 0 0 0 0) hu rfl (by kernel_rfl)) rfl ?_
              exact ⟨0, 0, 0, 0, false, rfl, reads_bad HP.out (Or.inl ⟨rfl, rfl⟩) (hgot.out.1 (by decide)) (hgot.out.2.1 (by decide)) (hgot.out.2.2 (by decide)) (fun h => by rw [hok2.out] at h; exact Bool.false_ne_true h.1), put_below hB5 (Nat.le_refl _) 0 0 0 0⟩
            | true =>
              have hok2 := Aside0.mk hok
              clear hok
              have c0 : w5.cell? ⟨w2.heap.size, 0, none⟩ = some (.int .i64 1) := (blk_cell hR5 0).trans rfl
              have c1 : w5.cell? ⟨w2.heap.size, 1, none⟩ = some (.int .i64 a) := (blk_cell hR5 1).trans rfl
              have c2 : w5.cell? ⟨w2.heap.size, 2, none⟩ = some (.int .i64 b) := (blk_cell hR5 2).trans rfl
              have c3 : w5.cell? ⟨w2.heap.size, 3, none⟩ = some (.int .i64 c) := (blk_cell hR5 3).trans rfl
              go_wp2_with fail
              refine (impl_RecText.calls 1 a b c _ HT.out).mono ?_
              rintro e w6 ⟨rfl, hb6⟩
              have hR6 := blk_below hR5 hb6
              have hB6 := below_then hB5 hB5.size hb6
              clear c0 c1 c2 c3
              have hq := blk_below hrr5 hb6
              have y0 : w6.cell? ⟨w.heap.size, 0, none⟩ = some (.int .i64 0) := (blk_cell hq 0).trans rfl
              have yf0 : w6.frozen? ⟨w.heap.size, 0, none⟩ = false := blk_frozen hq 0
              have y1 : w6.cell? ⟨w.heap.size, 1, none⟩ = some (.int .i64 0) := (blk_cell hq 1).trans rfl
              have yf1 : w6.frozen? ⟨w.heap.size, 1, none⟩ = false := blk_frozen hq 1
              have y2 : w6.cell? ⟨w.heap.size, 2, none⟩ = some (.int .i64 0) := (blk_cell hq 2).trans rfl
              have yf2 : w6.frozen? ⟨w.heap.size, 2, none⟩ = false := blk_frozen hq 2
              have y3 : w6.cell? ⟨w.heap.size, 3, none⟩ = some (.int .i64 0) := (blk_cell hq 3).trans rfl
              have yf3 : w6.frozen? ⟨w.heap.size, 3, none⟩ = false := blk_frozen hq 3
              by_cases ht : recTextS 1 a b c = s
              · have et := strL_eq ht
                have ht2 := Aside0.mk ht
                clear ht
                have c0 : w6.cell? ⟨w2.heap.size, 0, none⟩ = some (.int .i64 1) := (blk_cell hR6 0).trans rfl
                have c1 : w6.cell? ⟨w2.heap.size, 1, none⟩ = some (.int .i64 a) := (blk_cell hR6 1).trans rfl
                have c2 : w6.cell? ⟨w2.heap.size, 2, none⟩ = some (.int .i64 b) := (blk_cell hR6 2).trans rfl
                have c3 : w6.cell? ⟨w2.heap.size, 3, none⟩ = some (.int .i64 c) := (blk_cell hR6 3).trans rfl
                go_wp2
                refine bodyPost_ret (results_ct rfl _ _ w.heap.size 24 #[.int .i64 1, .int .i64 a, .int .i64 b, .int .i64 c] (0, 0) _ rfl (put_blk hq 1 a b c) hu rfl (by kernel_rfl)) rfl ?_
                exact ⟨1, a, b, c, true, rfl, .inl ⟨rfl, hok2.out, ht2.out⟩, put_below hB6 (Nat.le_refl _) 1 a b c⟩
              · have et := strL_ne ht
                have ht2 := Aside0.mk ht
                clear ht
                go_wp2
                refine bodyPost_ret (results_ct rfl _ _ w.heap.size 24 #[.int .i64 0, .int .i64 0, .int .i64 0, .int .i64 0] (0, 0) _ rfl (put_blk hq 0 0 0 0) hu rfl (by kernel_rfl)) rfl ?_
                exact ⟨0, 0, 0, 0, false, rfl, reads_bad HP.out (Or.inl ⟨rfl, rfl⟩) (hgot.out.1 (by decide)) (hgot.out.2.1 (by decide)) (hgot.out.2.2 (by decide)) (fun h => ht2.out h.2), put_below hB6 (Nat.le_refl _) 0 0 0 0⟩
      by_cases k2 : x0 = ⟨#[99, 108, 101, 97, 110]⟩
      · subst k2
        have e1 : ((⟨#[99, 108, 101, 97, 110]⟩ : ByteArray) == (⟨#[100, 105, 114, 116, 121]⟩ : ByteArray)) = false := by decide
        go_wp2_with fail
        go_loopw [35] (fun v W => ∃ (j : Nat) (a b c : Int), j ≤ 3 ∧ v = .int .i64 j ∧ Aside0 (W.heap[w2.heap.size]? = some (.cells #[.int .i64 2, .int .i64 a, .int .i64 b, .int .i64 c] 24 (0, 0))) ∧ Aside0 (W.heap[g]? = some (.cells #[.string ⟨#[99, 108, 101, 97, 110]⟩, .string x1, .string x2, .string x3] 9 (0, 0))) ∧ Aside0 (W.heap[w2.heap.size + 1]? = some (.cells #[.pointer (some ⟨w2.heap.size, 1, none⟩), .pointer (some ⟨w2.heap.size, 2, none⟩), .pointer (some ⟨w2.heap.size, 3, none⟩)] 46 (0, 0))) ∧ Aside0 (Below w2.heap.size w2 W) ∧ Aside0 (Got j x1 x2 x3 a b c)) (fun v _ => 3 - (intOf v).toNat)
        case atStart =>
          have hsz : (w2.alloc (.cells #[.int .i64 2, .int .i64 0, .int .i64 0, .int .i64 0] 24)).heap.size = w2.heap.size + 1 := World.size_alloc _ _
          refine ⟨0, 0, 0, 0, by decide, rfl, ⟨blk_alloc (blk_new _ _) _⟩, ⟨blk_alloc (blk_alloc HX2.out _) _⟩, ⟨?_⟩, ⟨below_alloc (below_alloc (Below.refl _ _) _) _⟩, ⟨fun h => absurd h (by decide), fun h => absurd h (by decide), fun h => absurd h (by decide)⟩⟩
          rw [← hsz]
          exact blk_new _ _
        case round =>
          obtain ⟨j, a, b, c, hj, rfl, hR, hX, hG, hbr, hgot⟩ := hrel
          have hrr := blk_below hr2 hbr.out
          have hBr := below_then hB2 hB2.size hbr.out
          by_cases hlt : j < 3
          · obtain rfl | rfl | rfl : j = 0 ∨ j = 1 ∨ j = 2 := by omega
            · have p1 : wr.cell? ⟨w2.heap.size + 1, 0, none⟩ = some (.pointer (some ⟨w2.heap.size, 1, none⟩)) := (blk_cell hG.out 0).trans rfl
              have p2 : wr.cell? ⟨g, 1, none⟩ = some (.string x1) := (blk_cell hX.out 1).trans rfl
              go_wp2_with fail
              cases hat : Lib.atoi x1.data.toList with
              | some n =>
                refine (atoi_ok x1 n (by omega) hat _).mono ?_
                rintro e w5 ⟨rfl, hb5⟩
                have hR5 := blk_below hR.out hb5
                have q1 : w5.cell? ⟨w2.heap.size, 1, none⟩ = some (.int .i64 a) := (blk_cell hR5 1).trans rfl
                have q2 : w5.frozen? ⟨w2.heap.size, 1, none⟩ = false := blk_frozen hR5 1
                have hat2 := Aside0.mk hat
                clear hat
                go_wp2
                have hat := hat2.out
                exact ⟨⟨1, n, b, c, by decide, by go_num, ⟨blk_put hR5 1 _ rfl⟩, ⟨blk_far (blk_below hX.out hb5) (by show g ≠ w2.heap.size; omega) _⟩, ⟨blk_far (blk_below hG.out hb5) (by show w2.heap.size + 1 ≠ w2.heap.size; omega) _⟩, ⟨(below_then hbr.out hbr.out.size hb5).setCell (p := ⟨w2.heap.size, 1, none⟩) (Nat.le_refl _) _⟩, ⟨fun _ => hat, fun h => absurd h (by decide), fun h => absurd h (by decide)⟩⟩, by simp [intOf]⟩
              | none =>
                refine (atoi_no x1 (by omega) hat ev _ (up hBr hE) hev).mono ?_
                rintro e w5 ⟨p, rfl, hb5⟩
                have hq := blk_below hrr hb5
                have y0 : w5.cell? ⟨w.heap.size, 0, none⟩ = some (.int .i64 0) := (blk_cell hq 0).trans rfl
                have yf0 : w5.frozen? ⟨w.heap.size, 0, none⟩ = false := blk_frozen hq 0
                have y1 : w5.cell? ⟨w.heap.size, 1, none⟩ = some (.int .i64 0) := (blk_cell hq 1).trans rfl
                have yf1 : w5.frozen? ⟨w.heap.size, 1, none⟩ = false := blk_frozen hq 1
                have y2 : w5.cell? ⟨w.heap.size, 2, none⟩ = some (.int .i64 0) := (blk_cell hq 2).trans rfl
                have yf2 : w5.frozen? ⟨w.heap.size, 2, none⟩ = false := blk_frozen hq 2
                have y3 : w5.cell? ⟨w.heap.size, 3, none⟩ = some (.int .i64 0) := (blk_cell hq 3).trans rfl
                have yf3 : w5.frozen? ⟨w.heap.size, 3, none⟩ = false := blk_frozen hq 3
                have hat2 := Aside0.mk hat
                clear hat
                go_wp2
                refine bodyPost_ret (results_ct rfl _ _ w.heap.size 24 #[.int .i64 0, .int .i64 0, .int .i64 0, .int .i64 0] (0, 0) _ rfl (put_blk hq 0 0 0 0) hu rfl (by kernel_rfl)) rfl ?_
                exact ⟨0, 0, 0, 0, false, rfl, reads_none HP.out (Or.inr (Or.inl hat2.out)), put_below (below_then hBr hBr.size hb5) (Nat.le_refl _) 0 0 0 0⟩
            · have p1 : wr.cell? ⟨w2.heap.size + 1, 1, none⟩ = some (.pointer (some ⟨w2.heap.size, 2, none⟩)) := (blk_cell hG.out 1).trans rfl
              have p2 : wr.cell? ⟨g, 2, none⟩ = some (.string x2) := (blk_cell hX.out 2).trans rfl
              go_wp2_with fail
              cases hat : Lib.atoi x2.data.toList with
              | some n =>
                refine (atoi_ok x2 n (by omega) hat _).mono ?_
                rintro e w5 ⟨rfl, hb5⟩
                have hR5 := blk_below hR.out hb5
                have q1 : w5.cell? ⟨w2.heap.size, 2, none⟩ = some (.int .i64 b) := (blk_cell hR5 2).trans rfl
                have q2 : w5.frozen? ⟨w2.heap.size, 2, none⟩ = false := blk_frozen hR5 2
                have hat2 := Aside0.mk hat
                clear hat
                go_wp2
                have hat := hat2.out
                exact ⟨⟨2, a, n, c, by decide, by go_num, ⟨blk_put hR5 2 _ rfl⟩, ⟨blk_far (blk_below hX.out hb5) (by show g ≠ w2.heap.size; omega) _⟩, ⟨blk_far (blk_below hG.out hb5) (by show w2.heap.size + 1 ≠ w2.heap.size; omega) _⟩, ⟨(below_then hbr.out hbr.out.size hb5).setCell (p := ⟨w2.heap.size, 2, none⟩) (Nat.le_refl _) _⟩, ⟨fun _ => hgot.out.1 (by decide), fun _ => hat, fun h => absurd h (by decide)⟩⟩, by simp [intOf]⟩
              | none =>
                refine (atoi_no x2 (by omega) hat ev _ (up hBr hE) hev).mono ?_
                rintro e w5 ⟨p, rfl, hb5⟩
                have hq := blk_below hrr hb5
                have y0 : w5.cell? ⟨w.heap.size, 0, none⟩ = some (.int .i64 0) := (blk_cell hq 0).trans rfl
                have yf0 : w5.frozen? ⟨w.heap.size, 0, none⟩ = false := blk_frozen hq 0
                have y1 : w5.cell? ⟨w.heap.size, 1, none⟩ = some (.int .i64 0) := (blk_cell hq 1).trans rfl
                have yf1 : w5.frozen? ⟨w.heap.size, 1, none⟩ = false := blk_frozen hq 1
                have y2 : w5.cell? ⟨w.heap.size, 2, none⟩ = some (.int .i64 0) := (blk_cell hq 2).trans rfl
                have yf2 : w5.frozen? ⟨w.heap.size, 2, none⟩ = false := blk_frozen hq 2
                have y3 : w5.cell? ⟨w.heap.size, 3, none⟩ = some (.int .i64 0) := (blk_cell hq 3).trans rfl
                have yf3 : w5.frozen? ⟨w.heap.size, 3, none⟩ = false := blk_frozen hq 3
                have hat2 := Aside0.mk hat
                clear hat
                go_wp2
                refine bodyPost_ret (results_ct rfl _ _ w.heap.size 24 #[.int .i64 0, .int .i64 0, .int .i64 0, .int .i64 0] (0, 0) _ rfl (put_blk hq 0 0 0 0) hu rfl (by kernel_rfl)) rfl ?_
                exact ⟨0, 0, 0, 0, false, rfl, reads_none HP.out (Or.inr (Or.inr (Or.inl hat2.out))), put_below (below_then hBr hBr.size hb5) (Nat.le_refl _) 0 0 0 0⟩
            · have p1 : wr.cell? ⟨w2.heap.size + 1, 2, none⟩ = some (.pointer (some ⟨w2.heap.size, 3, none⟩)) := (blk_cell hG.out 2).trans rfl
              have p2 : wr.cell? ⟨g, 3, none⟩ = some (.string x3) := (blk_cell hX.out 3).trans rfl
              go_wp2_with fail
              cases hat : Lib.atoi x3.data.toList with
              | some n =>
                refine (atoi_ok x3 n (by omega) hat _).mono ?_
                rintro e w5 ⟨rfl, hb5⟩
                have hR5 := blk_below hR.out hb5
                have q1 : w5.cell? ⟨w2.heap.size, 3, none⟩ = some (.int .i64 c) := (blk_cell hR5 3).trans rfl
                have q2 : w5.frozen? ⟨w2.heap.size, 3, none⟩ = false := blk_frozen hR5 3
                have hat2 := Aside0.mk hat
                clear hat
                go_wp2
                have hat := hat2.out
                exact ⟨⟨3, a, b, n, by decide, by go_num, ⟨blk_put hR5 3 _ rfl⟩, ⟨blk_far (blk_below hX.out hb5) (by show g ≠ w2.heap.size; omega) _⟩, ⟨blk_far (blk_below hG.out hb5) (by show w2.heap.size + 1 ≠ w2.heap.size; omega) _⟩, ⟨(below_then hbr.out hbr.out.size hb5).setCell (p := ⟨w2.heap.size, 3, none⟩) (Nat.le_refl _) _⟩, ⟨fun _ => hgot.out.1 (by decide), fun _ => hgot.out.2.1 (by decide), fun _ => hat⟩⟩, by simp [intOf]⟩
              | none =>
                refine (atoi_no x3 (by omega) hat ev _ (up hBr hE) hev).mono ?_
                rintro e w5 ⟨p, rfl, hb5⟩
                have hq := blk_below hrr hb5
                have y0 : w5.cell? ⟨w.heap.size, 0, none⟩ = some (.int .i64 0) := (blk_cell hq 0).trans rfl
                have yf0 : w5.frozen? ⟨w.heap.size, 0, none⟩ = false := blk_frozen hq 0
                have y1 : w5.cell? ⟨w.heap.size, 1, none⟩ = some (.int .i64 0) := (blk_cell hq 1).trans rfl
                have yf1 : w5.frozen? ⟨w.heap.size, 1, none⟩ = false := blk_frozen hq 1
                have y2 : w5.cell? ⟨w.heap.size, 2, none⟩ = some (.int .i64 0) := (blk_cell hq 2).trans rfl
                have yf2 : w5.frozen? ⟨w.heap.size, 2, none⟩ = false := blk_frozen hq 2
                have y3 : w5.cell? ⟨w.heap.size, 3, none⟩ = some (.int .i64 0) := (blk_cell hq 3).trans rfl
                have yf3 : w5.frozen? ⟨w.heap.size, 3, none⟩ = false := blk_frozen hq 3
                have hat2 := Aside0.mk hat
                clear hat
                go_wp2
                refine bodyPost_ret (results_ct rfl _ _ w.heap.size 24 #[.int .i64 0, .int .i64 0, .int .i64 0, .int .i64 0] (0, 0) _ rfl (put_blk hq 0 0 0 0) hu rfl (by kernel_rfl)) rfl ?_
                exact ⟨0, 0, 0, 0, false, rfl, reads_none HP.out (Or.inr (Or.inr (Or.inr hat2.out))), put_below (below_then hBr hBr.size hb5) (Nat.le_refl _) 0 0 0 0⟩
          · obtain rfl : j = 3 := by omega
            have c0 : wr.cell? ⟨w2.heap.size, 0, none⟩ = some (.int .i64 2) := (blk_cell hR.out 0).trans rfl
            have c1 : wr.cell? ⟨w2.heap.size, 1, none⟩ = some (.int .i64 a) := (blk_cell hR.out 1).trans rfl
            have c2 : wr.cell? ⟨w2.heap.size, 2, none⟩ = some (.int .i64 b) := (blk_cell hR.out 2).trans rfl
            have c3 : wr.cell? ⟨w2.heap.size, 3, none⟩ = some (.int .i64 c) := (blk_cell hR.out 3).trans rfl
            go_wp2_with fail
            refine (impl_RecOk.calls 2 a b c (recOkB 2 a b c) _ rfl).mono ?_
            rintro e w5 ⟨rfl, hb5⟩
            have hR5 := blk_below hR.out hb5
            have hrr5 := blk_below hrr hb5
            have hB5 := below_then hBr hBr.size hb5
            have HT := Aside0.mk (tabKept htab hB5)
            clear c0 c1 c2 c3 htab
            cases hok : recOkB 2 a b c with
            | false =>
              have hq := hrr5
              have y0 : w5.cell? ⟨w.heap.size, 0, none⟩ = some (.int .i64 0) := (blk_cell hq 0).trans rfl
              have yf0 : w5.frozen? ⟨w.heap.size, 0, none⟩ = false := blk_frozen hq 0
              have y1 : w5.cell? ⟨w.heap.size, 1, none⟩ = some (.int .i64 0) := (blk_cell hq 1).trans rfl
              have yf1 : w5.frozen? ⟨w.heap.size, 1, none⟩ = false := blk_frozen hq 1
              have y2 : w5.cell? ⟨w.heap.size, 2, none⟩ = some (.int .i64 0) := (blk_cell hq 2).trans rfl
              have yf2 : w5.frozen? ⟨w.heap.size, 2, none⟩ = false := blk_frozen hq 2
              have y3 : w5.cell? ⟨w.heap.size, 3, none⟩ = some (.int .i64 0) := (blk_cell hq 3).trans rfl
              have yf3 : w5.frozen? ⟨w.heap.size, 3, none⟩ = false := blk_frozen hq 3
              have hok2 := Aside0.mk hok
              clear hok
              go_wp2
              refine bodyPost_ret (results_ct rfl _ _ w.heap.size 24 #[.int .i64 0, .int .i64 0, .int .i64 0, .int .i64 0] (0, 0) _ rfl (put_blk hq 0 0 0 0) hu rfl (by kernel_rfl)) rfl ?_
              exact ⟨0, 0, 0, 0, false, rfl, reads_bad HP.out (Or.inr ⟨rfl, rfl⟩) (hgot.out.1 (by decide)) (hgot.out.2.1 (by decide)) (hgot.out.2.2 (by decide)) (fun h => by rw [hok2.out] at h; exact Bool.false_ne_true h.1), put_below hB5 (Nat.le_refl _) 0 0 0 0⟩
            | true =>
              have hok2 := Aside0.mk hok
              clear hok
              have c0 : w5.cell? ⟨w2.heap.size, 0, none⟩ = some (.int .i64 2) := (blk_cell hR5 0).trans rfl
              have c1 : w5.cell? ⟨w2.heap.size, 1, none⟩ = some (.int .i64 a) := (blk_cell hR5 1).trans rfl
              have c2 : w5.cell? ⟨w2.heap.size, 2, none⟩ = some (.int .i64 b) := (blk_cell hR5 2).trans rfl
              have c3 : w5.cell? ⟨w2.heap.size, 3, none⟩ = some (.int .i64 c) := (blk_cell hR5 3).trans rfl
              go_wp2_with fail
              refine (impl_RecText.calls 2 a b c _ HT.out).mono ?_
              rintro e w6 ⟨rfl, hb6⟩
              have hR6 := blk_below hR5 hb6
              have hB6 := below_then hB5 hB5.size hb6
              clear c0 c1 c2 c3
              have hq := blk_below hrr5 hb6
              have y0 : w6.cell? ⟨w.heap.size, 0, none⟩ = some (.int .i64 0) := (blk_cell hq 0).trans rfl
              have yf0 : w6.frozen? ⟨w.heap.size, 0, none⟩ = false := blk_frozen hq 0
              have y1 : w6.cell? ⟨w.heap.size, 1, none⟩ = some (.int .i64 0) := (blk_cell hq 1).trans rfl
              have yf1 : w6.frozen? ⟨w.heap.size, 1, none⟩ = false := blk_frozen hq 1
              have y2 : w6.cell? ⟨w.heap.size, 2, none⟩ = some (.int .i64 0) := (blk_cell hq 2).trans rfl
              have yf2 : w6.frozen? ⟨w.heap.size, 2, none⟩ = false := blk_frozen hq 2
              have y3 : w6.cell? ⟨w.heap.size, 3, none⟩ = some (.int .i64 0) := (blk_cell hq 3).trans rfl
              have yf3 : w6.frozen? ⟨w.heap.size, 3, none⟩ = false := blk_frozen hq 3
              by_cases ht : recTextS 2 a b c = s
              · have et := strL_eq ht
                have ht2 := Aside0.mk ht
                clear ht
                have c0 : w6.cell? ⟨w2.heap.size, 0, none⟩ = some (.int .i64 2) := (blk_cell hR6 0).trans rfl
                have c1 : w6.cell? ⟨w2.heap.size, 1, none⟩ = some (.int .i64 a) := (blk_cell hR6 1).trans rfl
                have c2 : w6.cell? ⟨w2.heap.size, 2, none⟩ = some (.int .i64 b) := (blk_cell hR6 2).trans rfl
                have c3 : w6.cell? ⟨w2.heap.size, 3, none⟩ = some (.int .i64 c) := (blk_cell hR6 3).trans rfl
                go_wp2
                refine bodyPost_ret (results_ct rfl _ _ w.heap.size 24 #[.int .i64 2, .int .i64 a, .int .i64 b, .int .i64 c] (0, 0) _ rfl (put_blk hq 2 a b c) hu rfl (by kernel_rfl)) rfl ?_
                exact ⟨2, a, b, c, true, rfl, .inl ⟨rfl, hok2.out, ht2.out⟩, put_below hB6 (Nat.le_refl _) 2 a b c⟩
              · have et := strL_ne ht
                have ht2 := Aside0.mk ht
                clear ht
                go_wp2
                refine bodyPost_ret (results_ct rfl _ _ w.heap.size 24 #[.int .i64 0, .int .i64 0, .int .i64 0, .int .i64 0] (0, 0) _ rfl (put_blk hq 0 0 0 0) hu rfl (by kernel_rfl)) rfl ?_
                exact ⟨0, 0, 0, 0, false, rfl, reads_bad HP.out (Or.inr ⟨rfl, rfl⟩) (hgot.out.1 (by decide)) (hgot.out.2.1 (by decide)) (hgot.out.2.2 (by decide)) (fun h => ht2.out h.2), put_below hB6 (Nat.le_refl _) 0 0 0 0⟩
      · have e1 : (x0.toList == [100, 105, 114, 116, 121]) = false := strL_lit k1
        have e2 : (x0.toList == [99, 108, 101, 97, 110]) = false := strL_lit k2
        go_wp2
        refine bodyPost_ret (results_ct rfl _ _ w.heap.size 24 #[.int .i64 0, .int .i64 0, .int .i64 0, .int .i64 0] (0, 0) _ rfl (blk_alloc (put_blk hr2 0 0 0 0) _) hu rfl (by kernel_rfl)) rfl ?_
        exact ⟨0, 0, 0, 0, false, rfl, reads_none HP.out (Or.inl ⟨k1, k2⟩), below_alloc (put_below hB2 (Nat.le_refl _) 0 0 0 0) _⟩
    · have HR : Aside0 (Reads s 0 0 0 0 false) := ⟨.inr ⟨rfl, rfl, rfl, rfl, rfl, fun x y z u hk e => h4 (by rw [hn, ← e]; exact (split_text hk).1)⟩⟩
      have hne : (((n + 1 : Nat) : Int) == 4) = false := by
        cases hq : (((n + 1 : Nat) : Int) == 4) with
        | false => rfl
        | true => exact absurd (eq_of_beq hq) (by omega)
      go_wp2
      refine bodyPost_ret (results_ct rfl _ _ w.heap.size 24 #[.int .i64 0, .int .i64 0, .int .i64 0, .int .i64 0] (0, 0) _ rfl (put_blk hr2 0 0 0 0) hu rfl (by kernel_rfl)) rfl ?_
      exact ⟨0, 0, 0, 0, false, rfl, HR.out, put_below hB2 (Nat.le_refl _) 0 0 0 0⟩
end Go.Proofs.YtddagnomnamfdaaDoor.Ta
