import Derived.Test.YtddagnomnamfdaaDoorImplRead
import Derived.Deep.RegionHeld3
namespace Go.Proofs.YtddagnomnamfdaaDoor.Ta
open Go.RowKit Go.Proofs.YtddagnomnamfdaaDoorW.PrintWords Go.Proofs.YtddagnomnamfdaaDoorW.PrintLast Go.Proofs.YtddagnomnamfdaaDoorW.PrintMore
theorem reads_parts {s : ByteArray} (h : (cutL 32 s.data.toList).length ≠ 4) : Reads s 0 0 0 0 false := .inr ⟨rfl, rfl, rfl, rfl, rfl, fun x y z u hk e => by
  refine h ?_
  rw [data_inj e, cut_text hk]
  rfl⟩
theorem keepT4 {p q r t : Prop} {w7 W : World} (h : p ∧ q ∧ r ∧ t ∧ Below w7.heap.size w7 W) : Below w7.heap.size w7 W := h.2.2.2.2
theorem keep4 {a b c d : Addr} {va vb vc vd : Value} {w7 W W' : World} (h : W.cell? a = some va ∧ W.cell? b = some vb ∧ W.cell? c = some vc ∧ W.cell? d = some vd ∧ Below w7.heap.size w7 W) (hb : Below W.heap.size W W') : W'.cell? a = some va ∧ W'.cell? b = some vb ∧ W'.cell? c = some vc ∧ W'.cell? d = some vd ∧ Below w7.heap.size w7 W' :=
  ⟨up hb h.1, up hb h.2.1, up hb h.2.2.1, up hb h.2.2.2.1, below_then h.2.2.2.2 h.2.2.2.2.size hb⟩
theorem spec_bad {s x0 x1 x2 x3 : ByteArray} {k b c d : Int} (H : ∀ x y z u, recOkB x y z u = true → recTextS x y z u = s → [x0, x1, x2, x3] = [⟨(wordL x).toArray⟩, ⟨(Lib.itoa y).toArray⟩, ⟨(Lib.itoa z).toArray⟩, ⟨(Lib.itoa u).toArray⟩])
    (hk0 : (k = 2 ∧ x0 = ⟨#[99, 108, 101, 97, 110]⟩) ∨ (k = 1 ∧ x0 ≠ ⟨#[99, 108, 101, 97, 110]⟩)) (h1 : spec_l1Dec.f 5 x1 = some b) (h2 : spec_l1Dec.f 5 x2 = some c) (h3 : spec_l1Dec.f 5 x3 = some d)
    (hb : recTextS k b c d ≠ s) : Reads s 0 0 0 0 false := .inr ⟨rfl, rfl, rfl, rfl, rfl, fun x y z u hk e => by
  have hp := H x y z u hk e
  obtain ⟨p1, p2, p3, p4, p5, p6, p7⟩ := ok_parts hk
  simp only [List.cons.injEq, and_true] at hp
  obtain ⟨rfl, rfl, rfl, rfl⟩ := hp
  rw [l1Dec_itoa y (by omega) (by omega) 5 (by decide), Option.some.injEq] at h1
  rw [l1Dec_itoa z (by omega) (by omega) 5 (by decide), Option.some.injEq] at h2
  rw [l1Dec_itoa u (by omega) (by omega) 5 (by decide), Option.some.injEq] at h3
  subst h1 h2 h3
  have hx : k = x := by
    rcases hk0 with ⟨rfl, h⟩ | ⟨rfl, h⟩ <;> rcases p1 with rfl | rfl
    · exact absurd h (by decide)
    · rfl
    · rfl
    · exact absurd rfl h
  subst hx
  exact hb e⟩
theorem reads_empty {s : ByteArray} {k b c d : Int} (ht : recTextS k b c d = s) (hok : recOkB k b c d = false) : Reads s 0 0 0 0 false := .inr ⟨rfl, rfl, rfl, rfl, rfl, fun x y z u hk e => by
  have h1 := (text_empty k b c d).2 hok
  rw [ht, ← e] at h1
  have h2 := (text_empty x y z u).1 h1
  rw [hk] at h2
  cases h2⟩
theorem gen_ {Φ : World → Prop} {w2 W : World} {g : Nat} {x0 : ByteArray} {t : TypeId} {r1 r2 r3 : Int} (hR : W.heap[w2.heap.size]? = some (.cells #[.int .i64 1, .int .i64 r1, .int .i64 r2, .int .i64 r3] t (0, 0))) (hX : w2.cell? ⟨g, 0, none⟩ = some (.string x0)) (hB : Below w2.heap.size w2 W)
    (k : ∀ wc : World, wc.heap[w2.heap.size]? = some (.cells #[.int .i64 1, .int .i64 r1, .int .i64 r2, .int .i64 r3] t (0, 0)) → wc.cell? ⟨g, 0, none⟩ = some (.string x0) → Below w2.heap.size w2 wc → Φ wc) : Φ W := k W hR (up hB hX) hB
theorem text_nonempty {k b c d : Int} {s : ByteArray} (ht : recTextS k b c d = s) (hok : recOkB k b c d = true) : s.toList.isEmpty = false := by
  subst ht
  rw [ByteArray.toList_eq]
  show (recTextL k b c d).toArray.toList.isEmpty = false
  rw [List.toList_toArray, text_eq hok]
  cases wordL k <;> rfl
theorem text_is_empty {k b c d : Int} {s : ByteArray} (ht : recTextS k b c d = s) (hok : recOkB k b c d = false) : s.toList.isEmpty = true := by
  rw [← ht, (text_empty k b c d).2 hok, ByteArray.toList_eq]
  rfl
theorem strL_same {x : ByteArray} {l : List UInt8} (h : x = ⟨l.toArray⟩) : (x.toList == l) = true := by
  subst h
  rw [ByteArray.toList_eq]
  exact beq_self_eq_true _
theorem below_sets {w W : World} (h : Below w.heap.size w W) (a b c d : Value) : Below w.heap.size w ((((W.setCell ⟨w.heap.size, 0, none⟩ a).setCell ⟨w.heap.size, 1, none⟩ b).setCell ⟨w.heap.size, 2, none⟩ c).setCell ⟨w.heap.size, 3, none⟩ d) :=
  (((h.setCell (p := ⟨w.heap.size, 0, none⟩) (Nat.le_refl _) _).setCell (p := ⟨w.heap.size, 1, none⟩) (Nat.le_refl _) _).setCell (p := ⟨w.heap.size, 2, none⟩) (Nat.le_refl _) _).setCell (p := ⟨w.heap.size, 3, none⟩) (Nat.le_refl _) _
set_option maxHeartbeats 2000000 in
set_option maxRecDepth 100000 in
theorem spec_RecRead.calls (s : ByteArray) (w : World) :
    Calls Tryd.prog 11 #[.string s] w fun e w' => ∃ (a b c d : Int) (ok : Bool), e = .returned (.tuple #[.agg #[.int .i64 a, .int .i64 b, .int .i64 c, .int .i64 d], .bool ok]) ∧ Reads s a b c d ok ∧ Below w.heap.size w w' := by
  have hu := Tryd.underlying24
  have hu2 := Tryd.underlying43
  have hr := blk_new w (.cells #[.int .i64 0, .int .i64 0, .int .i64 0, .int .i64 0] 24)
  have hB1 := below_alloc (Below.refl _ w) (.cells #[.int .i64 0, .int .i64 0, .int .i64 0, .int .i64 0] 24)
  by_cases g0 : 20 < s.size
  · have h0 : decide ((20 : Int) < (s.size : Int)) = true := decide_eq_true (by omega)
    go_enter Tryd.func11, Tryd.ntmps11
    go_wp2
    refine bodyPost_ret (results_ct rfl _ _ w.heap.size 24 #[.int .i64 0, .int .i64 0, .int .i64 0, .int .i64 0] (0, 0) _ rfl hr hu rfl (by kernel_rfl)) rfl ?_
    exact ⟨0, 0, 0, 0, false, rfl, reads_long g0, hB1⟩
  · have h0 : decide ((20 : Int) < (s.size : Int)) = false := decide_eq_false (by omega)
    go_enter Tryd.func11, Tryd.ntmps11
    go_wp2_with fail
    refine (spec_l1Cut.calls s (by omega) _).mono ?_
    rintro e w2 ⟨v, rfl, ho, hb⟩
    have hB2 := below_then hB1 hB1.size hb
    have hr2 := blk_below hr hb
    clear hB1 hr hb h0
    have HR := Aside0.mk (fun h => reads_parts (s := s) h)
    have HX : ∀ x y z u, recOkB x y z u = true → recTextS x y z u = s → cutL 32 s.data.toList = [⟨(wordL x).toArray⟩, ⟨(Lib.itoa y).toArray⟩, ⟨(Lib.itoa z).toArray⟩, ⟨(Lib.itoa u).toArray⟩] := fun x y z u h e => by rw [data_inj e, cut_text h]
    have HXX := Aside0.mk HX
    clear HX
    generalize cutL 32 s.data.toList = xs at ho HR HXX
    obtain ⟨A, cp, rfl, hcp, hC⟩ := Kd.R_reads ho
    have z0 : w2.cell? ⟨w.heap.size, 0, none⟩ = some (.int .i64 0) := (blk_cell hr2 0).trans rfl
    have zf0 : w2.frozen? ⟨w.heap.size, 0, none⟩ = false := blk_frozen hr2 0
    have z1 : w2.cell? ⟨w.heap.size, 1, none⟩ = some (.int .i64 0) := (blk_cell hr2 1).trans rfl
    have zf1 : w2.frozen? ⟨w.heap.size, 1, none⟩ = false := blk_frozen hr2 1
    have z2 : w2.cell? ⟨w.heap.size, 2, none⟩ = some (.int .i64 0) := (blk_cell hr2 2).trans rfl
    have zf2 : w2.frozen? ⟨w.heap.size, 2, none⟩ = false := blk_frozen hr2 2
    have z3 : w2.cell? ⟨w.heap.size, 3, none⟩ = some (.int .i64 0) := (blk_cell hr2 3).trans rfl
    have zf3 : w2.frozen? ⟨w.heap.size, 3, none⟩ = false := blk_frozen hr2 3
    by_cases h4 : xs.length = 4
    · obtain ⟨g, cap, hv, hbg, hgl, cells, hcells⟩ := Kd.R_form ho (by omega)
      injection hv with hA _ hc
      subst hA
      match xs, h4 with
      | [x0, x1, x2, x3], _ =>
      have cellOf : ∀ (i : Nat) (x : ByteArray), i < 4 → [x0, x1, x2, x3].getD i ⟨#[]⟩ = x → w2.cell? ⟨g, i, none⟩ = some (.string x) := fun i x hi hx => by
        obtain ⟨c, hcl, hcM, hcc, _⟩ := Kd.R_elem ho ⟨#[]⟩ (i : Int) (by omega) (by simp; omega)
        obtain rfl : c = [.string ([x0, x1, x2, x3].getD (i : Int).toNat ⟨#[]⟩)] := hcM
        have h0 := hcc 0 _ rfl
        have esz : (Kd.string).sz = 1 := rfl
        rw [esz, Nat.mul_one, Nat.add_zero, Int.toNat_natCast, hx] at h0
        exact h0
      have d0 := cellOf 0 x0 (by omega) rfl
      have d1 := cellOf 1 x1 (by omega) rfl
      have d2 := cellOf 2 x2 (by omega) rfl
      have d3 := cellOf 3 x3 (by omega) rfl
      obtain ⟨r1, D1⟩ := l1Dec_total x1 5 (by omega)
      obtain ⟨r2, D2⟩ := l1Dec_total x2 5 (by omega)
      obtain ⟨r3, D3⟩ := l1Dec_total x3 5 (by omega)
      have hSS := (⟨d0, d1, d2, d3, Below.refl _ w2⟩ : _ ∧ _ ∧ _ ∧ _ ∧ Below w2.heap.size w2 w2)
      clear cellOf
      have hd1 : ∀ (W : World) (n : Nat) (a : Addr), (W.drewN n).cell? a = W.cell? a := fun _ _ _ => rfl
      have hd2 : ∀ (W : World) (n : Nat), (W.drewN n).heap = W.heap := fun _ _ => rfl
      have hd3 : ∀ (W : World) (n : Nat) (a : Addr), (W.drewN n).frozen? a = W.frozen? a := fun _ _ _ => rfl
      have hk1 : ∀ (n : Nat) (cs : Array Value) (t : TypeId) (i : Nat), ((w2.drewN n).alloc (.cells cs t)).cell? ⟨w2.heap.size, i, none⟩ = cs[i]? := fun n cs t i => blk_cell (blk_new (w2.drewN n) (.cells cs t)) i
      have hk2 : ∀ (n : Nat) (cs : Array Value) (t : TypeId) (i : Nat), ((w2.drewN n).alloc (.cells cs t)).frozen? ⟨w2.heap.size, i, none⟩ = false := fun n cs t i => blk_frozen (blk_new (w2.drewN n) (.cells cs t)) i
      go_wp2_with fail
      go_region_held3 (fun W => W.cell? ⟨g, 0, none⟩ = some (.string x0) ∧ W.cell? ⟨g, 1, none⟩ = some (.string x1) ∧ W.cell? ⟨g, 2, none⟩ = some (.string x2) ∧ W.cell? ⟨g, 3, none⟩ = some (.string x3) ∧ Below w2.heap.size w2 W)
        (first | (with_reducible assumption) | (with_reducible refine keep4 hSS ?_; (try (with_reducible refine below_sets ?_ _ _ _ _)); repeat (first | (with_reducible exact Below.refl _ _) | (with_reducible apply below_alloc) | (with_reducible apply pw_below_drewN) | (with_reducible apply below_drew))))
        (first
          | (go_at_call 26; refine (spec_l1Dec.calls 5 _ _ _ (by assumption)).mono ?_; rintro e w6 ⟨rfl, ⟨n6, rfl⟩⟩)
          | fail)
      all_goals have hlr := blk_lt hr2
      all_goals have HD1 := Aside0.mk D1
      all_goals have HD2 := Aside0.mk D2
      all_goals have HD3 := Aside0.mk D3
      all_goals clear D1 D2 D3
      all_goals (refine gen_ (Φ := Exit.then _ _ Exit.normal _) (g := g) (x0 := x0) (w2 := w2) (r1 := r1) (r2 := r2) (r3 := r3) (t := 24) (by first | exact put_blk (blk_new (w2.drewN _) _) 1 r1 r2 r3 | exact put_blk (blk_drewN (blk_new (w2.drewN _) _) _) 1 r1 r2 r3 | exact put_blk (blk_drewN (blk_new w2 _) _) 1 r1 r2 r3) hSS.1 (by first | exact below_sets (below_alloc (pw_below_drewN (Below.refl _ _) _) _) _ _ _ _ | exact below_sets (pw_below_drewN (below_alloc (pw_below_drewN (Below.refl _ _) _) _) _) _ _ _ _ | exact below_sets (pw_below_drewN (below_alloc (Below.refl _ _) _) _) _ _ _ _) ?_)
      all_goals intro wc hR hX hB
      all_goals clear hSS hd1 hd2 hd3 hk1 hk2 d0 d1 d2 d3 z0 zf0 z1 zf1 z2 zf2 z3 zf3
      all_goals by_cases k2 : x0 = ⟨#[99, 108, 101, 97, 110]⟩
      all_goals first
        | (have hk2 := Aside0.mk (show x0 = ⟨#[99, 108, 101, 97, 110]⟩ from k2)
           have e2 : (x0.toList == [99, 108, 101, 97, 110]) = true := strL_same k2
           clear k2
           have c0 : wc.cell? ⟨w2.heap.size, 0, none⟩ = some (.int .i64 1) := (blk_cell hR 0).trans rfl
           have c1 : wc.cell? ⟨w2.heap.size, 1, none⟩ = some (.int .i64 r1) := (blk_cell hR 1).trans rfl
           have c2 : wc.cell? ⟨w2.heap.size, 2, none⟩ = some (.int .i64 r2) := (blk_cell hR 2).trans rfl
           have c3 : wc.cell? ⟨w2.heap.size, 3, none⟩ = some (.int .i64 r3) := (blk_cell hR 3).trans rfl
           have f0 : wc.frozen? ⟨w2.heap.size, 0, none⟩ = false := blk_frozen hR 0
           go_wp2_with fail
           refine (spec_RecText.calls 5 2 r1 r2 r3 _ _ (specRecText_ok 2 r1 r2 r3 5 (by decide))).mono ?_
           rintro e w6 ⟨rfl, hb6⟩
           have hR6 := blk_below (blk_put hR 0 (.int .i64 2) rfl) hb6
           have hBw := (below_then hB2 hB2.size hB).setCell (p := ⟨w2.heap.size, 0, none⟩) hB2.size (.int .i64 2)
           have hq6 := blk_below (blk_far (p := ⟨w2.heap.size, 0, none⟩) (blk_below hr2 hB) (Nat.ne_of_lt hlr) (.int .i64 2)) hb6
           have hB6 := below_then hBw hBw.size hb6
           clear hBw hb6 c0 c1 c2 c3 f0 hR hX e2
           have hq := hq6
           have y0 : w6.cell? ⟨w.heap.size, 0, none⟩ = some (.int .i64 0) := (blk_cell hq 0).trans rfl
           have yf0 : w6.frozen? ⟨w.heap.size, 0, none⟩ = false := blk_frozen hq 0
           have y1 : w6.cell? ⟨w.heap.size, 1, none⟩ = some (.int .i64 0) := (blk_cell hq 1).trans rfl
           have yf1 : w6.frozen? ⟨w.heap.size, 1, none⟩ = false := blk_frozen hq 1
           have y2 : w6.cell? ⟨w.heap.size, 2, none⟩ = some (.int .i64 0) := (blk_cell hq 2).trans rfl
           have yf2 : w6.frozen? ⟨w.heap.size, 2, none⟩ = false := blk_frozen hq 2
           have y3 : w6.cell? ⟨w.heap.size, 3, none⟩ = some (.int .i64 0) := (blk_cell hq 3).trans rfl
           have yf3 : w6.frozen? ⟨w.heap.size, 3, none⟩ = false := blk_frozen hq 3
           by_cases ht : recTextS 2 r1 r2 r3 = s
           · have et := strL_eq ht
             cases hok : recOkB 2 r1 r2 r3 with
             | true =>
               have hem := text_nonempty ht hok
               have hok2 := Aside0.mk (And.intro hok ht)
               clear hok ht
               have c0 : w6.cell? ⟨w2.heap.size, 0, none⟩ = some (.int .i64 2) := (blk_cell hR6 0).trans rfl
               have c1 : w6.cell? ⟨w2.heap.size, 1, none⟩ = some (.int .i64 r1) := (blk_cell hR6 1).trans rfl
               have c2 : w6.cell? ⟨w2.heap.size, 2, none⟩ = some (.int .i64 r2) := (blk_cell hR6 2).trans rfl
               have c3 : w6.cell? ⟨w2.heap.size, 3, none⟩ = some (.int .i64 r3) := (blk_cell hR6 3).trans rfl
               go_wp2
               refine bodyPost_ret (results_ct rfl _ _ w.heap.size 24 #[.int .i64 2, .int .i64 r1, .int .i64 r2, .int .i64 r3] (0, 0) _ rfl (put_blk hq 2 r1 r2 r3) hu rfl (by kernel_rfl)) rfl ?_
               exact ⟨2, r1, r2, r3, true, rfl, .inl ⟨rfl, hok2.out.1, hok2.out.2⟩, put_below hB6 (Nat.le_refl _) 2 r1 r2 r3⟩
             | false =>
               have hem := text_is_empty ht hok
               have hok2 := Aside0.mk (And.intro hok ht)
               clear hok ht
               go_wp2
               refine bodyPost_ret (results_ct rfl _ _ w.heap.size 24 #[.int .i64 0, .int .i64 0, .int .i64 0, .int .i64 0] (0, 0) _ rfl (put_blk hq 0 0 0 0) hu rfl (by kernel_rfl)) rfl ?_
               exact ⟨0, 0, 0, 0, false, rfl, reads_empty hok2.out.2 hok2.out.1, put_below hB6 (Nat.le_refl _) 0 0 0 0⟩
           · have et := strL_ne ht
             have ht2 := Aside0.mk ht
             clear ht
             go_wp2
             refine bodyPost_ret (results_ct rfl _ _ w.heap.size 24 #[.int .i64 0, .int .i64 0, .int .i64 0, .int .i64 0] (0, 0) _ rfl (put_blk hq 0 0 0 0) hu rfl (by kernel_rfl)) rfl ?_
             exact ⟨0, 0, 0, 0, false, rfl, spec_bad HXX.out (Or.inl ⟨rfl, hk2.out⟩) HD1.out HD2.out HD3.out ht2.out, put_below hB6 (Nat.le_refl _) 0 0 0 0⟩)
        | (have hk2 := Aside0.mk (show x0 ≠ ⟨#[99, 108, 101, 97, 110]⟩ from k2)
           have e2 : (x0.toList == [99, 108, 101, 97, 110]) = false := strL_lit k2
           clear k2
           have c0 : wc.cell? ⟨w2.heap.size, 0, none⟩ = some (.int .i64 1) := (blk_cell hR 0).trans rfl
           have c1 : wc.cell? ⟨w2.heap.size, 1, none⟩ = some (.int .i64 r1) := (blk_cell hR 1).trans rfl
           have c2 : wc.cell? ⟨w2.heap.size, 2, none⟩ = some (.int .i64 r2) := (blk_cell hR 2).trans rfl
           have c3 : wc.cell? ⟨w2.heap.size, 3, none⟩ = some (.int .i64 r3) := (blk_cell hR 3).trans rfl
           have f0 : wc.frozen? ⟨w2.heap.size, 0, none⟩ = false := blk_frozen hR 0
           go_wp2_with fail
           refine (spec_RecText.calls 5 1 r1 r2 r3 _ _ (specRecText_ok 1 r1 r2 r3 5 (by decide))).mono ?_
           rintro e w6 ⟨rfl, hb6⟩
           have hR6 := blk_below hR hb6
           have hBw := below_then hB2 hB2.size hB
           have hq6 := blk_below (blk_below hr2 hB) hb6
           have hB6 := below_then hBw hBw.size hb6
           clear hBw hb6 c0 c1 c2 c3 f0 hR hX e2
           have hq := hq6
           have y0 : w6.cell? ⟨w.heap.size, 0, none⟩ = some (.int .i64 0) := (blk_cell hq 0).trans rfl
           have yf0 : w6.frozen? ⟨w.heap.size, 0, none⟩ = false := blk_frozen hq 0
           have y1 : w6.cell? ⟨w.heap.size, 1, none⟩ = some (.int .i64 0) := (blk_cell hq 1).trans rfl
           have yf1 : w6.frozen? ⟨w.heap.size, 1, none⟩ = false := blk_frozen hq 1
           have y2 : w6.cell? ⟨w.heap.size, 2, none⟩ = some (.int .i64 0) := (blk_cell hq 2).trans rfl
           have yf2 : w6.frozen? ⟨w.heap.size, 2, none⟩ = false := blk_frozen hq 2
           have y3 : w6.cell? ⟨w.heap.size, 3, none⟩ = some (.int .i64 0) := (blk_cell hq 3).trans rfl
           have yf3 : w6.frozen? ⟨w.heap.size, 3, none⟩ = false := blk_frozen hq 3
           by_cases ht : recTextS 1 r1 r2 r3 = s
           · have et := strL_eq ht
             cases hok : recOkB 1 r1 r2 r3 with
             | true =>
               have hem := text_nonempty ht hok
               have hok2 := Aside0.mk (And.intro hok ht)
               clear hok ht
               have c0 : w6.cell? ⟨w2.heap.size, 0, none⟩ = some (.int .i64 1) := (blk_cell hR6 0).trans rfl
               have c1 : w6.cell? ⟨w2.heap.size, 1, none⟩ = some (.int .i64 r1) := (blk_cell hR6 1).trans rfl
               have c2 : w6.cell? ⟨w2.heap.size, 2, none⟩ = some (.int .i64 r2) := (blk_cell hR6 2).trans rfl
               have c3 : w6.cell? ⟨w2.heap.size, 3, none⟩ = some (.int .i64 r3) := (blk_cell hR6 3).trans rfl
               go_wp2
               refine bodyPost_ret (results_ct rfl _ _ w.heap.size 24 #[.int .i64 1, .int .i64 r1, .int .i64 r2, .int .i64 r3] (0, 0) _ rfl (put_blk hq 1 r1 r2 r3) hu rfl (by kernel_rfl)) rfl ?_
               exact ⟨1, r1, r2, r3, true, rfl, .inl ⟨rfl, hok2.out.1, hok2.out.2⟩, put_below hB6 (Nat.le_refl _) 1 r1 r2 r3⟩
             | false =>
               have hem := text_is_empty ht hok
               have hok2 := Aside0.mk (And.intro hok ht)
               clear hok ht
               go_wp2
               refine bodyPost_ret (results_ct rfl _ _ w.heap.size 24 #[.int .i64 0, .int .i64 0, .int .i64 0, .int .i64 0] (0, 0) _ rfl (put_blk hq 0 0 0 0) hu rfl (by kernel_rfl)) rfl ?_
               exact ⟨0, 0, 0, 0, false, rfl, reads_empty hok2.out.2 hok2.out.1, put_below hB6 (Nat.le_refl _) 0 0 0 0⟩
           · have et := strL_ne ht
             have ht2 := Aside0.mk ht
             clear ht
             go_wp2
             refine bodyPost_ret (results_ct rfl _ _ w.heap.size 24 #[.int .i64 0, .int .i64 0, .int .i64 0, .int .i64 0] (0, 0) _ rfl (put_blk hq 0 0 0 0) hu rfl (by kernel_rfl)) rfl ?_
             exact ⟨0, 0, 0, 0, false, rfl, spec_bad HXX.out (Or.inr ⟨rfl, hk2.out⟩) HD1.out HD2.out HD3.out ht2.out, put_below hB6 (Nat.le_refl _) 0 0 0 0⟩)
    · have hne : ((xs.length : Int) == 4) = false := by
        cases hq : ((xs.length : Int) == 4) with
        | false => rfl
        | true => exact absurd (eq_of_beq hq) (by omega)
      go_wp2
      refine bodyPost_ret (results_ct rfl _ _ w.heap.size 24 #[.int .i64 0, .int .i64 0, .int .i64 0, .int .i64 0] (0, 0) _ rfl (put_blk hr2 0 0 0 0) hu rfl (by kernel_rfl)) rfl ?_
      exact ⟨0, 0, 0, 0, false, rfl, HR.out h4, put_below hB2 (Nat.le_refl _) 0 0 0 0⟩
end Go.Proofs.YtddagnomnamfdaaDoor.Ta
