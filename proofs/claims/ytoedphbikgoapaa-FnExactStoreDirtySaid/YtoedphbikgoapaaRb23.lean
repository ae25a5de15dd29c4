-- printed by wip/pp/pp.py
import Derived.Test.YtoedphbikgoapaaRb0
import Derived.Test.YtoedphbikgoapaaRb2
import Derived.Test.YtoedphbikgoapaaRb5
import Derived.Test.YtoedphbikgoapaaWMap
import Derived.Maps.OwnOps
import Derived.Maps.Own
import Derived.Maps.OwnIn
import Derived.WalkArith
namespace Go.Proofs.Ytoedphbikgoapaa.Rb
open Go.RowKit Go.Proofs.YtoedphbikgoapaaW.PrintWords Go.Proofs.YtoedphbikgoapaaW.PrintLast Go.Proofs.YtoedphbikgoapaaW.PrintMore
attribute [local go_sem] max2_int min2_int max_two min_two max_three min_three max_four min_four   -- for this text's walks alone
set_option linter.unusedVariables false
set_option linter.unusedSimpArgs false

-- ALONE
-- IMPORT Derived.Test.YtoedphbikgoapaaWMap
-- IMPORT Derived.Maps.OwnOps
-- IMPORT Derived.Maps.Own
-- IMPORT Derived.Maps.OwnIn
-- IMPORT Derived.WalkArith
open Go.Proofs.YtoedphbikgoapaaW
attribute [local go_sem] Oper.semAt_some

theorem flash_fourR {l : List S65} (h : flashOkB l = true) : l.length = 4 := by
  unfold flashOkB at h
  rw [Bool.and_eq_true, decide_eq_true_eq] at h
  omega
abbrev RecMap := Int → Option R4
def recOf (r : S30) : R4 := (r.f0, r.f1, r.f2, r.f3)
def mapStep (M : RecMap) (p : S71) : RecMap := if p.f0 = 1 ∧ p.f1.f1 > ((M p.f1.f2).getD (0, 0, 0, 0)).2.1 then putM M p.f1.f2 (recOf p.f1) else M
def lastMap (l : List S65) : RecMap := (pagesL l).foldl mapStep (fun _ => none)
theorem okPage_wf {p : S71} (h : pageB p = true) (h1 : p.f0 = 1) : (Lit.int .i64 p.f1.f2).wf = true := by
  unfold pageB at h
  rw [if_pos h1] at h
  simp only [recOkB, decide_eq_true_eq] at h
  exact WalkArith.wf_i64 ⟨by omega, by omega⟩
theorem okPagesB : ∀ (ps : List S71) (S S' : List Int), pagesB ps S = some S' → ∀ p ∈ ps, pageB p = true
  | [], _, _, _, _, h => by cases h
  | p :: ps, S, S', h, q, hq => by
    rw [pagesB] at h
    by_cases hp : pageB p = true
    rotate_left
    · rw [if_neg hp] at h; cases h
    rw [if_pos hp] at h
    rcases List.mem_cons.1 hq with rfl | hq
    · exact hp
    · by_cases h1 : p.f0 = 1
      rotate_left
      · rw [if_neg h1] at h; exact okPagesB ps _ _ h q hq
      rw [if_pos h1] at h
      by_cases hm : p.f1.f1 ∈ S
      · rw [if_pos hm] at h; cases h
      rw [if_neg hm] at h; exact okPagesB ps _ _ h q hq
theorem okSpotsB (i : Nat) : ∀ (j : Nat) (ps : List S71) (x : Spot), x ∈ spotsB i j ps → x.2.2 ∈ ps
  | _, [], _, h => by cases h
  | j, p :: ps, x, h => by
    rw [spotsB] at h
    rcases List.mem_cons.1 h with rfl | h
    · simp
    · exact List.mem_cons_of_mem _ (okSpotsB i (j + 1) ps x h)
theorem okSpotsF : ∀ (i : Nat) (l : List S65) (S : List Int), blocksB l S = true → ∀ x ∈ spotsF i l, pageB x.2.2 = true
  | _, [], _, _, _, h => by cases h
  | i, b :: bs, S, h, x, hx => by
    rw [blocksB, Bool.and_eq_true] at h
    cases he : pagesB b.f0 S with
    | none => rw [he] at h; exact absurd h.2 (by simp)
    | some S' =>
      rw [he] at h
      rw [spotsF] at hx
      rcases List.mem_append.1 hx with hx | hx
      · exact okPagesB _ _ _ he _ (okSpotsB i 0 _ x hx)
      · exact okSpotsF (i + 1) bs S' h.2 x hx
theorem okSpots {l : List S65} (h : flashOkB l = true) : ∀ x ∈ spotsF 0 l, pageB x.2.2 = true := by
  unfold flashOkB at h
  rw [Bool.and_eq_true] at h
  exact okSpotsF 0 l [] h.2
def countB (l : List S65) : Nat := (spotsF 0 l).length
theorem spotsB_len (i : Nat) : ∀ (j : Nat) (ps : List S71), (spotsB i j ps).length = ps.length
  | _, [] => rfl
  | j, p :: ps => by rw [spotsB, List.length_cons, List.length_cons, spotsB_len i (j + 1) ps]
theorem spotsF_len : ∀ (i : Nat) (l : List S65) (S : List Int), blocksB l S = true → (spotsF i l).length = 4 * l.length
  | _, [], _, _ => rfl
  | i, b :: bs, S, h => by
    rw [blocksB, Bool.and_eq_true] at h
    have hb : b.f0.length = 4 := by
      have := h.1
      unfold blockB at this
      rw [Bool.and_eq_true, decide_eq_true_eq] at this
      omega
    cases he : pagesB b.f0 S with
    | none => rw [he] at h; exact absurd h.2 (by simp)
    | some S' =>
      rw [he] at h
      rw [spotsF, List.length_append, spotsB_len, spotsF_len (i + 1) bs S' h.2, List.length_cons]
      omega
theorem spots_len {l : List S65} (h : flashOkB l = true) : (spotsF 0 l).length = 16 := by
  have hl := flash_fourR h
  unfold flashOkB at h
  rw [Bool.and_eq_true] at h
  rw [spotsF_len 0 l [] h.2, hl]
abbrev OkPage := {x : Spot // pageB x.2.2 = true}
def lastMapOf (pre : List OkPage) : RecMap := pre.foldl (fun m x => mapStep m x.1.2.2) (fun _ => none)
theorem lastMapOf_snoc (pre : List OkPage) (x : OkPage) : lastMapOf (pre ++ [x]) = mapStep (lastMapOf pre) x.1.2.2 := by simp [lastMapOf]
theorem lastMapOf_all {ys : List OkPage} {l0 : List S65} (h : ys.map (·.1) = spotsF 0 l0) : lastMapOf ys = lastMap l0 := by
  unfold lastMapOf lastMap pagesL
  rw [← h, List.foldl_map, List.foldl_map]
theorem RecsIs_own {P : Program} {K : TypeId} {Bq b : Nat} (hb : Bq < b) {β : Type} (f : β → RecMap) (g : β → Nat) : OwnFrom b (fun (s : β) W => ∃ n, n ≤ g s ∧ RecsIs P K W Bq n (f s)) := fun s X Y row hs hg hr => by
  obtain ⟨n, hn, h⟩ := hs
  exact ⟨n, hn, h.kept hg (fun e => by have := (hr _ e.symm).1; omega)⟩
theorem field_seq (a b c d : Value) (W : World) : (Instr.field 30 (.agg #[a, b, c, d]) 1).run Try.prog W = .ok b W := by
  have hu := Try.underlying30
  unfold Instr.field
  simp [run_underlying hu]
  go_simp
  rfl
set_option maxRecDepth 100000 in
set_option maxHeartbeats 8000000 in
theorem lastRecords_any (A0 : Option Addr) (c0 : Nat) (l0 : List (S65)) (w : World) (hr0 : Kd.C k65 w A0 l0.length l0) (hf : flashOkB l0 = true) :
    Calls Try.prog 58 #[.slice A0 l0.length c0] w fun e w' => ∃ B n, e = .returned (.map (some B)) ∧ RecsIs Try.prog 3 w' B n (lastMap l0) ∧ w.heap.size ≤ B ∧ Below w.heap.size w w' := by
  refine (callsIn_wide (n := 3)).1 ?_
  have hmm := @run_makeMap Try.prog
  have hlen := spots_len hf
  refine callsIn_of_wp_marks Try.func58 rfl trivial ?_ rfl
  simp only [Try.ntmps58, List.size_toArray, List.length_cons, List.length_nil, Nat.reduceAdd, Nat.reduceSub, Array.replicate_succ, Array.replicate_zero, List.push_toArray, List.append_toArray, List.nil_append, List.cons_append]
  gi_wp2_with (first | (refine ⟨trivial, ?_⟩; gi_at_call 83; refine (eachPage_in Fence.wide 2 trivial rfl _ _ _ _).mono ?_; rintro e w2 ⟨rfl, rfl⟩))
  have bM : RecsIs Try.prog 3 (((w.alloc (.map #[] 0)).alloc (.cells #[.map (some w.heap.size)] 77)).alloc (.cells #[.slice A0 l0.length c0] 26)) w.heap.size 0 (fun _ => none) := ((RecsIs.made w).alloc _).alloc _
  have bV : Boxed (((w.alloc (.map #[] 0)).alloc (.cells #[.map (some w.heap.size)] 77)).alloc (.cells #[.slice A0 l0.length c0] 26)) (w.heap.size + 1) 77 (.map (some w.heap.size)) := by
    have := blk_alloc (blk_new (w.alloc (.map #[] 0)) (.cells #[.map (some w.heap.size)] 77)) (.cells #[.slice A0 l0.length c0] 26)
    rw [World.size_alloc] at this
    exact this
  have bN : Boxed (((w.alloc (.map #[] 0)).alloc (.cells #[.map (some w.heap.size)] 77)).alloc (.cells #[.slice A0 l0.length c0] 26)) (w.heap.size + 1 + 1) 26 (.slice A0 l0.length c0) := by
    have := blk_new ((w.alloc (.map #[] 0)).alloc (.cells #[.map (some w.heap.size)] 77)) (.cells #[.slice A0 l0.length c0] 26)
    rw [World.size_alloc, World.size_alloc] at this
    exact this
  have hB0 : Below w.heap.size w (((w.alloc (.map #[] 0)).alloc (.cells #[.map (some w.heap.size)] 77)).alloc (.cells #[.slice A0 l0.length c0] 26)) := below_alloc (below_alloc (below_alloc (Below.refl _ w) _) _) _
  have hsz : (((w.alloc (.map #[] 0)).alloc (.cells #[.map (some w.heap.size)] 77)).alloc (.cells #[.slice A0 l0.length c0] 26)).heap.size = w.heap.size + 3 := by simp [World.size_alloc]
  generalize hW0 : ((w.alloc (.map #[] 0)).alloc (.cells #[.map (some w.heap.size)] 77)).alloc (.cells #[.slice A0 l0.length c0] 26) = W0 at *
  refine wpIn_rangeFunc_ownH (F := Fence.wide) rfl (by decide) (gf := 97) (lb := #[.pointer (some ⟨w.heap.size + 1 + 1, 0, none⟩)]) rfl trivial (enters_of Try.func97 (by kernel_rfl) rfl)
    (eachPage_stops Fence.wide 2 trivial rfl (by decide) (fun x => pageB x.2.2 = true) (w.heap.size + 1 + 1) A0 c0 l0 w _ hr0 (okSpots hf) hB0 bN.cell) belowK_t (belowK_b hB0.size) (Below.refl _ _) (fun _ => rfl)
    (fun pre W => (∃ n, n ≤ pre.length ∧ RecsIs Try.prog 3 W w.heap.size n (lastMapOf pre)) ∧ Boxed W (w.heap.size + 1) 77 (.map (some w.heap.size)) ∧ Below w.heap.size w W) (fun _ _ _ => False)
    (OwnFrom.and (RecsIs_own (by omega) _ _) (OwnFrom.and (Own.from (boxed_own _ _ (fun _ => _)) _) (ownFrom_below (Nat.le_refl _) hB0.size))) (fun _ _ _ _ _ hs _ _ => hs)
    ⟨⟨0, Nat.le_refl _, bM⟩, bV, hB0⟩
    (fun x a' W => ∃ Bx, w.heap.size + 1 < Bx ∧ PageBox W Bx x.1.2.2 ∧ a' = { tmps := #[.slice A0 l0.length c0, undef, .map none, .pointer (some ⟨w.heap.size + 1, 0, none⟩), undef, .pointer (some ⟨Bx, 0, none⟩), .map (some w.heap.size), .slice A0 l0.length c0, .func (.func 97) #[] #[.pointer (some ⟨w.heap.size + 1 + 1, 0, none⟩)], .agg #[.int .i64 (x.1.1 : Int), .int .i64 (x.1.2.1 : Int)], .agg #[.int .i64 x.1.2.2.f0, .int .i64 x.1.2.2.f1.f0, .int .i64 x.1.2.2.f1.f1, .int .i64 x.1.2.2.f1.f2, .int .i64 x.1.2.2.f1.f3], undef, undef, undef, undef, undef, undef, undef, undef, undef, undef, undef, undef, undef, undef, undef, undef, undef, undef, undef, undef, undef, undef], defers := [] })
    (fun x a' s X Y row hs hg hr => by obtain ⟨Bx, h1, h2, h3⟩ := hs; exact ⟨Bx, h1, PageBox.own Bx _ _ () X Y row h2 hg hr, h3⟩) ?assign ?body ?done ?stop
  case assign =>
    rintro l pre x W K ⟨⟨n, hn, hm⟩, hbv, hB⟩ hK
    gi_wp2
    exact hK _ _ ((KeepsOthers.alloc _ _).from _) ((Below.refl _ W).alloc hB.size _) ⟨⟨n, hn, hm.alloc _⟩, hbv.alloc _, hB.alloc hB.size _⟩ ⟨W.heap.size, hbv.lt, blk_new W _, rfl⟩
  case body =>
    rintro l pre x a' W hl ⟨r, hr⟩ ⟨⟨n, hn, hm⟩, hbv, hB⟩ ⟨Bx, hBx, bX, rfl⟩ hlt
    obtain ⟨hc0_, hc1_, hc2_, hc3_, hc4_⟩ := bX.cells
    have hcv := hbv.cell
    have hsn := lastMapOf_snoc pre x
    by_cases hs1 : x.1.2.2.f0 = 1
    rotate_left
    · have hs2 : (x.1.2.2.f0 == 1) = false := by simp [hs1]
      unfold mapStep at hsn
      rw [if_neg (fun h => hs1 h.1)] at hsn
      gi_wp2
      exact ⟨KeepsFrom.refl _ _, Below.refl _ _, ⟨n, by rw [List.length_append]; omega, by rw [hsn]; exact hm⟩, hbv, hB⟩
    have hs2 : (x.1.2.2.f0 == 1) = true := by simp [hs1]
    have hwf := okPage_wf x.2 hs1
    have hlk : (Instr.lookup 77 (.map (some w.heap.size)) (.int .i64 x.1.2.2.f1.f2) false).run Try.prog W = .ok (recVal ((lastMapOf pre x.1.2.2.f1.f2).getD (0, 0, 0, 0))) W := hm.look Try.underlying3 Try.underlying77 (by go_simp; rfl) hwf
    unfold recVal at hlk
    unfold mapStep at hsn
    generalize (lastMapOf pre x.1.2.2.f1.f2).getD (0, 0, 0, 0) = q at hlk hsn
    have hfd := field_seq (.int .i64 q.1) (.int .i64 q.2.1) (.int .i64 q.2.2.1) (.int .i64 q.2.2.2)
    by_cases hv : q.2.1 < x.1.2.2.f1.f1
    rotate_left
    · have hv2 : decide (q.2.1 < x.1.2.2.f1.f1) = false := decide_eq_false hv
      rw [if_neg (fun h => hv h.2)] at hsn
      have HSN := Aside0.mk hsn
      clear hsn
      gi_wp2
      exact ⟨KeepsFrom.refl _ _, Below.refl _ _, ⟨n, by rw [List.length_append]; omega, by rw [HSN.out]; exact hm⟩, hbv, hB⟩
    have hv2 : decide (q.2.1 < x.1.2.2.f1.f1) = true := decide_eq_true hv
    rw [if_pos ⟨hs1, hv⟩] at hsn
    obtain ⟨w1, hrun, hm1, hg1⟩ := hm.put (E := 30) (T := 77) Try.underlying3 Try.underlying77 (by simp only [maxLen]; omega) hwf (recOf x.1.2.2.f1)
    unfold recVal recOf at hrun
    have OK1 := Aside0.mk (KeepsFrom.of_grownBy (B := w.heap.size + 3) hg1 (fun j e => by cases e; omega))
    have OK2 := Aside0.mk ((Below.refl w.heap.size W).grown hg1 hB.size (fun j e => by cases e; exact Nat.le_refl _))
    have OK3 := Aside0.mk (hbv.kept hg1 (by intro e; injection e with e; omega))
    have OK4 := Aside0.mk (hB.grown hg1 hB.size (fun j e => by cases e; exact Nat.le_refl _))
    have OK5 := Aside0.mk hm1
    have HSN := Aside0.mk hsn
    clear hm1 hg1 hsn
    gi_wp2
    exact ⟨OK1.out, OK2.out, ⟨n + 1, by rw [List.length_append]; simp; omega, by rw [HSN.out]; exact OK5.out⟩, OK3.out, OK4.out⟩
  case done =>
    rintro D ys W hD hys ⟨⟨n, hn, hm⟩, hbv, hB⟩ hK
    rw [lastMapOf_all hys] at hm
    have hcv := hbv.cell
    gi_wp2
    refine ⟨by simp, .inl ⟨_, _, rfl, run_takeDeferred hK, ?_⟩⟩
    have hm2 := hm.kept (grownBy_putObj' W D (.deferred none)) (fun e => by injection e with e; omega)
    exact ⟨_, results_tmp rfl _ _ _, w.heap.size, n, rfl, hm2, Nat.le_refl _, hB.trans (belowK_b (w := w) (Nat.le_refl _) W D _ _ (by have := hB0.size; omega) hK rfl rfl)⟩
  case stop =>
    rintro D c pre W _ _ h _
    exact h.elim

end Go.Proofs.Ytoedphbikgoapaa.Rb
