import Derived.Test.YtfamgmnlflgblaaFW0
import Derived.Laws.CopyRow
import Derived.Deep.WholeRow
namespace Go.Proofs.Ytfamgmnlflgblaa.Rf
open Go.RowKit Go.Proofs.YtfamgmnlflgblaaW.PrintWords Go.Proofs.YtfamgmnlflgblaaW.PrintLast Go.Proofs.YtfamgmnlflgblaaW.PrintMore
/-- copy of elements of any size onto the head of a block of the call's own. -/
theorem run_copy_sz {P : Program} (w : World) (dT sT ty elem : TypeId) (g dLen dCap : Nat) (a : Addr) (sLen sCap sz : Nat) (cur : Array Value) (t : TypeId) (cs : List Value)
    (hu : P.underlying dT = some (.slice elem)) (hs : (P.info? elem).map (·.size) = some sz) (hg : w.heap[g]? = some (.cells cur t (0, 0))) (hn : cs.length = Nat.min sLen dLen * sz)
    (hsrc : ∀ j v, cs[j]? = some v → w.cell? (a.add j) = some v) (hfit : cs.length ≤ cur.size) (h1 : ∀ v ∈ cs, v.oneCell' = true) :
    (Builtin.copy_ #[dT, sT] ty #[.slice (some ⟨g, 0, none⟩) dLen dCap, .slice (some a) sLen sCap]).run P w = .ok (goInt (Nat.min sLen dLen : Nat)) (w.setRow g (cs ++ cur.toList.drop cs.length).toArray) := by
  have hl := run_loadCells_list (P := P) w a cs hsrc
  have hst := run_storeCells_at P g 0 t cs 0 cur w hg (by simpa using hfit) h1
  simp only [Nat.add_zero, List.take_zero, List.nil_append, Nat.zero_add] at hst
  cases hq : P.info? elem with
  | none => simp [hq] at hs
  | some i =>
    have hi : i.size = sz := by simpa [hq] using hs
    rw [hn] at hl
    simp [Builtin.copy_, run_underlying hu, Builtin.lenOf, Builtin.firstCells, sizeOf, typeInfo, hq, hi, hl, hst]
abbrev zeros20 : Array Value := #[.int .i64 0, .int .i64 0, .int .i64 0, .int .i64 0, .int .i64 0, .int .i64 0, .int .i64 0, .int .i64 0, .int .i64 0, .int .i64 0, .int .i64 0, .int .i64 0, .int .i64 0, .int .i64 0, .int .i64 0, .int .i64 0, .int .i64 0, .int .i64 0, .int .i64 0, .int .i64 0]
theorem k51_of {w w' : World} {base : Nat} {ok : Nat → Prop} {x : S51} {cs : List Value} (h : k51.K w x cs) : k51.M w' base ok x cs := by
  obtain rfl := k51_open h
  exact k51_mkM _ _ _ _
set_option maxHeartbeats 2000000 in
set_option maxRecDepth 100000 in
theorem impl_pagesCopy.calls (A0 : Option Addr) (c0 : Nat) (l0 : List S51) (w : World) (hr0 : Kd.C k51 w A0 l0.length l0) (hl : l0.length = 4) :
    Calls Try.prog 38 #[.slice A0 l0.length c0] w fun e w' => ∃ v, e = .returned v ∧ k51.R 73 w' w.heap.size (fun k => w.heap.size ≤ k) v l0 ∧ Below w.heap.size w w' := by
  obtain ⟨ad, hA, -⟩ := hr0.2.2 (by omega)
  subst hA
  obtain ⟨news, hnr, hnc⟩ := ReadsRow.inner_ hr0
  have esz : (k51).sz = 5 := rfl
  have hnl : news.length = 20 := by rw [hnr.1, hl, esz]
  have hone : ∀ u ∈ news, u.oneCell' = true := by
    intro u hu
    obtain ⟨q, hq, rfl⟩ := List.mem_iff_getElem.1 hu
    have hql : q / 5 < l0.length := by omega
    have hc := hnr.2 (q / 5) _ (List.getElem?_eq_getElem hql)
    refine k51.K_one hc _ ?_
    rw [List.mem_iff_getElem?]
    refine ⟨q % 5, ?_⟩
    rw [esz, List.getElem?_take, if_pos (Nat.mod_lt _ (by decide)), List.getElem?_drop, Nat.mul_comm, Nat.div_add_mod, List.getElem?_eq_getElem hq]
  have hu1 := Try.underlying43
  have hu2 := Try.underlying73
  have hu3 := Try.underlying71
  have hb := below_alloc (Below.refl _ w) (.cells zeros20 73)
  have hcp := run_copy_sz (P := Try.prog) (w.alloc (.cells zeros20 73)) 43 43 3 51 w.heap.size 4 4 ad 4 c0 5 zeros20 73 news hu1 (by kernel_rfl) (blk_new w _) (by rw [hnl]; rfl) (fun j v hj => up hb (hnc j v hj)) (by rw [hnl]; exact Nat.le_refl 20) hone
  rw [World.setRow_alloc_new, show (news ++ zeros20.toList.drop news.length) = news by rw [hnl]; exact List.append_nil news, show Nat.min 4 4 = 4 from rfl] at hcp
  have HN := Aside0.mk (And.intro hnl hnr)
  rw [hl]
  clear hr0 hone hnc hnl hnr hb
  go_enter Try.func38, Try.ntmps38
  go_wp2
  go_ret
  obtain ⟨hnl, hnr⟩ := HN.out
  refine ⟨_, rfl, ⟨fun k hk => ?_, news, ?_, hnr.imp_ (fun p c hp => ?_)⟩, below_alloc (Below.refl _ w) _⟩
  · have : w.heap.size = k := by simpa [Value.ownBlock] using hk
    omega
  · rw [esz, hl]
    have h := World.ownsRow_lit (base := w.heap.size) (e := 73) (size := 5) w news.toArray 4 (Nat.le_refl _) (by decide) (by rw [List.size_toArray, hnl])
    exact h
  · exact k51_of hp
theorem impl_pagesCopy.calls4 (A0 : Option Addr) (c0 : Nat) (l0 : List S51) (w : World) (hr0 : Kd.C k51 w A0 l0.length l0) (hl : l0.length = 4) :
    Calls Try.prog 38 #[.slice A0 4 c0] w fun e w' => ∃ A c, e = .returned (.slice A 4 c) ∧ k51.R 73 w' w.heap.size (fun k => w.heap.size ≤ k) (.slice A 4 c) l0 ∧ Below w.heap.size w w' := by
  have h := impl_pagesCopy.calls A0 c0 l0 w hr0 hl
  rw [hl] at h
  refine h.mono ?_
  rintro e w' ⟨v, rfl, hR, hb⟩
  obtain ⟨A, c, rfl⟩ := Kd.R_slice hR
  rw [hl] at hR ⊢
  exact ⟨A, c, rfl, hR, hb⟩
end Go.Proofs.Ytfamgmnlflgblaa.Rf
