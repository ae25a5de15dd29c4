import Derived.Test.YtddagnomnamfdaaDoorTa
import Derived.RegionTactic
import Derived.ChangeAlike
import Derived.Laws.IdiomStrings
namespace Go.Proofs.YtddagnomnamfdaaDoor.Ta
open Go.RowKit Go.Proofs.YtddagnomnamfdaaDoorW.PrintWords Go.Proofs.YtddagnomnamfdaaDoorW.PrintLast Go.Proofs.YtddagnomnamfdaaDoorW.PrintMore
/-- What a text is cut into at a byte, letter by letter. -/
def cutStep (u : UInt8) (xs : List ByteArray) (b : UInt8) : List ByteArray := if b = u then xs ++ [⟨#[]⟩] else xs.set (xs.length - 1) (xs.getD (xs.length - 1) ⟨#[]⟩ ++ ⟨#[b]⟩)
def cutL (u : UInt8) (l : List UInt8) : List ByteArray := l.foldl (cutStep u) [⟨#[]⟩]
theorem string_M (w : World) (base : Nat) (ok : Nat → Prop) (x : ByteArray) : Kd.string.M w base ok x [.string x] := rfl
/-- A literal of one text, as the walk leaves it. -/
theorem lit1 (w : World) : Kd.string.R 9 (w.alloc (.cells #[.string ⟨#[]⟩] 9)) w.heap.size (fun _ => True) (.slice (some ⟨w.heap.size, 0, none⟩) 1 1) [⟨#[]⟩] := by
  refine ⟨fun _ _ => trivial, [.string ⟨#[]⟩], ?_, Reps.one (string_M _ _ _ _) (Reps.none _ _)⟩
  have h2 := World.ownsRow_lit (base := w.heap.size) (e := 9) (size := 1) w #[.string ⟨#[]⟩] 1 (Nat.le_refl _) (by decide) (by rfl)
  have e : (Kd.string).sz = 1 := rfl
  rw [e]
  simpa using h2
theorem step_small {xs : List ByteArray} {n : Nat} (h : ∀ x ∈ xs, x.size ≤ n) (b : UInt8) : ∀ x ∈ cutStep 32 xs b, x.size ≤ n + 1 := by
  intro x hx
  unfold cutStep at hx
  split at hx
  · rcases List.mem_append.1 hx with h1 | h1
    · have := h x h1; omega
    · rw [List.mem_singleton.1 h1]; exact Nat.zero_le _
  · rcases List.mem_or_eq_of_mem_set hx with h1 | h1
    · have := h x h1; omega
    · rw [h1, ByteArray.size_append]
      have h2 : (xs.getD (xs.length - 1) ⟨#[]⟩).size ≤ n := by
        rw [List.getD_eq_getElem?_getD]
        cases hq : xs[xs.length - 1]? with
        | none => exact Nat.zero_le _
        | some v => exact h v (List.mem_of_getElem? hq)
      have h3 : (⟨#[b]⟩ : ByteArray).size = 1 := rfl
      omega
theorem cut_small : ∀ (l : List UInt8) (xs : List ByteArray) (n : Nat), (∀ x ∈ xs, x.size ≤ n) → ∀ x ∈ l.foldl (cutStep 32) xs, x.size ≤ n + l.length
  | [], _, _, h => h
  | b :: l, xs, n, h => fun x hx => by
    have := cut_small l (cutStep 32 xs b) (n + 1) (step_small h b) x hx
    rw [List.length_cons]
    omega
theorem byteAt {s : ByteArray} {j : Nat} (h : j < s.size) : s.data.toList.take (j + 1) = s.data.toList.take j ++ [s[j]] := by
  have hl : j < s.data.toList.length := by simpa using h
  rw [List.take_add_one, List.getElem?_eq_getElem hl]
  simp
  rfl
theorem cut_len : ∀ (l : List UInt8) (xs : List ByteArray), 1 ≤ xs.length → 1 ≤ (l.foldl (cutStep 32) xs).length ∧ (l.foldl (cutStep 32) xs).length ≤ xs.length + l.length
  | [], xs, h => ⟨h, by simp⟩
  | b :: l, xs, h => by
    have hs : xs.length ≤ (cutStep 32 xs b).length ∧ (cutStep 32 xs b).length ≤ xs.length + 1 := by unfold cutStep; split <;> simp
    have := cut_len l (cutStep 32 xs b) (by omega)
    simp only [List.foldl_cons, List.length_cons]
    omega
set_option maxHeartbeats 2000000 in
set_option maxRecDepth 100000 in
theorem spec_l1Cut.calls (s : ByteArray) (hs : s.size ≤ 1000) (w : World) :
    Calls Tryd.prog 25 #[.string s, .int .u8 32] w fun e w' => ∃ v, e = .returned v ∧ Kd.string.R 9 w' w.heap.size (fun _ => True) v (cutL 32 s.data.toList) ∧ Below w.heap.size w w' := by
  have hu := Tryd.underlying43
  have hu2 := Tryd.underlying22
  have hu3 := Tryd.underlying5
  have hu4 := Tryd.underlying9
  have HB := Aside0.mk (Below.refl w.heap.size w)
  go_enter Tryd.func25, Tryd.ntmps25
  go_wp2
  go_loopw [5, 6] (fun v i W => ∃ (j : Nat) (xs : List ByteArray), j ≤ s.size ∧ i = .int .i64 j ∧ Aside0 (xs = (s.data.toList.take j).foldl (cutStep 32) [⟨#[]⟩]) ∧ Aside0 (Kd.string.R 9 W w.heap.size (fun _ => True) v xs) ∧ Aside0 (Below w.heap.size w W)) (fun _ i _ => s.size - (intOf i).toNat)
  case atStart => exact ⟨0, [⟨#[]⟩], Nat.zero_le _, rfl, ⟨rfl⟩, ⟨lit1 w⟩, ⟨below_alloc (Below.refl _ _) _⟩⟩
  case round =>
    obtain ⟨j, xs, hj, rfl, HX, HO, HBr⟩ := hrel
    by_cases hlt : j < s.size
    · by_cases hb : s[j] = 32
      · have _t := trivial
        have hlen : xs.length ≤ 1001 := by
          have := (cut_len (s.data.toList.take j) [⟨#[]⟩] (by decide)).2
          rw [HX.out]
          simp only [List.length_take, List.length_cons, List.length_nil] at this ⊢
          omega
        go_wp2_with (at_builtin; refine Kd.R_append Kd.string (w0 := w) w.heap.size rfl _ _ _ _ (.string ⟨#[]⟩) 16 rfl hu (by kernel_rfl) rfl (by decide) (by decide) u5 xs ⟨#[]⟩ [.string ⟨#[]⟩] (fun _ => True) (fun _ => False) rfl rfl (string_M _ _ _ _) (fun _ h => h.elim) (fun _ _ => trivial) HO.out HBr.out HBr.out.size (by omega) ?_; intro v1 w1 ho2 hb2 hg2 hat2)
        exact ⟨⟨j + 1, xs ++ [⟨#[]⟩], by omega, by go_num, ⟨by rw [byteAt hlt, List.foldl_append, ← HX.out]; simp [cutStep, hb]⟩, ⟨ho2⟩, ⟨hb2⟩⟩, by simp [intOf]; omega⟩
      · have _t := trivial
        have hpos : 0 < xs.length := by
          have := (cut_len (s.data.toList.take j) [⟨#[]⟩] (by decide)).1
          rw [HX.out]
          omega
        have hlen : xs.length ≤ 1001 := by
          have := (cut_len (s.data.toList.take j) [⟨#[]⟩] (by decide)).2
          rw [HX.out]
          simp only [List.length_take, List.length_cons, List.length_nil] at this ⊢
          omega
        obtain ⟨g, cap, rfl, hbg, hgl, cells, hcells⟩ := Kd.R_form HO.out hpos
        obtain ⟨c, hcl, hcM, hcc, hcf⟩ := Kd.R_elem HO.out ⟨#[]⟩ ((xs.length : Int) - 1) (by omega) (by omega)
        obtain rfl : c = [.string (xs.getD ((xs.length : Int) - 1).toNat ⟨#[]⟩)] := hcM
        have hc0 := hcc 0 _ rfl
        have hf0 := hcf 0
        have hsl : (xs.getD ((xs.length : Int) - 1).toNat ⟨#[]⟩).size ≤ 1000 := by
          have hm := cut_small (s.data.toList.take j) [⟨#[]⟩] 0 (fun x hx => by rw [List.mem_singleton.1 hx]; exact Nat.le_refl _) (xs.getD ((xs.length : Int) - 1).toNat ⟨#[]⟩) (by
            rw [← HX.out, List.getD_eq_getElem?_getD, List.getElem?_eq_getElem (by omega)]
            exact List.getElem_mem _)
          rw [List.length_take] at hm
          omega
        generalize hlast : xs.getD ((xs.length : Int) - 1).toNat ⟨#[]⟩ = last at hc0 hsl
        have hcat : (9223372036854775807 < last.size + 1) = False := eq_false (by omega)
        have hne : (((s[j].toNat : Nat) : Int) == 32) = false := by
          cases hq : (((s[j].toNat : Nat) : Int) == 32) with
          | false => rfl
          | true =>
            refine absurd ?_ hb
            have h2 := eq_of_beq hq
            apply UInt8.toNat_inj.1
            have h3 : (32 : UInt8).toNat = 32 := rfl
            omega
        have en : ((xs.length : Int) - 1).toNat = xs.length - 1 := by omega
        have esz : (Kd.string).sz = 1 := rfl
        rw [en, esz, Nat.mul_one, Nat.add_zero] at hc0 hf0
        have hi1 : (0 : Int) ≤ (xs.length : Int) - 1 := by omega
        have hi2 : (xs.length : Int) - 1 < (xs.length : Int) := by omega
        clear hcc hcf en esz
        have hbn := blk_new wr (.cells #[.int .u8 (s[j].toNat : Int)] 5)
        have hcv := run_convert_bytes_back ((wr.alloc (.cells #[.int .u8 (s[j].toNat : Int)] 5)).drew) 22 9 5 ⟨wr.heap.size, 0, none⟩ 1 [s[j]] hu2 hu3 hu4 (fun i hi => by
          obtain rfl : i = 0 := by simp at hi; omega
          exact (blk_cell hbn 0).trans rfl)
        rw [List.length_singleton] at hcv
        clear hbn
        go_wp2_with fail
        go_region
        clear hcv
        obtain ⟨hrow, hgr⟩ := Kd.R_seg HO.out ((xs.length : Int) - 1) (by omega) (by omega) (c := [.string last]) (seg := [.string (last ++ ⟨#[s[j]]⟩)]) (j := 0) (okp := fun _ => False) rfl (fun q u hq => by
          rcases q with _ | q
          · obtain rfl := Option.some.inj hq
            have esz : (Kd.string).sz = 1 := rfl
            rw [show ((xs.length : Int) - 1).toNat = xs.length - 1 by omega, esz, Nat.mul_one, Nat.add_zero]
            exact hc0
          · simp at hq) (Nat.le_refl 1) (x' := (last ++ ⟨#[s[j]]⟩ : ByteArray)) (string_M _ _ _ _) (fun _ h => h.elim)
        have en : ((xs.length : Int) - 1).toNat = xs.length - 1 := by omega
        have esz : (Kd.string).sz = 1 := rfl
        rw [en, esz, Nat.mul_one, Nat.add_zero] at hrow hgr
        have hrow2 : Kd.string.R 9 (wr.setCell ⟨g, xs.length - 1, none⟩ (.string (last ++ ⟨#[s[j]]⟩))) w.heap.size (fun _ => True) (.slice (some ⟨g, 0, none⟩) xs.length cap) (xs.set (xs.length - 1) (last ++ ⟨#[s[j]]⟩)) := hrow
        have hB2 : Below w.heap.size w (wr.setCell ⟨g, xs.length - 1, none⟩ (.string (last ++ ⟨#[s[j]]⟩))) := pw_below_grown HBr.out (some g) HBr.out.size hgr (fun k hk => by obtain rfl := Option.some.inj hk; exact hbg)
        have hX2 : xs.set (xs.length - 1) (last ++ ⟨#[s[j]]⟩) = (s.data.toList.take (j + 1)).foldl (cutStep 32) [⟨#[]⟩] := by
          rw [byteAt hlt, List.foldl_append, ← HX.out, List.foldl_cons, List.foldl_nil]
          unfold cutStep
          rw [if_neg hb, ← hlast, en]
        have hl2 : (xs.set (xs.length - 1) (last ++ ⟨#[s[j]]⟩)).length = xs.length := List.length_set
        clear hrow hgr en esz hc0 hf0 hcat hne hlast hcells HO HX HBr
        go_wp2
        exact ⟨⟨j + 1, _, by omega, by go_num, ⟨hX2⟩, ⟨Kd.R_drew (Kd.R_alloc hrow2 _)⟩, ⟨below_drew (below_alloc hB2 _)⟩⟩, by simp [intOf]; omega⟩
    · go_wp2
      go_ret
      refine ⟨_, rfl, ?_, HBr.out⟩
      have e : j = s.size := by omega
      have e2 : xs = cutL 32 s.data.toList := by
        rw [HX.out, e, show s.size = s.data.toList.length by simp, List.take_length]
        rfl
      rw [← e2]
      exact HO.out
end Go.Proofs.YtddagnomnamfdaaDoor.Ta
