/- Rows of rows that are handed over to what writes them: told by the blocks that they may be. -/
import Derived.Test.YtbhchamohldehaaWApart
import Derived.Test.YtbhchamohldehaaWMore
namespace Go.Proofs.YtbhchamohldehaaW.PrintWords
open Go.RowKit
namespace Kd
section
variable {α β : Type} {d : Kd α} {e : Nat} {w W : World} {base : Nat} {ok : Nat → Prop} {v : Value} {xs : List α} {P : Nat → Prop} {L : List Nat}
theorem S_hand (h : S d e w base ok v xs) : ∃ P : Nat → Prop, S d e w base P v xs ∧ ∀ k, P k → ok k ∧ base ≤ k ∧ k < w.heap.size ∧ ∃ q, q ∈ e :: d.E ∧ ∃ cells, w.heap[k]? = some (.cells cells q (0, 0)) := ⟨_, S_bound h, fun _ hk => hk⟩
theorem R_awayP (h : d.R e w base ok v xs) (hP : ∀ k, P k → ∃ q, q ∈ L ∧ ∃ cells, w.heap[k]? = some (.cells cells q (0, 0))) (hd : ∀ q, q ∈ e :: d.E → ∀ p, p ∈ L → q ≠ p) : d.R e w base (fun k => ok k ∧ ¬ P k) v xs :=
  R_mono (R_bound h) (fun k hk => ⟨hk.1, fun hp => by
    obtain ⟨q, hq, c, hc⟩ := hP k hp
    obtain ⟨_, _, _, q', hq', c', hc'⟩ := hk
    rw [hc'] at hc
    injection hc with hc
    injection hc with _ hc
    exact hd q' hq' q hq hc⟩)
theorem blk_awayP {g t : Nat} {cells : Array Value} {fr : Nat × Nat} (hP : ∀ k, P k → ∃ q, q ∈ L ∧ ∃ cells, w.heap[k]? = some (.cells cells q (0, 0))) (hb : w.heap[g]? = some (.cells cells t fr)) (hd : ∀ p, p ∈ L → t ≠ p) : ¬ P g := fun hp => by
  obtain ⟨q, hq, c, hc⟩ := hP g hp
  rw [hb] at hc
  injection hc with hc
  injection hc with _ hc
  exact hd q hq hc
structure Raise (d : Kd α) : Prop where mk :: (out : ∀ {w : World} {b b' : Nat} {ok : Nat → Prop} {x : α} {cs : List Value}, (∀ k, ok k → b' ≤ k) → d.M w b ok x cs → d.M w b' ok x cs)
theorem R_raiseR (hd : Raise d) {b' : Nat} (h : d.R e w base ok v xs) (hb : ∀ k, ok k → b' ≤ k) : d.R e w b' ok v xs := by
  obtain ⟨h0, inner, ho, hr⟩ := h
  exact ⟨h0, inner, own_raise ho (fun k hk => hb k (h0 k hk)), hr.imp_ (fun _ _ hp => hd.out (fun k hk => hb k hk.1) hp)⟩
theorem raise_int (k : IntKind) : Raise (Kd.int k) := ⟨fun _ h => h⟩
theorem raise_slice (e : Nat) (hd : Raise d) : Raise (Kd.slice e d) := ⟨fun hb h => by
  obtain ⟨v, rfl, hR⟩ := h
  exact ⟨v, rfl, R_raiseR hd hR hb⟩⟩
theorem raise_pair {a : Kd α} {c : Kd β} (ha : Raise a) (hc : Raise c) : Raise (Kd.pair a c) := ⟨fun hb h => by
  obtain ⟨c1, c2, rfl, h1, h2⟩ := h
  exact ⟨c1, c2, rfl, ha.out hb h1, hc.out hb h2⟩⟩
theorem raise_iso {a : Kd α} (f : β → α) (ha : Raise a) : Raise (Kd.iso a f) := ⟨fun hb h => ha.out hb h⟩
theorem raise_tag (f : Nat → Nat) (hd : Raise d) : Raise (tag f d) := ⟨fun hb h => hd.out (d := d) (fun k hk => hb k hk.1) h⟩
theorem S_raise (hd : Raise d) {b' : Nat} (h : S d e w base ok v xs) (hb : ∀ k, ok k → b' ≤ k) : S d e w b' ok v xs := by
  obtain ⟨f, h⟩ := h
  exact ⟨f, R_raiseR (raise_tag f hd) h hb⟩
end
end Kd
end Go.Proofs.YtbhchamohldehaaW.PrintWords
