/- Rows of rows that are handed over to what writes them: told by the blocks that they may be. -/
import Derived.Test.YtfamgmnlflgblaaWApart
import Derived.Test.YtfamgmnlflgblaaWMore
namespace Go.Proofs.YtfamgmnlflgblaaW.PrintWords
open Go.RowKit
namespace Kd
section
variable {α β : Type} {d : Kd α} {e : Nat} {w W : World} {base : Nat} {ok : Nat → Prop} {v : Value} {xs : List α} {P : Nat → Prop} {L : List Nat}
/-- A row that is stored whole. -/
theorem R_stored (h : d.R e w base ok v xs) (Q : Program) (a : Addr) (m : Mode) (u : World) : (store a v m).run Q u = stored Q u a v m := by
  obtain ⟨_, _, e_⟩ := R_slice h
  rw [e_]
  exact run_store_slice _ _ _ _ _ _ _
/-- The blocks of a row of rows, under one letter. -/
theorem S_hand (h : S d e w base ok v xs) : ∃ P : Nat → Prop, S d e w base P v xs ∧ ∀ k, P k → ok k ∧ base ≤ k ∧ k < w.heap.size ∧ ∃ q, q ∈ e :: d.E ∧ ∃ cells, w.heap[k]? = some (.cells cells q (0, 0)) := ⟨_, S_bound h, fun _ hk => hk⟩
theorem blk_awayP {g t : Nat} {cells : Array Value} {fr : Nat × Nat} (hP : ∀ k, P k → ∃ q, q ∈ L ∧ ∃ cells, w.heap[k]? = some (.cells cells q (0, 0))) (hb : w.heap[g]? = some (.cells cells t fr)) (hd : ∀ p, p ∈ L → t ≠ p) : ¬ P g := fun hp => by
  obtain ⟨q, hq, c, hc⟩ := hP g hp
  rw [hb] at hc
  injection hc with hc
  injection hc with _ hc
  exact hd q hq hc
end
end Kd
end Go.Proofs.YtfamgmnlflgblaaW.PrintWords
