/- Rows of rows that are handed over to what writes them: told by the blocks that they may be. -/
import Derived.Test.YtgdlakhfkmhlnaaWApart
import Derived.Test.YtgdlakhfkmhlnaaWMore
namespace Go.Proofs.YtgdlakhfkmhlnaaW.PrintWords
open Go.RowKit
namespace Kd
section
variable {α β : Type} {d : Kd α} {e : Nat} {w W : World} {base : Nat} {ok : Nat → Prop} {v : Value} {xs : List α} {P : Nat → Prop} {L : List Nat}
theorem R_stored (h : d.R e w base ok v xs) (Q : Program) (a : Addr) (m : Mode) (u : World) : (store a v m).run Q u = stored Q u a v m := by
  obtain ⟨_, _, e_⟩ := R_slice h
  rw [e_]
  exact run_store_slice _ _ _ _ _ _ _
end
end Kd
end Go.Proofs.YtgdlakhfkmhlnaaW.PrintWords
