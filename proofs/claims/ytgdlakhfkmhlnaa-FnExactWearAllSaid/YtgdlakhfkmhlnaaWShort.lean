/- Two steps of the printed walks under short names. -/
import Derived.Test.YtgdlakhfkmhlnaaWWords
namespace Go.Proofs.YtgdlakhfkmhlnaaW.PrintWords
open Go.RowKit
theorem ofb {p : Prop} [Decidable p] (h : decide p = true := by first | (with_reducible assumption) | assumption) : p := of_decide_eq_true h
theorem up {w w' : World} {a : Addr} {v : Value} (hb : Below w.heap.size w w') (h : w.cell? a = some v) : w'.cell? a = some v := (hb.cell (World.block_lt_of_cell? w _ h)).trans h
end Go.Proofs.YtgdlakhfkmhlnaaW.PrintWords
