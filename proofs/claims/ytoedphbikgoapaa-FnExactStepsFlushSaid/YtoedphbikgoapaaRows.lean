/-
  No cell of these rows narrows 'for every input' (looked for: loops, veiled, ifaces, maps, wideKeys, modest, calm, conditions, laid).
  DERIVED. THE GIVEN ROWS OF THIS SEAT. 6 by the template 'for every input the law returns true; each argument reads behind the call as it read before'; 0 by the template 'total and deterministic' (their statements: YtoedphbikgoapaaTotals.lean).
  GIVEN WITH THE SEED: the statements are not yours to turn. If you find one false, say at which input.
  Laid BY PROGRAM, IN A SANDBOX (cutbox-rows.mjs): the forced cells as the released guide's own fill.sh prints them over the translation 81a165af61023fe9… (all of the seat's roots in one cut). By AI agents, Wed Nov 11 2026. No macro, syntax, notation, axiom, sorry.
-/
import Derived.Test.YtoedphbikgoapaaChecked
import GoSem.Claim
import GoSem.ClaimJoined
import GoSem.ClaimMapViews
import Derived.JoinedTies
import Derived.KernelRfl
namespace Go.Proofs.Ytoedphbikgoapaa
/- THE CELL 'sum', in the pinned program and in every row, IS THE sha256 OF THE DUMP (.gsa) THAT YtoedphbikgoapaaProg.lean LOADS. Nothing in Lean hashes anything: it is a label: what it is worth is what the hold of that sum in a sandbox is worth. -/
noncomputable def Try.pinned : Pinned := { name := "ytoedphbikgoapaa", sum := "81a165af61023fe9bf6d01b209fe51987ce8b46df3e63b740752dddaaba90ea3", checked := Try.checked }
namespace Rows
def none {H : Type} : Left H := { results := [], args := [] }

/-- 'laws.FnExactFlashWrite': WHATEVER THE INPUT: true; the input reads as it did. -/
def fnExactFlashWriteSpec : ChangeSpec := { name := "fnExactFlashWrite", fn := fun _ => fun
  | [d1, d2, d3, d4] => { results := [.lit (.bool true)], args := [d1, d2, d3, d4] }
  | _ => none }
def fnExactFlashWriteRow : OpenClaim := { program := "ytoedphbikgoapaa", sum := "81a165af61023fe9bf6d01b209fe51987ce8b46df3e63b740752dddaaba90ea3", func := "loop.example/buttery/laws.FnExactFlashWrite", spec := "fnExactFlashWrite", apart := false }
def FnExactFlashWriteSaid : Prop := fnExactFlashWriteRow.holds Try.pinned (OpenSpec.ofChange fnExactFlashWriteSpec)

/-- ITS FALSE NEIGHBOUR: 'it returns false'. Refute it at one input. -/
def fnExactFlashWriteWrong : ChangeSpec := { name := "fnExactFlashWrite", fn := fun _ => fun
  | [d1, d2, d3, d4] => { results := [.lit (.bool false)], args := [d1, d2, d3, d4] }
  | _ => none }
def FnExactFlashWriteWrongFalsely : Prop := fnExactFlashWriteRow.holds Try.pinned (OpenSpec.ofChange fnExactFlashWriteWrong)

/-- 'laws.FnExactStoreDirty': WHATEVER THE INPUT: true; the input reads as it did. -/
def fnExactStoreDirtySpec : ChangeSpec := { name := "fnExactStoreDirty", fn := fun _ => fun
  | [d] => { results := [.lit (.bool true)], args := [d] }
  | _ => none }
def fnExactStoreDirtyRow : OpenClaim := { program := "ytoedphbikgoapaa", sum := "81a165af61023fe9bf6d01b209fe51987ce8b46df3e63b740752dddaaba90ea3", func := "loop.example/buttery/laws.FnExactStoreDirty", spec := "fnExactStoreDirty", unfollowed := true, recurses := true, apart := false }
def FnExactStoreDirtySaid : Prop := fnExactStoreDirtyRow.holds Try.pinned (OpenSpec.ofChange fnExactStoreDirtySpec)

/-- ITS FALSE NEIGHBOUR: 'it returns false'. Refute it at one input. -/
def fnExactStoreDirtyWrong : ChangeSpec := { name := "fnExactStoreDirty", fn := fun _ => fun
  | [d] => { results := [.lit (.bool false)], args := [d] }
  | _ => none }
def FnExactStoreDirtyWrongFalsely : Prop := fnExactStoreDirtyRow.holds Try.pinned (OpenSpec.ofChange fnExactStoreDirtyWrong)

/-- 'laws.FnExactStoreAll': WHATEVER THE INPUT: true; the input reads as it did. -/
def fnExactStoreAllSpec : ChangeSpec := { name := "fnExactStoreAll", fn := fun _ => fun
  | [d] => { results := [.lit (.bool true)], args := [d] }
  | _ => none }
def fnExactStoreAllRow : OpenClaim := { program := "ytoedphbikgoapaa", sum := "81a165af61023fe9bf6d01b209fe51987ce8b46df3e63b740752dddaaba90ea3", func := "loop.example/buttery/laws.FnExactStoreAll", spec := "fnExactStoreAll", unfollowed := true, recurses := true, apart := false }
def FnExactStoreAllSaid : Prop := fnExactStoreAllRow.holds Try.pinned (OpenSpec.ofChange fnExactStoreAllSpec)

/-- ITS FALSE NEIGHBOUR: 'it returns false'. Refute it at one input. -/
def fnExactStoreAllWrong : ChangeSpec := { name := "fnExactStoreAll", fn := fun _ => fun
  | [d] => { results := [.lit (.bool false)], args := [d] }
  | _ => none }
def FnExactStoreAllWrongFalsely : Prop := fnExactStoreAllRow.holds Try.pinned (OpenSpec.ofChange fnExactStoreAllWrong)

/-- 'laws.FnExactStepsPut': WHATEVER THE INPUT: true; the input reads as it did. -/
def fnExactStepsPutSpec : ChangeSpec := { name := "fnExactStepsPut", fn := fun _ => fun
  | [d1, d2, d3] => { results := [.lit (.bool true)], args := [d1, d2, d3] }
  | _ => none }
def fnExactStepsPutRow : OpenClaim := { program := "ytoedphbikgoapaa", sum := "81a165af61023fe9bf6d01b209fe51987ce8b46df3e63b740752dddaaba90ea3", func := "loop.example/buttery/laws.FnExactStepsPut", spec := "fnExactStepsPut", unfollowed := true, recurses := true, apart := false }
def FnExactStepsPutSaid : Prop := fnExactStepsPutRow.holds Try.pinned (OpenSpec.ofChange fnExactStepsPutSpec)

/-- ITS FALSE NEIGHBOUR: 'it returns false'. Refute it at one input. -/
def fnExactStepsPutWrong : ChangeSpec := { name := "fnExactStepsPut", fn := fun _ => fun
  | [d1, d2, d3] => { results := [.lit (.bool false)], args := [d1, d2, d3] }
  | _ => none }
def FnExactStepsPutWrongFalsely : Prop := fnExactStepsPutRow.holds Try.pinned (OpenSpec.ofChange fnExactStepsPutWrong)

/-- 'laws.FnExactStepsFill': WHATEVER THE INPUT: true; the input reads as it did. -/
def fnExactStepsFillSpec : ChangeSpec := { name := "fnExactStepsFill", fn := fun _ => fun
  | [d1, d2] => { results := [.lit (.bool true)], args := [d1, d2] }
  | _ => none }
def fnExactStepsFillRow : OpenClaim := { program := "ytoedphbikgoapaa", sum := "81a165af61023fe9bf6d01b209fe51987ce8b46df3e63b740752dddaaba90ea3", func := "loop.example/buttery/laws.FnExactStepsFill", spec := "fnExactStepsFill", unfollowed := true, recurses := true, apart := false }
def FnExactStepsFillSaid : Prop := fnExactStepsFillRow.holds Try.pinned (OpenSpec.ofChange fnExactStepsFillSpec)

/-- ITS FALSE NEIGHBOUR: 'it returns false'. Refute it at one input. -/
def fnExactStepsFillWrong : ChangeSpec := { name := "fnExactStepsFill", fn := fun _ => fun
  | [d1, d2] => { results := [.lit (.bool false)], args := [d1, d2] }
  | _ => none }
def FnExactStepsFillWrongFalsely : Prop := fnExactStepsFillRow.holds Try.pinned (OpenSpec.ofChange fnExactStepsFillWrong)

/-- 'laws.FnExactStepsFlush': WHATEVER THE INPUT: true; the input reads as it did. -/
def fnExactStepsFlushSpec : ChangeSpec := { name := "fnExactStepsFlush", fn := fun _ => fun
  | [d1, d2] => { results := [.lit (.bool true)], args := [d1, d2] }
  | _ => none }
def fnExactStepsFlushRow : OpenClaim := { program := "ytoedphbikgoapaa", sum := "81a165af61023fe9bf6d01b209fe51987ce8b46df3e63b740752dddaaba90ea3", func := "loop.example/buttery/laws.FnExactStepsFlush", spec := "fnExactStepsFlush", unfollowed := true, recurses := true, apart := false }
def FnExactStepsFlushSaid : Prop := fnExactStepsFlushRow.holds Try.pinned (OpenSpec.ofChange fnExactStepsFlushSpec)

/-- ITS FALSE NEIGHBOUR: 'it returns false'. Refute it at one input. -/
def fnExactStepsFlushWrong : ChangeSpec := { name := "fnExactStepsFlush", fn := fun _ => fun
  | [d1, d2] => { results := [.lit (.bool false)], args := [d1, d2] }
  | _ => none }
def FnExactStepsFlushWrongFalsely : Prop := fnExactStepsFlushRow.holds Try.pinned (OpenSpec.ofChange fnExactStepsFlushWrong)

/- THE SECOND FORM. 'bulk': how many values and letters a reading holds, each counted each time it is reached (what is shared counts as often as it is met; a slice's spare places count too). A statement '..UptoSaid' is the law's where the arguments, and the package variables that the reading takes, are together of bulk at most 1048576: NARROWER than '..Said'. Prove '..Said' where nothing that the law and all that it calls make is longer than what came in: it says more and counts as full. Else prove '..UptoSaid'. A law counts once. -/
mutual
def uptoBulk {H : Type} : DataW H → Nat
  | .lit (.string bytes) => bytes.length + 1
  | .lit _ => 1
  | .nil => 1
  | .ptr d => uptoBulk d + 1
  | .slice elems spare => uptoBulkAll elems + uptoBulkAll spare + 1
  | .agg parts => uptoBulkAll parts + 1
  | .iface _ d => uptoBulk d + 1
  | .map entries => uptoBulkEntries entries + 1
  | .held _ => 1
def uptoBulkAll {H : Type} : List (DataW H) → Nat
  | [] => 0
  | d :: r => uptoBulk d + uptoBulkAll r
def uptoBulkEntries {H : Type} : List (Lit × DataW H) → Nat
  | [] => 0
  | x :: r => uptoBulkEntry x + uptoBulkEntries r
def uptoBulkEntry {H : Type} : Lit × DataW H → Nat
  | (.string bytes, d) => bytes.length + uptoBulk d + 1
  | (_, d) => uptoBulk d + 1
 end
def uptoSmall : (H : Type) → List (DataW H) → Bool := fun _ ds => decide (uptoBulkAll ds ≤ 1048576)
def OpenSpec.upto (s : _root_.Go.ChangeSpec) : _root_.Go.OpenSpec := { _root_.Go.OpenSpec.ofChange s with cond := some uptoSmall }

/-- 'laws.FnExactFlashWrite', WHERE WHAT IT READS IS OF BULK AT MOST 1048576: true; the input reads as it did. -/
def fnExactFlashWriteUptoRow : OpenClaim := { program := "ytoedphbikgoapaa", sum := "81a165af61023fe9bf6d01b209fe51987ce8b46df3e63b740752dddaaba90ea3", func := "loop.example/buttery/laws.FnExactFlashWrite", spec := "fnExactFlashWrite", apart := false, narrowed := true }
def FnExactFlashWriteUptoSaid : Prop := fnExactFlashWriteUptoRow.holds Try.pinned (OpenSpec.upto fnExactFlashWriteSpec)

/-- 'laws.FnExactStoreDirty', WHERE WHAT IT READS IS OF BULK AT MOST 1048576: true; the input reads as it did. -/
def fnExactStoreDirtyUptoRow : OpenClaim := { program := "ytoedphbikgoapaa", sum := "81a165af61023fe9bf6d01b209fe51987ce8b46df3e63b740752dddaaba90ea3", func := "loop.example/buttery/laws.FnExactStoreDirty", spec := "fnExactStoreDirty", unfollowed := true, recurses := true, apart := false, narrowed := true }
def FnExactStoreDirtyUptoSaid : Prop := fnExactStoreDirtyUptoRow.holds Try.pinned (OpenSpec.upto fnExactStoreDirtySpec)

/-- 'laws.FnExactStoreAll', WHERE WHAT IT READS IS OF BULK AT MOST 1048576: true; the input reads as it did. -/
def fnExactStoreAllUptoRow : OpenClaim := { program := "ytoedphbikgoapaa", sum := "81a165af61023fe9bf6d01b209fe51987ce8b46df3e63b740752dddaaba90ea3", func := "loop.example/buttery/laws.FnExactStoreAll", spec := "fnExactStoreAll", unfollowed := true, recurses := true, apart := false, narrowed := true }
def FnExactStoreAllUptoSaid : Prop := fnExactStoreAllUptoRow.holds Try.pinned (OpenSpec.upto fnExactStoreAllSpec)

/-- 'laws.FnExactStepsPut', WHERE WHAT IT READS IS OF BULK AT MOST 1048576: true; the input reads as it did. -/
def fnExactStepsPutUptoRow : OpenClaim := { program := "ytoedphbikgoapaa", sum := "81a165af61023fe9bf6d01b209fe51987ce8b46df3e63b740752dddaaba90ea3", func := "loop.example/buttery/laws.FnExactStepsPut", spec := "fnExactStepsPut", unfollowed := true, recurses := true, apart := false, narrowed := true }
def FnExactStepsPutUptoSaid : Prop := fnExactStepsPutUptoRow.holds Try.pinned (OpenSpec.upto fnExactStepsPutSpec)

/-- 'laws.FnExactStepsFill', WHERE WHAT IT READS IS OF BULK AT MOST 1048576: true; the input reads as it did. -/
def fnExactStepsFillUptoRow : OpenClaim := { program := "ytoedphbikgoapaa", sum := "81a165af61023fe9bf6d01b209fe51987ce8b46df3e63b740752dddaaba90ea3", func := "loop.example/buttery/laws.FnExactStepsFill", spec := "fnExactStepsFill", unfollowed := true, recurses := true, apart := false, narrowed := true }
def FnExactStepsFillUptoSaid : Prop := fnExactStepsFillUptoRow.holds Try.pinned (OpenSpec.upto fnExactStepsFillSpec)

/-- 'laws.FnExactStepsFlush', WHERE WHAT IT READS IS OF BULK AT MOST 1048576: true; the input reads as it did. -/
def fnExactStepsFlushUptoRow : OpenClaim := { program := "ytoedphbikgoapaa", sum := "81a165af61023fe9bf6d01b209fe51987ce8b46df3e63b740752dddaaba90ea3", func := "loop.example/buttery/laws.FnExactStepsFlush", spec := "fnExactStepsFlush", unfollowed := true, recurses := true, apart := false, narrowed := true }
def FnExactStepsFlushUptoSaid : Prop := fnExactStepsFlushUptoRow.holds Try.pinned (OpenSpec.upto fnExactStepsFlushSpec)

end Rows
end Go.Proofs.Ytoedphbikgoapaa
