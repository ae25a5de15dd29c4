/-
  No cell of these rows narrows 'for every input' (looked for: loops, veiled, ifaces, maps, wideKeys, modest, calm, conditions, laid).
  DERIVED. THE GIVEN ROWS OF THIS SEAT. 19 by the template 'for every input the law returns true; each argument reads behind the call as it read before'; 0 by the template 'total and deterministic' (their statements: YtdjdbfcfopgdcaaTotals.lean).
  GIVEN WITH THE SEED: the statements are not yours to turn. If you find one false, say at which input.
  Laid BY PROGRAM, IN A SANDBOX (cutbox-rows.mjs): the forced cells as the released guide's own fill.sh prints them over the translation 39099a1bcce3d692… (all of the seat's roots in one cut). By AI agents, Wed Nov 11 2026. No macro, syntax, notation, axiom, sorry.
-/
import Derived.Test.YtdjdbfcfopgdcaaChecked
import GoSem.Claim
import GoSem.ClaimJoined
import GoSem.ClaimMapViews
import Derived.JoinedTies
import Derived.KernelRfl
namespace Go.Proofs.Ytdjdbfcfopgdcaa
/- THE CELL 'sum', in the pinned program and in every row, IS THE sha256 OF THE DUMP (.gsa) THAT YtdjdbfcfopgdcaaProg.lean LOADS. Nothing in Lean hashes anything: it is a label: what it is worth is what the hold of that sum in a sandbox is worth. -/
noncomputable def Try.pinned : Pinned := { name := "ytdjdbfcfopgdcaa", sum := "39099a1bcce3d692f5072ea1af7fed63f5013dbd9b32820dd443990e0633f419", checked := Try.checked }
namespace Rows
def none {H : Type} : Left H := { results := [], args := [] }

/-- 'laws.FnExactConstants': WHATEVER THE INPUT: true; the input reads as it did. -/
def fnExactConstantsSpec : ChangeSpec := { name := "fnExactConstants", fn := fun _ => fun
  | [] => { results := [.lit (.bool true)], args := [] }
  | _ => none }
def fnExactConstantsRow : OpenClaim := { program := "ytdjdbfcfopgdcaa", sum := "39099a1bcce3d692f5072ea1af7fed63f5013dbd9b32820dd443990e0633f419", func := "loop.example/buttery/laws.FnExactConstants", spec := "fnExactConstants", apart := false }
def FnExactConstantsSaid : Prop := fnExactConstantsRow.holds Try.pinned (OpenSpec.ofChange fnExactConstantsSpec)

/-- ITS FALSE NEIGHBOUR: 'it returns false'. Refute it at one input. -/
def fnExactConstantsWrong : ChangeSpec := { name := "fnExactConstants", fn := fun _ => fun
  | [] => { results := [.lit (.bool false)], args := [] }
  | _ => none }
def FnExactConstantsWrongFalsely : Prop := fnExactConstantsRow.holds Try.pinned (OpenSpec.ofChange fnExactConstantsWrong)

/-- 'laws.FnExactRecOk': WHATEVER THE INPUT: true; the input reads as it did. -/
def fnExactRecOkSpec : ChangeSpec := { name := "fnExactRecOk", fn := fun _ => fun
  | [d] => { results := [.lit (.bool true)], args := [d] }
  | _ => none }
def fnExactRecOkRow : OpenClaim := { program := "ytdjdbfcfopgdcaa", sum := "39099a1bcce3d692f5072ea1af7fed63f5013dbd9b32820dd443990e0633f419", func := "loop.example/buttery/laws.FnExactRecOk", spec := "fnExactRecOk", apart := false }
def FnExactRecOkSaid : Prop := fnExactRecOkRow.holds Try.pinned (OpenSpec.ofChange fnExactRecOkSpec)

/-- ITS FALSE NEIGHBOUR: 'it returns false'. Refute it at one input. -/
def fnExactRecOkWrong : ChangeSpec := { name := "fnExactRecOk", fn := fun _ => fun
  | [d] => { results := [.lit (.bool false)], args := [d] }
  | _ => none }
def FnExactRecOkWrongFalsely : Prop := fnExactRecOkRow.holds Try.pinned (OpenSpec.ofChange fnExactRecOkWrong)

/-- 'laws.FnRecAny': WHATEVER THE INPUT: true; the input reads as it did. -/
def fnRecAnySpec : ChangeSpec := { name := "fnRecAny", fn := fun _ => fun
  | [d1, d2] => { results := [.lit (.bool true)], args := [d1, d2] }
  | _ => none }
def fnRecAnyRow : OpenClaim := { program := "ytdjdbfcfopgdcaa", sum := "39099a1bcce3d692f5072ea1af7fed63f5013dbd9b32820dd443990e0633f419", func := "loop.example/buttery/laws.FnRecAny", spec := "fnRecAny", apart := false }
def FnRecAnySaid : Prop := fnRecAnyRow.holds Try.pinned (OpenSpec.ofChange fnRecAnySpec)

/-- ITS FALSE NEIGHBOUR: 'it returns false'. Refute it at one input. -/
def fnRecAnyWrong : ChangeSpec := { name := "fnRecAny", fn := fun _ => fun
  | [d1, d2] => { results := [.lit (.bool false)], args := [d1, d2] }
  | _ => none }
def FnRecAnyWrongFalsely : Prop := fnRecAnyRow.holds Try.pinned (OpenSpec.ofChange fnRecAnyWrong)

/-- 'laws.FnExactFlashOk': WHATEVER THE INPUT: true; the input reads as it did. -/
def fnExactFlashOkSpec : ChangeSpec := { name := "fnExactFlashOk", fn := fun _ => fun
  | [d] => { results := [.lit (.bool true)], args := [d] }
  | _ => none }
def fnExactFlashOkRow : OpenClaim := { program := "ytdjdbfcfopgdcaa", sum := "39099a1bcce3d692f5072ea1af7fed63f5013dbd9b32820dd443990e0633f419", func := "loop.example/buttery/laws.FnExactFlashOk", spec := "fnExactFlashOk", apart := false }
def FnExactFlashOkSaid : Prop := fnExactFlashOkRow.holds Try.pinned (OpenSpec.ofChange fnExactFlashOkSpec)

/-- ITS FALSE NEIGHBOUR: 'it returns false'. Refute it at one input. -/
def fnExactFlashOkWrong : ChangeSpec := { name := "fnExactFlashOk", fn := fun _ => fun
  | [d] => { results := [.lit (.bool false)], args := [d] }
  | _ => none }
def FnExactFlashOkWrongFalsely : Prop := fnExactFlashOkRow.holds Try.pinned (OpenSpec.ofChange fnExactFlashOkWrong)

/-- 'laws.FnExactFlashClean': WHATEVER THE INPUT: true; the input reads as it did. -/
def fnExactFlashCleanSpec : ChangeSpec := { name := "fnExactFlashClean", fn := fun _ => fun
  | [d1, d2] => { results := [.lit (.bool true)], args := [d1, d2] }
  | _ => none }
def fnExactFlashCleanRow : OpenClaim := { program := "ytdjdbfcfopgdcaa", sum := "39099a1bcce3d692f5072ea1af7fed63f5013dbd9b32820dd443990e0633f419", func := "loop.example/buttery/laws.FnExactFlashClean", spec := "fnExactFlashClean", apart := false }
def FnExactFlashCleanSaid : Prop := fnExactFlashCleanRow.holds Try.pinned (OpenSpec.ofChange fnExactFlashCleanSpec)

/-- ITS FALSE NEIGHBOUR: 'it returns false'. Refute it at one input. -/
def fnExactFlashCleanWrong : ChangeSpec := { name := "fnExactFlashClean", fn := fun _ => fun
  | [d1, d2] => { results := [.lit (.bool false)], args := [d1, d2] }
  | _ => none }
def FnExactFlashCleanWrongFalsely : Prop := fnExactFlashCleanRow.holds Try.pinned (OpenSpec.ofChange fnExactFlashCleanWrong)

/-- 'laws.FnExactFindLast': WHATEVER THE INPUT: true; the input reads as it did. -/
def fnExactFindLastSpec : ChangeSpec := { name := "fnExactFindLast", fn := fun _ => fun
  | [d1, d2] => { results := [.lit (.bool true)], args := [d1, d2] }
  | _ => none }
def fnExactFindLastRow : OpenClaim := { program := "ytdjdbfcfopgdcaa", sum := "39099a1bcce3d692f5072ea1af7fed63f5013dbd9b32820dd443990e0633f419", func := "loop.example/buttery/laws.FnExactFindLast", spec := "fnExactFindLast", unfollowed := true, recurses := true, apart := false }
def FnExactFindLastSaid : Prop := fnExactFindLastRow.holds Try.pinned (OpenSpec.ofChange fnExactFindLastSpec)

/-- ITS FALSE NEIGHBOUR: 'it returns false'. Refute it at one input. -/
def fnExactFindLastWrong : ChangeSpec := { name := "fnExactFindLast", fn := fun _ => fun
  | [d1, d2] => { results := [.lit (.bool false)], args := [d1, d2] }
  | _ => none }
def FnExactFindLastWrongFalsely : Prop := fnExactFindLastRow.holds Try.pinned (OpenSpec.ofChange fnExactFindLastWrong)

/-- 'laws.FnExactFindNext': WHATEVER THE INPUT: true; the input reads as it did. -/
def fnExactFindNextSpec : ChangeSpec := { name := "fnExactFindNext", fn := fun _ => fun
  | [d] => { results := [.lit (.bool true)], args := [d] }
  | _ => none }
def fnExactFindNextRow : OpenClaim := { program := "ytdjdbfcfopgdcaa", sum := "39099a1bcce3d692f5072ea1af7fed63f5013dbd9b32820dd443990e0633f419", func := "loop.example/buttery/laws.FnExactFindNext", spec := "fnExactFindNext", unfollowed := true, recurses := true, apart := false }
def FnExactFindNextSaid : Prop := fnExactFindNextRow.holds Try.pinned (OpenSpec.ofChange fnExactFindNextSpec)

/-- ITS FALSE NEIGHBOUR: 'it returns false'. Refute it at one input. -/
def fnExactFindNextWrong : ChangeSpec := { name := "fnExactFindNext", fn := fun _ => fun
  | [d] => { results := [.lit (.bool false)], args := [d] }
  | _ => none }
def FnExactFindNextWrongFalsely : Prop := fnExactFindNextRow.holds Try.pinned (OpenSpec.ofChange fnExactFindNextWrong)

/-- 'laws.FnExactFindOpen': WHATEVER THE INPUT: true; the input reads as it did. -/
def fnExactFindOpenSpec : ChangeSpec := { name := "fnExactFindOpen", fn := fun _ => fun
  | [d] => { results := [.lit (.bool true)], args := [d] }
  | _ => none }
def fnExactFindOpenRow : OpenClaim := { program := "ytdjdbfcfopgdcaa", sum := "39099a1bcce3d692f5072ea1af7fed63f5013dbd9b32820dd443990e0633f419", func := "loop.example/buttery/laws.FnExactFindOpen", spec := "fnExactFindOpen", apart := false }
def FnExactFindOpenSaid : Prop := fnExactFindOpenRow.holds Try.pinned (OpenSpec.ofChange fnExactFindOpenSpec)

/-- ITS FALSE NEIGHBOUR: 'it returns false'. Refute it at one input. -/
def fnExactFindOpenWrong : ChangeSpec := { name := "fnExactFindOpen", fn := fun _ => fun
  | [d] => { results := [.lit (.bool false)], args := [d] }
  | _ => none }
def FnExactFindOpenWrongFalsely : Prop := fnExactFindOpenRow.holds Try.pinned (OpenSpec.ofChange fnExactFindOpenWrong)

/-- 'laws.FnExactFindOld': WHATEVER THE INPUT: true; the input reads as it did. -/
def fnExactFindOldSpec : ChangeSpec := { name := "fnExactFindOld", fn := fun _ => fun
  | [d] => { results := [.lit (.bool true)], args := [d] }
  | _ => none }
def fnExactFindOldRow : OpenClaim := { program := "ytdjdbfcfopgdcaa", sum := "39099a1bcce3d692f5072ea1af7fed63f5013dbd9b32820dd443990e0633f419", func := "loop.example/buttery/laws.FnExactFindOld", spec := "fnExactFindOld", unfollowed := true, recurses := true, apart := false }
def FnExactFindOldSaid : Prop := fnExactFindOldRow.holds Try.pinned (OpenSpec.ofChange fnExactFindOldSpec)

/-- ITS FALSE NEIGHBOUR: 'it returns false'. Refute it at one input. -/
def fnExactFindOldWrong : ChangeSpec := { name := "fnExactFindOld", fn := fun _ => fun
  | [d] => { results := [.lit (.bool false)], args := [d] }
  | _ => none }
def FnExactFindOldWrongFalsely : Prop := fnExactFindOldRow.holds Try.pinned (OpenSpec.ofChange fnExactFindOldWrong)

/-- 'laws.FnExactFindLive': WHATEVER THE INPUT: true; the input reads as it did. -/
def fnExactFindLiveSpec : ChangeSpec := { name := "fnExactFindLive", fn := fun _ => fun
  | [d1, d2, d3] => { results := [.lit (.bool true)], args := [d1, d2, d3] }
  | _ => none }
def fnExactFindLiveRow : OpenClaim := { program := "ytdjdbfcfopgdcaa", sum := "39099a1bcce3d692f5072ea1af7fed63f5013dbd9b32820dd443990e0633f419", func := "loop.example/buttery/laws.FnExactFindLive", spec := "fnExactFindLive", unfollowed := true, recurses := true, apart := false }
def FnExactFindLiveSaid : Prop := fnExactFindLiveRow.holds Try.pinned (OpenSpec.ofChange fnExactFindLiveSpec)

/-- ITS FALSE NEIGHBOUR: 'it returns false'. Refute it at one input. -/
def fnExactFindLiveWrong : ChangeSpec := { name := "fnExactFindLive", fn := fun _ => fun
  | [d1, d2, d3] => { results := [.lit (.bool false)], args := [d1, d2, d3] }
  | _ => none }
def FnExactFindLiveWrongFalsely : Prop := fnExactFindLiveRow.holds Try.pinned (OpenSpec.ofChange fnExactFindLiveWrong)

/-- 'laws.FnExactFindOrder': WHATEVER THE INPUT: true; the input reads as it did. -/
def fnExactFindOrderSpec : ChangeSpec := { name := "fnExactFindOrder", fn := fun _ => fun
  | [d] => { results := [.lit (.bool true)], args := [d] }
  | _ => none }
def fnExactFindOrderRow : OpenClaim := { program := "ytdjdbfcfopgdcaa", sum := "39099a1bcce3d692f5072ea1af7fed63f5013dbd9b32820dd443990e0633f419", func := "loop.example/buttery/laws.FnExactFindOrder", spec := "fnExactFindOrder", unfollowed := true, recurses := true, apart := false }
def FnExactFindOrderSaid : Prop := fnExactFindOrderRow.holds Try.pinned (OpenSpec.ofChange fnExactFindOrderSpec)

/-- ITS FALSE NEIGHBOUR: 'it returns false'. Refute it at one input. -/
def fnExactFindOrderWrong : ChangeSpec := { name := "fnExactFindOrder", fn := fun _ => fun
  | [d] => { results := [.lit (.bool false)], args := [d] }
  | _ => none }
def FnExactFindOrderWrongFalsely : Prop := fnExactFindOrderRow.holds Try.pinned (OpenSpec.ofChange fnExactFindOrderWrong)

/-- 'laws.FnExactFlashWrite': WHATEVER THE INPUT: true; the input reads as it did. -/
def fnExactFlashWriteSpec : ChangeSpec := { name := "fnExactFlashWrite", fn := fun _ => fun
  | [d1, d2, d3, d4] => { results := [.lit (.bool true)], args := [d1, d2, d3, d4] }
  | _ => none }
def fnExactFlashWriteRow : OpenClaim := { program := "ytdjdbfcfopgdcaa", sum := "39099a1bcce3d692f5072ea1af7fed63f5013dbd9b32820dd443990e0633f419", func := "loop.example/buttery/laws.FnExactFlashWrite", spec := "fnExactFlashWrite", apart := false }
def FnExactFlashWriteSaid : Prop := fnExactFlashWriteRow.holds Try.pinned (OpenSpec.ofChange fnExactFlashWriteSpec)

/-- ITS FALSE NEIGHBOUR: 'it returns false'. Refute it at one input. -/
def fnExactFlashWriteWrong : ChangeSpec := { name := "fnExactFlashWrite", fn := fun _ => fun
  | [d1, d2, d3, d4] => { results := [.lit (.bool false)], args := [d1, d2, d3, d4] }
  | _ => none }
def FnExactFlashWriteWrongFalsely : Prop := fnExactFlashWriteRow.holds Try.pinned (OpenSpec.ofChange fnExactFlashWriteWrong)

/-- 'laws.FnExactStoreOk': WHATEVER THE INPUT: true; the input reads as it did. -/
def fnExactStoreOkSpec : ChangeSpec := { name := "fnExactStoreOk", fn := fun _ => fun
  | [d] => { results := [.lit (.bool true)], args := [d] }
  | _ => none }
def fnExactStoreOkRow : OpenClaim := { program := "ytdjdbfcfopgdcaa", sum := "39099a1bcce3d692f5072ea1af7fed63f5013dbd9b32820dd443990e0633f419", func := "loop.example/buttery/laws.FnExactStoreOk", spec := "fnExactStoreOk", unfollowed := true, recurses := true, apart := false }
def FnExactStoreOkSaid : Prop := fnExactStoreOkRow.holds Try.pinned (OpenSpec.ofChange fnExactStoreOkSpec)

/-- ITS FALSE NEIGHBOUR: 'it returns false'. Refute it at one input. -/
def fnExactStoreOkWrong : ChangeSpec := { name := "fnExactStoreOk", fn := fun _ => fun
  | [d] => { results := [.lit (.bool false)], args := [d] }
  | _ => none }
def FnExactStoreOkWrongFalsely : Prop := fnExactStoreOkRow.holds Try.pinned (OpenSpec.ofChange fnExactStoreOkWrong)

/-- 'laws.FnExactStoreRead': WHATEVER THE INPUT: true; the input reads as it did. -/
def fnExactStoreReadSpec : ChangeSpec := { name := "fnExactStoreRead", fn := fun _ => fun
  | [d1, d2] => { results := [.lit (.bool true)], args := [d1, d2] }
  | _ => none }
def fnExactStoreReadRow : OpenClaim := { program := "ytdjdbfcfopgdcaa", sum := "39099a1bcce3d692f5072ea1af7fed63f5013dbd9b32820dd443990e0633f419", func := "loop.example/buttery/laws.FnExactStoreRead", spec := "fnExactStoreRead", unfollowed := true, recurses := true, apart := false }
def FnExactStoreReadSaid : Prop := fnExactStoreReadRow.holds Try.pinned (OpenSpec.ofChange fnExactStoreReadSpec)

/-- ITS FALSE NEIGHBOUR: 'it returns false'. Refute it at one input. -/
def fnExactStoreReadWrong : ChangeSpec := { name := "fnExactStoreRead", fn := fun _ => fun
  | [d1, d2] => { results := [.lit (.bool false)], args := [d1, d2] }
  | _ => none }
def FnExactStoreReadWrongFalsely : Prop := fnExactStoreReadRow.holds Try.pinned (OpenSpec.ofChange fnExactStoreReadWrong)

/-- 'laws.FnExactStoreDirty': WHATEVER THE INPUT: true; the input reads as it did. -/
def fnExactStoreDirtySpec : ChangeSpec := { name := "fnExactStoreDirty", fn := fun _ => fun
  | [d] => { results := [.lit (.bool true)], args := [d] }
  | _ => none }
def fnExactStoreDirtyRow : OpenClaim := { program := "ytdjdbfcfopgdcaa", sum := "39099a1bcce3d692f5072ea1af7fed63f5013dbd9b32820dd443990e0633f419", func := "loop.example/buttery/laws.FnExactStoreDirty", spec := "fnExactStoreDirty", unfollowed := true, recurses := true, apart := false }
def FnExactStoreDirtySaid : Prop := fnExactStoreDirtyRow.holds Try.pinned (OpenSpec.ofChange fnExactStoreDirtySpec)

/-- ITS FALSE NEIGHBOUR: 'it returns false'. Refute it at one input. -/
def fnExactStoreDirtyWrong : ChangeSpec := { name := "fnExactStoreDirty", fn := fun _ => fun
  | [d] => { results := [.lit (.bool false)], args := [d] }
  | _ => none }
def FnExactStoreDirtyWrongFalsely : Prop := fnExactStoreDirtyRow.holds Try.pinned (OpenSpec.ofChange fnExactStoreDirtyWrong)

/-- 'laws.FnExactStoreAll': WHATEVER THE INPUT: true; the input reads as it did. -/
def fnExactStoreAllSpec : ChangeSpec := { name := "fnExactStoreAll", fn := fun _ => fun
  | [d] => { results := [.lit (.bool true)], args := [d] }
  | _ => none }
def fnExactStoreAllRow : OpenClaim := { program := "ytdjdbfcfopgdcaa", sum := "39099a1bcce3d692f5072ea1af7fed63f5013dbd9b32820dd443990e0633f419", func := "loop.example/buttery/laws.FnExactStoreAll", spec := "fnExactStoreAll", unfollowed := true, recurses := true, apart := false }
def FnExactStoreAllSaid : Prop := fnExactStoreAllRow.holds Try.pinned (OpenSpec.ofChange fnExactStoreAllSpec)

/-- ITS FALSE NEIGHBOUR: 'it returns false'. Refute it at one input. -/
def fnExactStoreAllWrong : ChangeSpec := { name := "fnExactStoreAll", fn := fun _ => fun
  | [d] => { results := [.lit (.bool false)], args := [d] }
  | _ => none }
def FnExactStoreAllWrongFalsely : Prop := fnExactStoreAllRow.holds Try.pinned (OpenSpec.ofChange fnExactStoreAllWrong)

/-- 'laws.FnExactStepsPut': WHATEVER THE INPUT: true; the input reads as it did. -/
def fnExactStepsPutSpec : ChangeSpec := { name := "fnExactStepsPut", fn := fun _ => fun
  | [d1, d2, d3] => { results := [.lit (.bool true)], args := [d1, d2, d3] }
  | _ => none }
def fnExactStepsPutRow : OpenClaim := { program := "ytdjdbfcfopgdcaa", sum := "39099a1bcce3d692f5072ea1af7fed63f5013dbd9b32820dd443990e0633f419", func := "loop.example/buttery/laws.FnExactStepsPut", spec := "fnExactStepsPut", unfollowed := true, recurses := true, apart := false }
def FnExactStepsPutSaid : Prop := fnExactStepsPutRow.holds Try.pinned (OpenSpec.ofChange fnExactStepsPutSpec)

/-- ITS FALSE NEIGHBOUR: 'it returns false'. Refute it at one input. -/
def fnExactStepsPutWrong : ChangeSpec := { name := "fnExactStepsPut", fn := fun _ => fun
  | [d1, d2, d3] => { results := [.lit (.bool false)], args := [d1, d2, d3] }
  | _ => none }
def FnExactStepsPutWrongFalsely : Prop := fnExactStepsPutRow.holds Try.pinned (OpenSpec.ofChange fnExactStepsPutWrong)

/-- 'laws.FnExactStepsFill': WHATEVER THE INPUT: true; the input reads as it did. -/
def fnExactStepsFillSpec : ChangeSpec := { name := "fnExactStepsFill", fn := fun _ => fun
  | [d1, d2] => { results := [.lit (.bool true)], args := [d1, d2] }
  | _ => none }
def fnExactStepsFillRow : OpenClaim := { program := "ytdjdbfcfopgdcaa", sum := "39099a1bcce3d692f5072ea1af7fed63f5013dbd9b32820dd443990e0633f419", func := "loop.example/buttery/laws.FnExactStepsFill", spec := "fnExactStepsFill", unfollowed := true, recurses := true, apart := false }
def FnExactStepsFillSaid : Prop := fnExactStepsFillRow.holds Try.pinned (OpenSpec.ofChange fnExactStepsFillSpec)

/-- ITS FALSE NEIGHBOUR: 'it returns false'. Refute it at one input. -/
def fnExactStepsFillWrong : ChangeSpec := { name := "fnExactStepsFill", fn := fun _ => fun
  | [d1, d2] => { results := [.lit (.bool false)], args := [d1, d2] }
  | _ => none }
def FnExactStepsFillWrongFalsely : Prop := fnExactStepsFillRow.holds Try.pinned (OpenSpec.ofChange fnExactStepsFillWrong)

/-- 'laws.FnExactStepsFlush': WHATEVER THE INPUT: true; the input reads as it did. -/
def fnExactStepsFlushSpec : ChangeSpec := { name := "fnExactStepsFlush", fn := fun _ => fun
  | [d1, d2] => { results := [.lit (.bool true)], args := [d1, d2] }
  | _ => none }
def fnExactStepsFlushRow : OpenClaim := { program := "ytdjdbfcfopgdcaa", sum := "39099a1bcce3d692f5072ea1af7fed63f5013dbd9b32820dd443990e0633f419", func := "loop.example/buttery/laws.FnExactStepsFlush", spec := "fnExactStepsFlush", unfollowed := true, recurses := true, apart := false }
def FnExactStepsFlushSaid : Prop := fnExactStepsFlushRow.holds Try.pinned (OpenSpec.ofChange fnExactStepsFlushSpec)

/-- ITS FALSE NEIGHBOUR: 'it returns false'. Refute it at one input. -/
def fnExactStepsFlushWrong : ChangeSpec := { name := "fnExactStepsFlush", fn := fun _ => fun
  | [d1, d2] => { results := [.lit (.bool false)], args := [d1, d2] }
  | _ => none }
def FnExactStepsFlushWrongFalsely : Prop := fnExactStepsFlushRow.holds Try.pinned (OpenSpec.ofChange fnExactStepsFlushWrong)

/- THE SECOND FORM. 'bulk': how many values and letters a reading holds, each counted each time it is reached (what is shared counts as often as it is met; a slice's spare places count too). A statement '..UptoSaid' is the law's where the arguments, and the package variables that the reading takes, are together of bulk at most 1048576: NARROWER than '..Said'. Prove '..Said' where nothing that the law and all that it calls make is longer than what came in: it says more and counts as full. Else prove '..UptoSaid'. A law counts once. -/
mutual
def uptoBulk {H : Type} : DataW H → Nat
  | .lit (.string bytes) => bytes.length + 1
  | .lit _ => 1
  | .nil => 1
  | .ptr d => uptoBulk d + 1
  | .slice elems spare => uptoBulkAll elems + uptoBulkAll spare + 1
  | .agg parts => uptoBulkAll parts + 1
  | .iface _ d => uptoBulk d + 1
  | .map entries => uptoBulkEntries entries + 1
  | .held _ => 1
def uptoBulkAll {H : Type} : List (DataW H) → Nat
  | [] => 0
  | d :: r => uptoBulk d + uptoBulkAll r
def uptoBulkEntries {H : Type} : List (Lit × DataW H) → Nat
  | [] => 0
  | x :: r => uptoBulkEntry x + uptoBulkEntries r
def uptoBulkEntry {H : Type} : Lit × DataW H → Nat
  | (.string bytes, d) => bytes.length + uptoBulk d + 1
  | (_, d) => uptoBulk d + 1
 end
def uptoSmall : (H : Type) → List (DataW H) → Bool := fun _ ds => decide (uptoBulkAll ds ≤ 1048576)
def OpenSpec.upto (s : _root_.Go.ChangeSpec) : _root_.Go.OpenSpec := { _root_.Go.OpenSpec.ofChange s with cond := some uptoSmall }

/-- 'laws.FnExactConstants', WHERE WHAT IT READS IS OF BULK AT MOST 1048576: true; the input reads as it did. -/
def fnExactConstantsUptoRow : OpenClaim := { program := "ytdjdbfcfopgdcaa", sum := "39099a1bcce3d692f5072ea1af7fed63f5013dbd9b32820dd443990e0633f419", func := "loop.example/buttery/laws.FnExactConstants", spec := "fnExactConstants", apart := false, narrowed := true }
def FnExactConstantsUptoSaid : Prop := fnExactConstantsUptoRow.holds Try.pinned (OpenSpec.upto fnExactConstantsSpec)

/-- 'laws.FnExactRecOk', WHERE WHAT IT READS IS OF BULK AT MOST 1048576: true; the input reads as it did. -/
def fnExactRecOkUptoRow : OpenClaim := { program := "ytdjdbfcfopgdcaa", sum := "39099a1bcce3d692f5072ea1af7fed63f5013dbd9b32820dd443990e0633f419", func := "loop.example/buttery/laws.FnExactRecOk", spec := "fnExactRecOk", apart := false, narrowed := true }
def FnExactRecOkUptoSaid : Prop := fnExactRecOkUptoRow.holds Try.pinned (OpenSpec.upto fnExactRecOkSpec)

/-- 'laws.FnRecAny', WHERE WHAT IT READS IS OF BULK AT MOST 1048576: true; the input reads as it did. -/
def fnRecAnyUptoRow : OpenClaim := { program := "ytdjdbfcfopgdcaa", sum := "39099a1bcce3d692f5072ea1af7fed63f5013dbd9b32820dd443990e0633f419", func := "loop.example/buttery/laws.FnRecAny", spec := "fnRecAny", apart := false, narrowed := true }
def FnRecAnyUptoSaid : Prop := fnRecAnyUptoRow.holds Try.pinned (OpenSpec.upto fnRecAnySpec)

/-- 'laws.FnExactFlashOk', WHERE WHAT IT READS IS OF BULK AT MOST 1048576: true; the input reads as it did. -/
def fnExactFlashOkUptoRow : OpenClaim := { program := "ytdjdbfcfopgdcaa", sum := "39099a1bcce3d692f5072ea1af7fed63f5013dbd9b32820dd443990e0633f419", func := "loop.example/buttery/laws.FnExactFlashOk", spec := "fnExactFlashOk", apart := false, narrowed := true }
def FnExactFlashOkUptoSaid : Prop := fnExactFlashOkUptoRow.holds Try.pinned (OpenSpec.upto fnExactFlashOkSpec)

/-- 'laws.FnExactFlashClean', WHERE WHAT IT READS IS OF BULK AT MOST 1048576: true; the input reads as it did. -/
def fnExactFlashCleanUptoRow : OpenClaim := { program := "ytdjdbfcfopgdcaa", sum := "39099a1bcce3d692f5072ea1af7fed63f5013dbd9b32820dd443990e0633f419", func := "loop.example/buttery/laws.FnExactFlashClean", spec := "fnExactFlashClean", apart := false, narrowed := true }
def FnExactFlashCleanUptoSaid : Prop := fnExactFlashCleanUptoRow.holds Try.pinned (OpenSpec.upto fnExactFlashCleanSpec)

/-- 'laws.FnExactFindLast', WHERE WHAT IT READS IS OF BULK AT MOST 1048576: true; the input reads as it did. -/
def fnExactFindLastUptoRow : OpenClaim := { program := "ytdjdbfcfopgdcaa", sum := "39099a1bcce3d692f5072ea1af7fed63f5013dbd9b32820dd443990e0633f419", func := "loop.example/buttery/laws.FnExactFindLast", spec := "fnExactFindLast", unfollowed := true, recurses := true, apart := false, narrowed := true }
def FnExactFindLastUptoSaid : Prop := fnExactFindLastUptoRow.holds Try.pinned (OpenSpec.upto fnExactFindLastSpec)

/-- 'laws.FnExactFindNext', WHERE WHAT IT READS IS OF BULK AT MOST 1048576: true; the input reads as it did. -/
def fnExactFindNextUptoRow : OpenClaim := { program := "ytdjdbfcfopgdcaa", sum := "39099a1bcce3d692f5072ea1af7fed63f5013dbd9b32820dd443990e0633f419", func := "loop.example/buttery/laws.FnExactFindNext", spec := "fnExactFindNext", unfollowed := true, recurses := true, apart := false, narrowed := true }
def FnExactFindNextUptoSaid : Prop := fnExactFindNextUptoRow.holds Try.pinned (OpenSpec.upto fnExactFindNextSpec)

/-- 'laws.FnExactFindOpen', WHERE WHAT IT READS IS OF BULK AT MOST 1048576: true; the input reads as it did. -/
def fnExactFindOpenUptoRow : OpenClaim := { program := "ytdjdbfcfopgdcaa", sum := "39099a1bcce3d692f5072ea1af7fed63f5013dbd9b32820dd443990e0633f419", func := "loop.example/buttery/laws.FnExactFindOpen", spec := "fnExactFindOpen", apart := false, narrowed := true }
def FnExactFindOpenUptoSaid : Prop := fnExactFindOpenUptoRow.holds Try.pinned (OpenSpec.upto fnExactFindOpenSpec)

/-- 'laws.FnExactFindOld', WHERE WHAT IT READS IS OF BULK AT MOST 1048576: true; the input reads as it did. -/
def fnExactFindOldUptoRow : OpenClaim := { program := "ytdjdbfcfopgdcaa", sum := "39099a1bcce3d692f5072ea1af7fed63f5013dbd9b32820dd443990e0633f419", func := "loop.example/buttery/laws.FnExactFindOld", spec := "fnExactFindOld", unfollowed := true, recurses := true, apart := false, narrowed := true }
def FnExactFindOldUptoSaid : Prop := fnExactFindOldUptoRow.holds Try.pinned (OpenSpec.upto fnExactFindOldSpec)

/-- 'laws.FnExactFindLive', WHERE WHAT IT READS IS OF BULK AT MOST 1048576: true; the input reads as it did. -/
def fnExactFindLiveUptoRow : OpenClaim := { program := "ytdjdbfcfopgdcaa", sum := "39099a1bcce3d692f5072ea1af7fed63f5013dbd9b32820dd443990e0633f419", func := "loop.example/buttery/laws.FnExactFindLive", spec := "fnExactFindLive", unfollowed := true, recurses := true, apart := false, narrowed := true }
def FnExactFindLiveUptoSaid : Prop := fnExactFindLiveUptoRow.holds Try.pinned (OpenSpec.upto fnExactFindLiveSpec)

/-- 'laws.FnExactFindOrder', WHERE WHAT IT READS IS OF BULK AT MOST 1048576: true; the input reads as it did. -/
def fnExactFindOrderUptoRow : OpenClaim := { program := "ytdjdbfcfopgdcaa", sum := "39099a1bcce3d692f5072ea1af7fed63f5013dbd9b32820dd443990e0633f419", func := "loop.example/buttery/laws.FnExactFindOrder", spec := "fnExactFindOrder", unfollowed := true, recurses := true, apart := false, narrowed := true }
def FnExactFindOrderUptoSaid : Prop := fnExactFindOrderUptoRow.holds Try.pinned (OpenSpec.upto fnExactFindOrderSpec)

/-- 'laws.FnExactFlashWrite', WHERE WHAT IT READS IS OF BULK AT MOST 1048576: true; the input reads as it did. -/
def fnExactFlashWriteUptoRow : OpenClaim := { program := "ytdjdbfcfopgdcaa", sum := "39099a1bcce3d692f5072ea1af7fed63f5013dbd9b32820dd443990e0633f419", func := "loop.example/buttery/laws.FnExactFlashWrite", spec := "fnExactFlashWrite", apart := false, narrowed := true }
def FnExactFlashWriteUptoSaid : Prop := fnExactFlashWriteUptoRow.holds Try.pinned (OpenSpec.upto fnExactFlashWriteSpec)

/-- 'laws.FnExactStoreOk', WHERE WHAT IT READS IS OF BULK AT MOST 1048576: true; the input reads as it did. -/
def fnExactStoreOkUptoRow : OpenClaim := { program := "ytdjdbfcfopgdcaa", sum := "39099a1bcce3d692f5072ea1af7fed63f5013dbd9b32820dd443990e0633f419", func := "loop.example/buttery/laws.FnExactStoreOk", spec := "fnExactStoreOk", unfollowed := true, recurses := true, apart := false, narrowed := true }
def FnExactStoreOkUptoSaid : Prop := fnExactStoreOkUptoRow.holds Try.pinned (OpenSpec.upto fnExactStoreOkSpec)

/-- 'laws.FnExactStoreRead', WHERE WHAT IT READS IS OF BULK AT MOST 1048576: true; the input reads as it did. -/
def fnExactStoreReadUptoRow : OpenClaim := { program := "ytdjdbfcfopgdcaa", sum := "39099a1bcce3d692f5072ea1af7fed63f5013dbd9b32820dd443990e0633f419", func := "loop.example/buttery/laws.FnExactStoreRead", spec := "fnExactStoreRead", unfollowed := true, recurses := true, apart := false, narrowed := true }
def FnExactStoreReadUptoSaid : Prop := fnExactStoreReadUptoRow.holds Try.pinned (OpenSpec.upto fnExactStoreReadSpec)

/-- 'laws.FnExactStoreDirty', WHERE WHAT IT READS IS OF BULK AT MOST 1048576: true; the input reads as it did. -/
def fnExactStoreDirtyUptoRow : OpenClaim := { program := "ytdjdbfcfopgdcaa", sum := "39099a1bcce3d692f5072ea1af7fed63f5013dbd9b32820dd443990e0633f419", func := "loop.example/buttery/laws.FnExactStoreDirty", spec := "fnExactStoreDirty", unfollowed := true, recurses := true, apart := false, narrowed := true }
def FnExactStoreDirtyUptoSaid : Prop := fnExactStoreDirtyUptoRow.holds Try.pinned (OpenSpec.upto fnExactStoreDirtySpec)

/-- 'laws.FnExactStoreAll', WHERE WHAT IT READS IS OF BULK AT MOST 1048576: true; the input reads as it did. -/
def fnExactStoreAllUptoRow : OpenClaim := { program := "ytdjdbfcfopgdcaa", sum := "39099a1bcce3d692f5072ea1af7fed63f5013dbd9b32820dd443990e0633f419", func := "loop.example/buttery/laws.FnExactStoreAll", spec := "fnExactStoreAll", unfollowed := true, recurses := true, apart := false, narrowed := true }
def FnExactStoreAllUptoSaid : Prop := fnExactStoreAllUptoRow.holds Try.pinned (OpenSpec.upto fnExactStoreAllSpec)

/-- 'laws.FnExactStepsPut', WHERE WHAT IT READS IS OF BULK AT MOST 1048576: true; the input reads as it did. -/
def fnExactStepsPutUptoRow : OpenClaim := { program := "ytdjdbfcfopgdcaa", sum := "39099a1bcce3d692f5072ea1af7fed63f5013dbd9b32820dd443990e0633f419", func := "loop.example/buttery/laws.FnExactStepsPut", spec := "fnExactStepsPut", unfollowed := true, recurses := true, apart := false, narrowed := true }
def FnExactStepsPutUptoSaid : Prop := fnExactStepsPutUptoRow.holds Try.pinned (OpenSpec.upto fnExactStepsPutSpec)

/-- 'laws.FnExactStepsFill', WHERE WHAT IT READS IS OF BULK AT MOST 1048576: true; the input reads as it did. -/
def fnExactStepsFillUptoRow : OpenClaim := { program := "ytdjdbfcfopgdcaa", sum := "39099a1bcce3d692f5072ea1af7fed63f5013dbd9b32820dd443990e0633f419", func := "loop.example/buttery/laws.FnExactStepsFill", spec := "fnExactStepsFill", unfollowed := true, recurses := true, apart := false, narrowed := true }
def FnExactStepsFillUptoSaid : Prop := fnExactStepsFillUptoRow.holds Try.pinned (OpenSpec.upto fnExactStepsFillSpec)

/-- 'laws.FnExactStepsFlush', WHERE WHAT IT READS IS OF BULK AT MOST 1048576: true; the input reads as it did. -/
def fnExactStepsFlushUptoRow : OpenClaim := { program := "ytdjdbfcfopgdcaa", sum := "39099a1bcce3d692f5072ea1af7fed63f5013dbd9b32820dd443990e0633f419", func := "loop.example/buttery/laws.FnExactStepsFlush", spec := "fnExactStepsFlush", unfollowed := true, recurses := true, apart := false, narrowed := true }
def FnExactStepsFlushUptoSaid : Prop := fnExactStepsFlushUptoRow.holds Try.pinned (OpenSpec.upto fnExactStepsFlushSpec)

end Rows
end Go.Proofs.Ytdjdbfcfopgdcaa
