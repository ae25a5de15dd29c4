/- The three closed facts of every row of this seat that go by the program's head line: they are shown without reading the long line's letters one by one. There are no conditions. -/
import Derived.Test.YtdjdbfcfopgdcaaRows
import Derived.JoinedOf
import Derived.KernelRfl
namespace Go.Proofs.Ytdjdbfcfopgdcaa
namespace Head
open Go
def signs (l : List Nat) : List Char := l.map Char.ofNat
def h1 : List Nat := [104, 97, 114, 110, 101, 115, 115]
def h2 : List Nat := [100, 55, 54, 49, 56, 98, 49, 52, 98, 100, 101, 52, 56, 102, 56, 50, 54, 57, 50, 55, 98, 51, 52, 48, 50, 98,
  52, 97, 57, 57, 54, 54, 51, 101, 100, 101, 100, 54, 57, 98, 49, 50, 49, 51, 54, 97, 102, 50, 49, 53, 51, 51,
  50, 98, 97, 57, 97, 101, 57, 97, 97, 52, 51, 102]
def h3 : List Nat := [99, 117, 116]
def h4 : List Nat := [97, 116, 32, 108, 111, 111, 112, 46, 101, 120, 97, 109, 112, 108, 101, 47, 98, 117, 116, 116, 101, 114, 121,
  47, 108, 97, 119, 115, 46, 70, 110, 69, 120, 97, 99, 116, 67, 111, 110, 115, 116, 97, 110, 116, 115, 32, 108,
  111, 111, 112, 46, 101, 120, 97, 109, 112, 108, 101, 47, 98, 117, 116, 116, 101, 114, 121, 47, 108, 97, 119,
  115, 46, 70, 110, 69, 120, 97, 99, 116, 82, 101, 99, 79, 107, 32, 108, 111, 111, 112, 46, 101, 120, 97, 109,
  112, 108, 101, 47, 98, 117, 116, 116, 101, 114, 121, 47, 108, 97, 119, 115, 46, 70, 110, 82, 101, 99, 65, 110,
  121, 32, 108, 111, 111, 112, 46, 101, 120, 97, 109, 112, 108, 101, 47, 98, 117, 116, 116, 101, 114, 121, 47,
  108, 97, 119, 115, 46, 70, 110, 69, 120, 97, 99, 116, 70, 108, 97, 115, 104, 79, 107, 32, 108, 111, 111, 112,
  46, 101, 120, 97, 109, 112, 108, 101, 47, 98, 117, 116, 116, 101, 114, 121, 47, 108, 97, 119, 115, 46, 70, 110,
  69, 120, 97, 99, 116, 70, 108, 97, 115, 104, 67, 108, 101, 97, 110, 32, 108, 111, 111, 112, 46, 101, 120, 97,
  109, 112, 108, 101, 47, 98, 117, 116, 116, 101, 114, 121, 47, 108, 97, 119, 115, 46, 70, 110, 69, 120, 97, 99,
  116, 70, 105, 110, 100, 76, 97, 115, 116, 32, 108, 111, 111, 112, 46, 101, 120, 97, 109, 112, 108, 101, 47, 98,
  117, 116, 116, 101, 114, 121, 47, 108, 97, 119, 115, 46, 70, 110, 69, 120, 97, 99, 116, 70, 105, 110, 100, 78,
  101, 120, 116, 32, 108, 111, 111, 112, 46, 101, 120, 97, 109, 112, 108, 101, 47, 98, 117, 116, 116, 101, 114,
  121, 47, 108, 97, 119, 115, 46, 70, 110, 69, 120, 97, 99, 116, 70, 105, 110, 100, 79, 112, 101, 110, 32, 108,
  111, 111, 112, 46, 101, 120, 97, 109, 112, 108, 101, 47, 98, 117, 116, 116, 101, 114, 121, 47, 108, 97, 119,
  115, 46, 70, 110, 69, 120, 97, 99, 116, 70, 105, 110, 100, 79, 108, 100, 32, 108, 111, 111, 112, 46, 101, 120,
  97, 109, 112, 108, 101, 47, 98, 117, 116, 116, 101, 114, 121, 47, 108, 97, 119, 115, 46, 70, 110, 69, 120, 97,
  99, 116, 70, 105, 110, 100, 76, 105, 118, 101, 32, 108, 111, 111, 112, 46, 101, 120, 97, 109, 112, 108, 101,
  47, 98, 117, 116, 116, 101, 114, 121, 47, 108, 97, 119, 115, 46, 70, 110, 69, 120, 97, 99, 116, 70, 105, 110,
  100, 79, 114, 100, 101, 114, 32, 108, 111, 111, 112, 46, 101, 120, 97, 109, 112, 108, 101, 47, 98, 117, 116,
  116, 101, 114, 121, 47, 108, 97, 119, 115, 46, 70, 110, 69, 120, 97, 99, 116, 70, 108, 97, 115, 104, 87, 114,
  105, 116, 101, 32, 108, 111, 111, 112, 46, 101, 120, 97, 109, 112, 108, 101, 47, 98, 117, 116, 116, 101, 114,
  121, 47, 108, 97, 119, 115, 46, 70, 110, 69, 120, 97, 99, 116, 83, 116, 111, 114, 101, 79, 107, 32, 108, 111,
  111, 112, 46, 101, 120, 97, 109, 112, 108, 101, 47, 98, 117, 116, 116, 101, 114, 121, 47, 108, 97, 119, 115,
  46, 70, 110, 69, 120, 97, 99, 116, 83, 116, 111, 114, 101, 82, 101, 97, 100, 32, 108, 111, 111, 112, 46, 101,
  120, 97, 109, 112, 108, 101, 47, 98, 117, 116, 116, 101, 114, 121, 47, 108, 97, 119, 115, 46, 70, 110, 69, 120,
  97, 99, 116, 83, 116, 111, 114, 101, 68, 105, 114, 116, 121, 32, 108, 111, 111, 112, 46, 101, 120, 97, 109,
  112, 108, 101, 47, 98, 117, 116, 116, 101, 114, 121, 47, 108, 97, 119, 115, 46, 70, 110, 69, 120, 97, 99, 116,
  83, 116, 111, 114, 101, 65, 108, 108, 32, 108, 111, 111, 112, 46, 101, 120, 97, 109, 112, 108, 101, 47, 98,
  117, 116, 116, 101, 114, 121, 47, 108, 97, 119, 115, 46, 70, 110, 69, 120, 97, 99, 116, 83, 116, 101, 112, 115,
  80, 117, 116, 32, 108, 111, 111, 112, 46, 101, 120, 97, 109, 112, 108, 101, 47, 98, 117, 116, 116, 101, 114,
  121, 47, 108, 97, 119, 115, 46, 70, 110, 69, 120, 97, 99, 116, 83, 116, 101, 112, 115, 70, 105, 108, 108, 32,
  108, 111, 111, 112, 46, 101, 120, 97, 109, 112, 108, 101, 47, 98, 117, 116, 116, 101, 114, 121, 47, 108, 97,
  119, 115, 46, 70, 110, 69, 120, 97, 99, 116, 83, 116, 101, 112, 115, 70, 108, 117, 115, 104]
theorem ws_skip : ∀ (l r : List Char), l.all (fun c => c.toNat != 32) = true → wordsSigns (l ++ Char.ofNat 32 :: r) = l :: wordsSigns r
  | [], r, _ => by
    rw [List.nil_append]
    conv => lhs; unfold wordsSigns
    rfl
  | c :: l, r, h => by
    rw [List.all_cons, Bool.and_eq_true] at h
    rw [List.cons_append]
    conv => lhs; unfold wordsSigns
    split
    · rename_i heq
      cases heq
    · rename_i heq
      cases heq
      exact absurd h.1 (by decide)
    · rename_i heq
      cases heq
      rw [ws_skip l r h.2]
theorem text : Try.prog.initOrder = "harness d7618b14bde48f826927b3402b4a99663eded69b12136af215332ba9ae9aa43f cut at loop.example/buttery/laws.FnExactConstants loop.example/buttery/laws.FnExactRecOk loop.example/buttery/laws.FnRecAny loop.example/buttery/laws.FnExactFlashOk loop.example/buttery/laws.FnExactFlashClean loop.example/buttery/laws.FnExactFindLast loop.example/buttery/laws.FnExactFindNext loop.example/buttery/laws.FnExactFindOpen loop.example/buttery/laws.FnExactFindOld loop.example/buttery/laws.FnExactFindLive loop.example/buttery/laws.FnExactFindOrder loop.example/buttery/laws.FnExactFlashWrite loop.example/buttery/laws.FnExactStoreOk loop.example/buttery/laws.FnExactStoreRead loop.example/buttery/laws.FnExactStoreDirty loop.example/buttery/laws.FnExactStoreAll loop.example/buttery/laws.FnExactStepsPut loop.example/buttery/laws.FnExactStepsFill loop.example/buttery/laws.FnExactStepsFlush" := by kernel_rfl
theorem line : "harness d7618b14bde48f826927b3402b4a99663eded69b12136af215332ba9ae9aa43f cut at loop.example/buttery/laws.FnExactConstants loop.example/buttery/laws.FnExactRecOk loop.example/buttery/laws.FnRecAny loop.example/buttery/laws.FnExactFlashOk loop.example/buttery/laws.FnExactFlashClean loop.example/buttery/laws.FnExactFindLast loop.example/buttery/laws.FnExactFindNext loop.example/buttery/laws.FnExactFindOpen loop.example/buttery/laws.FnExactFindOld loop.example/buttery/laws.FnExactFindLive loop.example/buttery/laws.FnExactFindOrder loop.example/buttery/laws.FnExactFlashWrite loop.example/buttery/laws.FnExactStoreOk loop.example/buttery/laws.FnExactStoreRead loop.example/buttery/laws.FnExactStoreDirty loop.example/buttery/laws.FnExactStoreAll loop.example/buttery/laws.FnExactStepsPut loop.example/buttery/laws.FnExactStepsFill loop.example/buttery/laws.FnExactStepsFlush" = String.ofList (signs h1 ++ Char.ofNat 32 :: (signs h2 ++ Char.ofNat 32 :: (signs h3 ++ Char.ofNat 32 :: signs h4))) := by kernel_rfl
theorem words_of {s : String} {l1 l2 l3 l4 : List Char} (hs : s = String.ofList (l1 ++ Char.ofNat 32 :: (l2 ++ Char.ofNat 32 :: (l3 ++ Char.ofNat 32 :: l4))))
    (h1 : l1.all (fun c => c.toNat != 32) = true) (h2 : l2.all (fun c => c.toNat != 32) = true) (h3 : l3.all (fun c => c.toNat != 32) = true)
    (hb : ((l1 == "harness".toList || l1 == "ownmain".toList) && isSumSigns l2) = true) :
    behindMainWord (wordsSigns s.toList) = l3 :: wordsSigns l4 := by
  rw [hs, String.toList_ofList, ws_skip _ _ h1, ws_skip _ _ h2, ws_skip _ _ h3]
  show (if ((l1 == "harness".toList || l1 == "ownmain".toList) && isSumSigns l2) = true then _ else _) = _
  rw [if_pos hb]
theorem words : behindMainWord (wordsSigns Try.prog.initOrder.toList) = "cut".toList :: wordsSigns (signs h4) :=
  words_of (text.trans line) (by decide +kernel) (by decide +kernel) (by decide +kernel) (by decide +kernel)
theorem strip (X : List (List Char)) : stripLifts liftWords ("cut".toList :: X) = ([], "cut".toList :: X) := by
  kernel_rfl
theorem may_of {P : Program} {X : List (List Char)} (h : behindMainWord (wordsSigns P.initOrder.toList) = "cut".toList :: X)
    (h1 : P.laysLater = false) (h2 : P.bearsReflect = false) (h3 : P.doorFits [] = true) : P.mayEnter = true := by
  unfold Program.mayEnter
  rw [h]
  simp only [strip, h1, h2, h3]
  simp
theorem lifts_of {P : Program} {X : List (List Char)} (h : behindMainWord (wordsSigns P.initOrder.toList) = "cut".toList :: X) : P.liftsFinal = false := by
  unfold Program.liftsFinal Program.headLifts
  rw [h]
  simp only [strip]
  simp
theorem make_of {P : Program} {X : List (List Char)} (h : behindMainWord (wordsSigns P.initOrder.toList) = "cut".toList :: X) : P.make = some .cut := by
  unfold Program.make
  rw [h]
  simp
theorem may : Try.prog.mayEnter = true := may_of words (by kernel_rfl) (by kernel_rfl) (by kernel_rfl)
theorem lifts : Try.prog.liftsFinal = false := lifts_of words
theorem make : Try.prog.make = some .cut := make_of words
end Head
end Go.Proofs.Ytdjdbfcfopgdcaa
