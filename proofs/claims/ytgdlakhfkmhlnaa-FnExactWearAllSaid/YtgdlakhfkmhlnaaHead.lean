/- The three closed facts of every row of this seat that go by the program's head line: they are shown without reading the long line's letters one by one. There are no conditions. -/
import Derived.Test.YtgdlakhfkmhlnaaRows
import Derived.JoinedOf
import Derived.KernelRfl
namespace Go.Proofs.Ytgdlakhfkmhlnaa
namespace Head
open Go
def signs (l : List Nat) : List Char := l.map Char.ofNat
def h1 : List Nat := [104, 97, 114, 110, 101, 115, 115]
def h2 : List Nat := [102, 97, 48, 49, 51, 54, 55, 101, 99, 55, 97, 54, 102, 102, 57, 51, 57, 54, 102, 99, 54, 57, 97, 57, 48, 101,
  53, 48, 54, 98, 100, 56, 101, 102, 53, 55, 52, 100, 56, 52, 98, 48, 51, 51, 102, 55, 99, 99, 49, 98, 98, 52,
  97, 49, 54, 56, 99, 56, 97, 57, 50, 99, 52, 99]
def h3 : List Nat := [99, 117, 116]
def h4 : List Nat := [97, 116, 32, 108, 111, 111, 112, 46, 101, 120, 97, 109, 112, 108, 101, 47, 98, 117, 116, 116, 101, 114, 121,
  47, 108, 97, 119, 115, 46, 70, 110, 69, 120, 97, 99, 116, 87, 101, 97, 114, 65, 108, 108]
theorem ws_skip : ∀ (l r : List Char), l.all (fun c => c.toNat != 32) = true → wordsSigns (l ++ Char.ofNat 32 :: r) = l :: wordsSigns r
  | [], r, _ => by
    rw [List.nil_append]
    conv => lhs; unfold wordsSigns
    rfl
  | c :: l, r, h => by
    rw [List.all_cons, Bool.and_eq_true] at h
    rw [List.cons_append]
    conv => lhs; unfold wordsSigns
    split
    · rename_i heq
      cases heq
    · rename_i heq
      cases heq
      exact absurd h.1 (by decide)
    · rename_i heq
      cases heq
      rw [ws_skip l r h.2]
theorem text : Try.prog.initOrder = "harness fa01367ec7a6ff9396fc69a90e506bd8ef574d84b033f7cc1bb4a168c8a92c4c cut at loop.example/buttery/laws.FnExactWearAll" := by kernel_rfl
theorem line : "harness fa01367ec7a6ff9396fc69a90e506bd8ef574d84b033f7cc1bb4a168c8a92c4c cut at loop.example/buttery/laws.FnExactWearAll" = String.ofList (signs h1 ++ Char.ofNat 32 :: (signs h2 ++ Char.ofNat 32 :: (signs h3 ++ Char.ofNat 32 :: signs h4))) := by kernel_rfl
theorem words_of {s : String} {l1 l2 l3 l4 : List Char} (hs : s = String.ofList (l1 ++ Char.ofNat 32 :: (l2 ++ Char.ofNat 32 :: (l3 ++ Char.ofNat 32 :: l4))))
    (h1 : l1.all (fun c => c.toNat != 32) = true) (h2 : l2.all (fun c => c.toNat != 32) = true) (h3 : l3.all (fun c => c.toNat != 32) = true)
    (hb : ((l1 == "harness".toList || l1 == "ownmain".toList) && isSumSigns l2) = true) :
    behindMainWord (wordsSigns s.toList) = l3 :: wordsSigns l4 := by
  rw [hs, String.toList_ofList, ws_skip _ _ h1, ws_skip _ _ h2, ws_skip _ _ h3]
  show (if ((l1 == "harness".toList || l1 == "ownmain".toList) && isSumSigns l2) = true then _ else _) = _
  rw [if_pos hb]
theorem words : behindMainWord (wordsSigns Try.prog.initOrder.toList) = "cut".toList :: wordsSigns (signs h4) :=
  words_of (text.trans line) (by decide +kernel) (by decide +kernel) (by decide +kernel) (by decide +kernel)
theorem strip (X : List (List Char)) : stripLifts liftWords ("cut".toList :: X) = ([], "cut".toList :: X) := by
  kernel_rfl
theorem may_of {P : Program} {X : List (List Char)} (h : behindMainWord (wordsSigns P.initOrder.toList) = "cut".toList :: X)
    (h1 : P.laysLater = false) (h2 : P.bearsReflect = false) (h3 : P.doorFits [] = true) : P.mayEnter = true := by
  unfold Program.mayEnter
  rw [h]
  simp only [strip, h1, h2, h3]
  simp
theorem lifts_of {P : Program} {X : List (List Char)} (h : behindMainWord (wordsSigns P.initOrder.toList) = "cut".toList :: X) : P.liftsFinal = false := by
  unfold Program.liftsFinal Program.headLifts
  rw [h]
  simp only [strip]
  simp
theorem make_of {P : Program} {X : List (List Char)} (h : behindMainWord (wordsSigns P.initOrder.toList) = "cut".toList :: X) : P.make = some .cut := by
  unfold Program.make
  rw [h]
  simp
theorem may : Try.prog.mayEnter = true := may_of words (by kernel_rfl) (by kernel_rfl) (by kernel_rfl)
theorem lifts : Try.prog.liftsFinal = false := lifts_of words
theorem make : Try.prog.make = some .cut := make_of words
end Head
end Go.Proofs.Ytgdlakhfkmhlnaa
