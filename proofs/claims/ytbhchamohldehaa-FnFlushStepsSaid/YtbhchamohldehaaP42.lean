-- printed by wip/pp/pp.py
import Derived.Test.YtbhchamohldehaaP40
import Derived.Test.YtbhchamohldehaaP41
import Derived.WalkKit
import Derived.OwnWalkIn
import Derived.TacticsInMore
import Derived.LoopNIn
import Derived.LoopIn
import Derived.IntWalk
import Derived.WalkArith
import Derived.Test.YtbhchamohldehaaWStep
import Derived.RangeFuncLeaves
namespace Go.Proofs.Ytbhchamohldehaa.P4
set_option maxHeartbeats 8000000
set_option maxRecDepth 100000
open Go.RowKit Go.Proofs.YtbhchamohldehaaW.PrintWords Go.Proofs.YtbhchamohldehaaW.PrintLast Go.Proofs.YtbhchamohldehaaW.PrintMore
attribute [local go_sem] max2_int min2_int max_two min_two max_three min_three max_four min_four
set_option linter.unusedVariables false
set_option linter.unusedSimpArgs false
def bt_ (n x : Nat) : Array Bool := ((List.range n).map fun i => x.testBit i).toArray
def OrdS (w : World) (ga gb : Nat) (va vb : Array Value) (W : World) : Prop := W.heap[ga]? = some (.cells va 73 (0, 0)) ∧ W.heap[gb]? = some (.cells vb 73 (0, 0)) ∧ Below w.heap.size w W
section
variable {w W W2 : World} {ga gb : Nat} {va vb : Array Value}
theorem OrdS.step (h : OrdS w ga gb va vb W) (hb : Below W.heap.size W W2) : OrdS w ga gb va vb W2 := ⟨blk_below h.1 hb, blk_below h.2.1 hb, below_then h.2.2 h.2.2.size hb⟩
theorem OrdS.drew (h : OrdS w ga gb va vb W) : OrdS w ga gb va vb W.drew := ⟨h.1, h.2.1, below_drew h.2.2⟩
theorem OrdS.cellsa {x y : Value} (h : OrdS w ga gb #[x, y] vb W) : W.cell? ⟨ga, 0, none⟩ = some x ∧ W.cell? ⟨ga, 1, none⟩ = some y := ⟨(blk_cell h.1 0).trans rfl, (blk_cell h.1 1).trans rfl⟩
theorem OrdS.cellsb {x y : Value} (h : OrdS w ga gb va #[x, y] W) : W.cell? ⟨gb, 0, none⟩ = some x ∧ W.cell? ⟨gb, 1, none⟩ = some y := ⟨(blk_cell h.2.1 0).trans rfl, (blk_cell h.2.1 1).trans rfl⟩
end
def OrdC (w : World) (f : Nat) (v : Array Value) (r : Int) : Prop := ∀ W, Below w.heap.size w W → Calls Try.prog f #[.agg v] W fun e w' => e = .returned (.int .i64 r) ∧ Below W.heap.size W w'
theorem spec_FindOrder_r11 (w W : World) (i k ga gb : Nat) (Aa Ab : Option Addr) (la ca lb cb : Nat) (wa wb ma mb na nb : Int) (B : Bool) (hB : decide (i ≠ k ∧ 0 < ma ∧ 0 < mb ∧ na < mb ∧ nb < ma) = B) (hSt : OrdS w ga gb #[.slice Aa la ca, .int .i64 wa] #[.slice Ab lb cb, .int .i64 wb] W)
 (hMa : OrdC w 42 #[.slice Aa la ca, .int .i64 wa] ma) (hMb : OrdC w 42 #[.slice Ab lb cb, .int .i64 wb] mb) (hLa : OrdC w 43 #[.slice Aa la ca, .int .i64 wa] na) (hLb : OrdC w 43 #[.slice Ab lb cb, .int .i64 wb] nb)
 (Q : Exit → Act → World → Prop) {u0 u1 u2 u7 u8 u9 u10 u11 u12 u13 u14 u15 u16 u17 u18 u19 u20 u21 u22 u23 u24 u25 u26 u27 u28 u29 u30 u31 u32 u33 u34 u35 u36 u37 u38 u39 u40 u41 u42 u43 u44 u45 u46 u47 u48 u49 u50 u51 u52 u53 u54 u55 u56 u57 u58 u59 u60 u61 u62 u63 u64 u65 u66 u67 u68 u69 u70 u71 u72 u73 u74 u75 u76 u77 u78 u79 u80 u81 u82 u83 u84 u85 u86 u87 u88 u89 u90 u91 : Value} (hP : ∀ c (a a' : Act) w, a.defers = a'.defers → Q (.panic c) a w → Q (.panic c) a' w)
 (hQ : ∀ (x30 x31 x32 x33 x34 x35 x36 x37 x38 x39 x40 x41 x42 x43 x44 x45 x46 x47 x48 x49 x50 x51 x52 x53 x54 x55 : Value) (W' : World), OrdS w ga gb #[.slice Aa la ca, .int .i64 wa] #[.slice Ab lb cb, .int .i64 wb] W' → Q .normal { tmps := #[u0, u1, u2, .int .i64 (i : Int), .int .i64 (k : Int), .pointer (some ⟨ga, 0, none⟩), .pointer (some ⟨gb, 0, none⟩), u7, u8, u9, u10, u11, u12, u13, u14, u15, u16, u17, u18, u19, u20, u21, u22, u23, u24, u25, u26, u27, u28, u29, x30, x31, x32, x33, x34, x35, x36, x37, x38, x39, x40, x41, x42, x43, x44, x45, x46, x47, x48, x49, x50, x51, x52, x53, x54, x55, .bool B, u57, u58, u59, u60, u61, u62, u63, u64, u65, u66, u67, u68, u69, u70, u71, u72, u73, u74, u75, u76, u77, u78, u79, u80, u81, u82, u83, u84, u85, u86, u87, u88, u89, u90, u91], defers := [] } W') :
 Code.wp Try.prog (Code.region 11 (opsOf Try.f21 11) true) Q { tmps := #[u0, u1, u2, .int .i64 (i : Int), .int .i64 (k : Int), .pointer (some ⟨ga, 0, none⟩), .pointer (some ⟨gb, 0, none⟩), u7, u8, u9, u10, u11, u12, u13, u14, u15, u16, u17, u18, u19, u20, u21, u22, u23, u24, u25, u26, u27, u28, u29, u30, u31, u32, u33, u34, u35, u36, u37, u38, u39, u40, u41, u42, u43, u44, u45, u46, u47, u48, u49, u50, u51, u52, u53, u54, u55, u56, u57, u58, u59, u60, u61, u62, u63, u64, u65, u66, u67, u68, u69, u70, u71, u72, u73, u74, u75, u76, u77, u78, u79, u80, u81, u82, u83, u84, u85, u86, u87, u88, u89, u90, u91], defers := [] } W := by
 have hu := Try.underlying73
 simp only [opsOf, opsIn, Try.f21, Option.bind_some, Option.getD_some, Option.getD, Option.bind, Nat.reduceEqDiff, if_true, if_false, Option.orElse, reduceCtorEq, Nat.reduceBEq, Bool.false_eq_true]
 have hQ' : ∀ (N : Option Tmp) (v : Value) c a w, Q (.panic c) (a.put N v) w → Q (.panic c) a w := fun N v c a w h => hP c _ a w (by cases N <;> rfl) h
 replace hSt : OrdS w ga gb #[.slice Aa la ca, .int .i64 wa] #[.slice Ab lb cb, .int .i64 wb] W.drew := OrdS.drew hSt
 refine (if e0 : i = k then ?_ else (if h1 : 0 < ma then (if h2 : 0 < mb then (if h3 : na < mb then (if h4 : nb < ma then ?_ else ?_) else ?_) else ?_) else ?_))
 all_goals
  try have e0b : ((i : Int) != (k : Int)) = false := by simp [e0]
  try have e0b : ((i : Int) != (k : Int)) = true := by rw [bne_iff_ne]; omega
  try have h1b := decide_eq_true h1
  try have h1b := decide_eq_false h1
  try have h2b := decide_eq_true h2
  try have h2b := decide_eq_false h2
  try have h3b := decide_eq_true h3
  try have h3b := decide_eq_false h3
  try have h4b := decide_eq_true h4
  try have h4b := decide_eq_false h4
  obtain rfl : B = _ := hB.symm.trans (by first | exact decide_eq_true (by omega) | exact decide_eq_false (by omega))
  refine start_ (n := 27) (S := OrdS w ga gb #[.slice Aa la ca, .int .i64 wa] #[.slice Ab lb cb, .int .i64 wb]) (ds := []) (bt_ 27 0) (by kernel_rfl) rfl rfl hSt ?_
  intro hSt
  refine pi_ 0 30 (bt_ 27 1) rfl rfl (hQ' _ _) ?_
  refine pi_ 1 31 (bt_ 27 3) rfl rfl (hQ' _ _) ?_
  refine pi_ 2 32 (bt_ 27 7) rfl rfl (hQ' _ _) ?_
  refine pi_ 3 33 (bt_ 27 15) rfl rfl (hQ' _ _) ?_
  first
  | (refine pu_ 4 34 (bt_ 27 31) rfl rfl (hQ' _ _) ?_)
  | (refine pl_ 4 34 (bt_ 27 31) rfl rfl (hQ' _ _) hSt (fun _ h => OrdS.cellsa h) ?_)
  first
  | (refine pu_ 5 35 (bt_ 27 63) rfl rfl (hQ' _ _) ?_)
  | (refine pk_ 5 35 (bt_ 27 63) rfl rfl Try.func42 #[.agg #[.slice Aa la ca, .int .i64 wa]] rfl (hMa _ hSt.2.2) (fun _ h => OrdS.step hSt h) ?_; intro w' hSt)
  first
  | (refine pu_ 6 36 (bt_ 27 127) rfl rfl (hQ' _ _) ?_)
  | (refine pi_ 6 36 (bt_ 27 127) rfl rfl (hQ' _ _) ?_)
  refine pi_ 7 37 (bt_ 27 255) rfl rfl (hQ' _ _) ?_
  refine pi_ 8 38 (bt_ 27 511) rfl rfl (hQ' _ _) ?_
  first
  | (refine pu_ 9 39 (bt_ 27 1023) rfl rfl (hQ' _ _) ?_)
  | (refine pl_ 9 39 (bt_ 27 1023) rfl rfl (hQ' _ _) hSt (fun _ h => OrdS.cellsb h) ?_)
  first
  | (refine pu_ 10 40 (bt_ 27 2047) rfl rfl (hQ' _ _) ?_)
  | (refine pk_ 10 40 (bt_ 27 2047) rfl rfl Try.func42 #[.agg #[.slice Ab lb cb, .int .i64 wb]] rfl (hMb _ hSt.2.2) (fun _ h => OrdS.step hSt h) ?_; intro w' hSt)
  first
  | (refine pu_ 11 41 (bt_ 27 4095) rfl rfl (hQ' _ _) ?_)
  | (refine pi_ 11 41 (bt_ 27 4095) rfl rfl (hQ' _ _) ?_)
  refine pi_ 12 42 (bt_ 27 8191) rfl rfl (hQ' _ _) ?_
  refine pi_ 13 43 (bt_ 27 16383) rfl rfl (hQ' _ _) ?_
  first
  | (refine pu_ 14 44 (bt_ 27 32767) rfl rfl (hQ' _ _) ?_)
  | (refine pl_ 14 44 (bt_ 27 32767) rfl rfl (hQ' _ _) hSt (fun _ h => OrdS.cellsa h) ?_)
  first
  | (refine pu_ 16 46 (bt_ 27 98303) rfl rfl (hQ' _ _) ?_)
  | (refine pl_ 16 46 (bt_ 27 98303) rfl rfl (hQ' _ _) hSt (fun _ h => OrdS.cellsb h) ?_)
  first
  | (refine pu_ 15 45 (bt_ 27 131071) rfl rfl (hQ' _ _) ?_)
  | (refine pk_ 15 45 (bt_ 27 131071) rfl rfl Try.func43 #[.agg #[.slice Aa la ca, .int .i64 wa]] rfl (hLa _ hSt.2.2) (fun _ h => OrdS.step hSt h) ?_; intro w' hSt)
  first
  | (refine pu_ 17 47 (bt_ 27 262143) rfl rfl (hQ' _ _) ?_)
  | (refine pk_ 17 47 (bt_ 27 262143) rfl rfl Try.func42 #[.agg #[.slice Ab lb cb, .int .i64 wb]] rfl (hMb _ hSt.2.2) (fun _ h => OrdS.step hSt h) ?_; intro w' hSt)
  first
  | (refine pu_ 18 48 (bt_ 27 524287) rfl rfl (hQ' _ _) ?_)
  | (refine pi_ 18 48 (bt_ 27 524287) rfl rfl (hQ' _ _) ?_)
  refine pi_ 19 49 (bt_ 27 1048575) rfl rfl (hQ' _ _) ?_
  refine pi_ 20 50 (bt_ 27 2097151) rfl rfl (hQ' _ _) ?_
  first
  | (refine pu_ 21 51 (bt_ 27 4194303) rfl rfl (hQ' _ _) ?_)
  | (refine pl_ 21 51 (bt_ 27 4194303) rfl rfl (hQ' _ _) hSt (fun _ h => OrdS.cellsb h) ?_)
  first
  | (refine pu_ 23 53 (bt_ 27 12582911) rfl rfl (hQ' _ _) ?_)
  | (refine pl_ 23 53 (bt_ 27 12582911) rfl rfl (hQ' _ _) hSt (fun _ h => OrdS.cellsa h) ?_)
  first
  | (refine pu_ 22 52 (bt_ 27 16777215) rfl rfl (hQ' _ _) ?_)
  | (refine pk_ 22 52 (bt_ 27 16777215) rfl rfl Try.func43 #[.agg #[.slice Ab lb cb, .int .i64 wb]] rfl (hLb _ hSt.2.2) (fun _ h => OrdS.step hSt h) ?_; intro w' hSt)
  first
  | (refine pu_ 24 54 (bt_ 27 33554431) rfl rfl (hQ' _ _) ?_)
  | (refine pk_ 24 54 (bt_ 27 33554431) rfl rfl Try.func42 #[.agg #[.slice Aa la ca, .int .i64 wa]] rfl (hMa _ hSt.2.2) (fun _ h => OrdS.step hSt h) ?_; intro w' hSt)
  first
  | (refine pu_ 25 55 (bt_ 27 67108863) rfl rfl (hQ' _ _) ?_)
  | (refine pi_ 25 55 (bt_ 27 67108863) rfl rfl (hQ' _ _) ?_)
  refine pi_ 26 56 (bt_ 27 134217727) rfl rfl (hQ' _ _) ?_
  refine done_ (by kernel_rfl) ?_
  exact hQ _ _ _ _ _ _ _ _ _ _ _ _ _ _ _ _ _ _ _ _ _ _ _ _ _ _ _ hSt
theorem spec_FindOrder_r13 (w W : World) (i k ga gb : Nat) (Aa Ab : Option Addr) (la ca lb cb : Nat) (wa wb ma mb fa fb : Int) (B : Bool) (hB : decide (i ≠ k ∧ 0 < fa ∧ fa < 4 ∧ ((0 < fb ∧ fb < 4) ∨ (0 < ma ∧ ma < mb))) = B) (hSt : OrdS w ga gb #[.slice Aa la ca, .int .i64 wa] #[.slice Ab lb cb, .int .i64 wb] W)
 (hMa : OrdC w 42 #[.slice Aa la ca, .int .i64 wa] ma) (hMb : OrdC w 42 #[.slice Ab lb cb, .int .i64 wb] mb) (hCa : OrdC w 44 #[.slice Aa la ca, .int .i64 wa] fa) (hCb : OrdC w 44 #[.slice Ab lb cb, .int .i64 wb] fb)
 (Q : Exit → Act → World → Prop) {u0 u1 u2 u7 u8 u9 u10 u11 u12 u13 u14 u15 u16 u17 u18 u19 u20 u21 u22 u23 u24 u25 u26 u27 u28 u29 u30 u31 u32 u33 u34 u35 u36 u37 u38 u39 u40 u41 u42 u43 u44 u45 u46 u47 u48 u49 u50 u51 u52 u53 u54 u55 u56 u57 u58 u59 u60 u61 u62 u63 u64 u65 u66 u67 u68 u69 u70 u71 u72 u73 u74 u75 u76 u77 u78 u79 u80 u81 u82 u83 u84 u85 u86 u87 u88 u89 u90 u91 : Value} (hP : ∀ c (a a' : Act) w, a.defers = a'.defers → Q (.panic c) a w → Q (.panic c) a' w)
 (hQ : ∀ (x57 x58 x59 x60 x61 x62 x63 x64 x65 x66 x67 x68 x69 x70 x71 x72 x73 x74 x75 x76 x77 x78 x79 x80 x81 x82 x83 x84 x85 x86 x87 x88 x89 x90 : Value) (W' : World), OrdS w ga gb #[.slice Aa la ca, .int .i64 wa] #[.slice Ab lb cb, .int .i64 wb] W' → Q .normal { tmps := #[u0, u1, u2, .int .i64 (i : Int), .int .i64 (k : Int), .pointer (some ⟨ga, 0, none⟩), .pointer (some ⟨gb, 0, none⟩), u7, u8, u9, u10, u11, u12, u13, u14, u15, u16, u17, u18, u19, u20, u21, u22, u23, u24, u25, u26, u27, u28, u29, u30, u31, u32, u33, u34, u35, u36, u37, u38, u39, u40, u41, u42, u43, u44, u45, u46, u47, u48, u49, u50, u51, u52, u53, u54, u55, u56, x57, x58, x59, x60, x61, x62, x63, x64, x65, x66, x67, x68, x69, x70, x71, x72, x73, x74, x75, x76, x77, x78, x79, x80, x81, x82, x83, x84, x85, x86, x87, x88, x89, x90, .bool B], defers := [] } W') :
 Code.wp Try.prog (Code.region 13 (opsOf Try.f21 13) true) Q { tmps := #[u0, u1, u2, .int .i64 (i : Int), .int .i64 (k : Int), .pointer (some ⟨ga, 0, none⟩), .pointer (some ⟨gb, 0, none⟩), u7, u8, u9, u10, u11, u12, u13, u14, u15, u16, u17, u18, u19, u20, u21, u22, u23, u24, u25, u26, u27, u28, u29, u30, u31, u32, u33, u34, u35, u36, u37, u38, u39, u40, u41, u42, u43, u44, u45, u46, u47, u48, u49, u50, u51, u52, u53, u54, u55, u56, u57, u58, u59, u60, u61, u62, u63, u64, u65, u66, u67, u68, u69, u70, u71, u72, u73, u74, u75, u76, u77, u78, u79, u80, u81, u82, u83, u84, u85, u86, u87, u88, u89, u90, u91], defers := [] } W := by
 have hu := Try.underlying73
 simp only [opsOf, opsIn, Try.f21, Option.bind_some, Option.getD_some, Option.getD, Option.bind, Nat.reduceEqDiff, if_true, if_false, Option.orElse, reduceCtorEq, Nat.reduceBEq, Bool.false_eq_true]
 have hQ' : ∀ (N : Option Tmp) (v : Value) c a w, Q (.panic c) (a.put N v) w → Q (.panic c) a w := fun N v c a w h => hP c _ a w (by cases N <;> rfl) h
 replace hSt : OrdS w ga gb #[.slice Aa la ca, .int .i64 wa] #[.slice Ab lb cb, .int .i64 wb] W.drew := OrdS.drew hSt
 refine (if e0 : i = k then ?_ else (if h1 : 0 < fa then (if h2 : fa < 4 then (if h3 : 0 < fb then (if h4 : fb < 4 then ?_ else (if h5 : 0 < ma then (if h6 : ma < mb then ?_ else ?_) else ?_)) else (if h5 : 0 < ma then (if h6 : ma < mb then ?_ else ?_) else ?_)) else ?_) else ?_))
 all_goals
  try have e0b : ((i : Int) != (k : Int)) = false := by simp [e0]
  try have e0b : ((i : Int) != (k : Int)) = true := by rw [bne_iff_ne]; omega
  try have h1b := decide_eq_true h1
  try have h1b := decide_eq_false h1
  try have h2b := decide_eq_true h2
  try have h2b := decide_eq_false h2
  try have h3b := decide_eq_true h3
  try have h3b := decide_eq_false h3
  try have h4b := decide_eq_true h4
  try have h4b := decide_eq_false h4
  try have h5b := decide_eq_true h5
  try have h5b := decide_eq_false h5
  try have h6b := decide_eq_true h6
  try have h6b := decide_eq_false h6
  obtain rfl : B = _ := hB.symm.trans (by first | exact decide_eq_true (by omega) | exact decide_eq_false (by omega))
  refine start_ (n := 35) (S := OrdS w ga gb #[.slice Aa la ca, .int .i64 wa] #[.slice Ab lb cb, .int .i64 wb]) (ds := []) (bt_ 35 0) (by kernel_rfl) rfl rfl hSt ?_
  intro hSt
  refine pi_ 0 57 (bt_ 35 1) rfl rfl (hQ' _ _) ?_
  refine pi_ 1 58 (bt_ 35 3) rfl rfl (hQ' _ _) ?_
  refine pi_ 2 59 (bt_ 35 7) rfl rfl (hQ' _ _) ?_
  refine pi_ 3 60 (bt_ 35 15) rfl rfl (hQ' _ _) ?_
  first
  | (refine pu_ 4 61 (bt_ 35 31) rfl rfl (hQ' _ _) ?_)
  | (refine pl_ 4 61 (bt_ 35 31) rfl rfl (hQ' _ _) hSt (fun _ h => OrdS.cellsa h) ?_)
  first
  | (refine pu_ 5 62 (bt_ 35 63) rfl rfl (hQ' _ _) ?_)
  | (refine pk_ 5 62 (bt_ 35 63) rfl rfl Try.func44 #[.agg #[.slice Aa la ca, .int .i64 wa]] rfl (hCa _ hSt.2.2) (fun _ h => OrdS.step hSt h) ?_; intro w' hSt)
  first
  | (refine pu_ 6 63 (bt_ 35 127) rfl rfl (hQ' _ _) ?_)
  | (refine pi_ 6 63 (bt_ 35 127) rfl rfl (hQ' _ _) ?_)
  refine pi_ 7 64 (bt_ 35 255) rfl rfl (hQ' _ _) ?_
  refine pi_ 8 65 (bt_ 35 511) rfl rfl (hQ' _ _) ?_
  first
  | (refine pu_ 9 66 (bt_ 35 1023) rfl rfl (hQ' _ _) ?_)
  | (refine pl_ 9 66 (bt_ 35 1023) rfl rfl (hQ' _ _) hSt (fun _ h => OrdS.cellsa h) ?_)
  first
  | (refine pu_ 10 67 (bt_ 35 2047) rfl rfl (hQ' _ _) ?_)
  | (refine pk_ 10 67 (bt_ 35 2047) rfl rfl Try.func44 #[.agg #[.slice Aa la ca, .int .i64 wa]] rfl (hCa _ hSt.2.2) (fun _ h => OrdS.step hSt h) ?_; intro w' hSt)
  first
  | (refine pu_ 11 68 (bt_ 35 4095) rfl rfl (hQ' _ _) ?_)
  | (refine pi_ 11 68 (bt_ 35 4095) rfl rfl (hQ' _ _) ?_)
  refine pi_ 12 69 (bt_ 35 8191) rfl rfl (hQ' _ _) ?_
  refine pi_ 13 70 (bt_ 35 16383) rfl rfl (hQ' _ _) ?_
  first
  | (refine pu_ 14 71 (bt_ 35 32767) rfl rfl (hQ' _ _) ?_)
  | (refine pl_ 14 71 (bt_ 35 32767) rfl rfl (hQ' _ _) hSt (fun _ h => OrdS.cellsb h) ?_)
  first
  | (refine pu_ 15 72 (bt_ 35 65535) rfl rfl (hQ' _ _) ?_)
  | (refine pk_ 15 72 (bt_ 35 65535) rfl rfl Try.func44 #[.agg #[.slice Ab lb cb, .int .i64 wb]] rfl (hCb _ hSt.2.2) (fun _ h => OrdS.step hSt h) ?_; intro w' hSt)
  first
  | (refine pu_ 16 73 (bt_ 35 131071) rfl rfl (hQ' _ _) ?_)
  | (refine pi_ 16 73 (bt_ 35 131071) rfl rfl (hQ' _ _) ?_)
  first
  | (refine pu_ 17 74 (bt_ 35 262143) rfl rfl (hQ' _ _) ?_)
  | (refine pi_ 17 74 (bt_ 35 262143) rfl rfl (hQ' _ _) ?_)
  first
  | (refine pu_ 18 75 (bt_ 35 524287) rfl rfl (hQ' _ _) ?_)
  | (refine pl_ 18 75 (bt_ 35 524287) rfl rfl (hQ' _ _) hSt (fun _ h => OrdS.cellsb h) ?_)
  first
  | (refine pu_ 19 76 (bt_ 35 1048575) rfl rfl (hQ' _ _) ?_)
  | (refine pk_ 19 76 (bt_ 35 1048575) rfl rfl Try.func44 #[.agg #[.slice Ab lb cb, .int .i64 wb]] rfl (hCb _ hSt.2.2) (fun _ h => OrdS.step hSt h) ?_; intro w' hSt)
  first
  | (refine pu_ 20 77 (bt_ 35 2097151) rfl rfl (hQ' _ _) ?_)
  | (refine pi_ 20 77 (bt_ 35 2097151) rfl rfl (hQ' _ _) ?_)
  first
  | (refine pu_ 21 78 (bt_ 35 4194303) rfl rfl (hQ' _ _) ?_)
  | (refine pi_ 21 78 (bt_ 35 4194303) rfl rfl (hQ' _ _) ?_)
  first
  | (refine pu_ 22 79 (bt_ 35 8388607) rfl rfl (hQ' _ _) ?_)
  | (refine pi_ 22 79 (bt_ 35 8388607) rfl rfl (hQ' _ _) ?_)
  first
  | (refine pu_ 23 80 (bt_ 35 16777215) rfl rfl (hQ' _ _) ?_)
  | (refine pl_ 23 80 (bt_ 35 16777215) rfl rfl (hQ' _ _) hSt (fun _ h => OrdS.cellsa h) ?_)
  first
  | (refine pu_ 24 81 (bt_ 35 33554431) rfl rfl (hQ' _ _) ?_)
  | (refine pk_ 24 81 (bt_ 35 33554431) rfl rfl Try.func42 #[.agg #[.slice Aa la ca, .int .i64 wa]] rfl (hMa _ hSt.2.2) (fun _ h => OrdS.step hSt h) ?_; intro w' hSt)
  first
  | (refine pu_ 25 82 (bt_ 35 67108863) rfl rfl (hQ' _ _) ?_)
  | (refine pi_ 25 82 (bt_ 35 67108863) rfl rfl (hQ' _ _) ?_)
  first
  | (refine pu_ 26 83 (bt_ 35 134217727) rfl rfl (hQ' _ _) ?_)
  | (refine pi_ 26 83 (bt_ 35 134217727) rfl rfl (hQ' _ _) ?_)
  first
  | (refine pu_ 27 84 (bt_ 35 268435455) rfl rfl (hQ' _ _) ?_)
  | (refine pl_ 27 84 (bt_ 35 268435455) rfl rfl (hQ' _ _) hSt (fun _ h => OrdS.cellsb h) ?_)
  first
  | (refine pu_ 29 86 (bt_ 35 805306367) rfl rfl (hQ' _ _) ?_)
  | (refine pl_ 29 86 (bt_ 35 805306367) rfl rfl (hQ' _ _) hSt (fun _ h => OrdS.cellsa h) ?_)
  first
  | (refine pu_ 28 85 (bt_ 35 1073741823) rfl rfl (hQ' _ _) ?_)
  | (refine pk_ 28 85 (bt_ 35 1073741823) rfl rfl Try.func42 #[.agg #[.slice Ab lb cb, .int .i64 wb]] rfl (hMb _ hSt.2.2) (fun _ h => OrdS.step hSt h) ?_; intro w' hSt)
  first
  | (refine pu_ 30 87 (bt_ 35 2147483647) rfl rfl (hQ' _ _) ?_)
  | (refine pk_ 30 87 (bt_ 35 2147483647) rfl rfl Try.func42 #[.agg #[.slice Aa la ca, .int .i64 wa]] rfl (hMa _ hSt.2.2) (fun _ h => OrdS.step hSt h) ?_; intro w' hSt)
  first
  | (refine pu_ 31 88 (bt_ 35 4294967295) rfl rfl (hQ' _ _) ?_)
  | (refine pi_ 31 88 (bt_ 35 4294967295) rfl rfl (hQ' _ _) ?_)
  first
  | (refine pu_ 32 89 (bt_ 35 8589934591) rfl rfl (hQ' _ _) ?_)
  | (refine pi_ 32 89 (bt_ 35 8589934591) rfl rfl (hQ' _ _) ?_)
  first
  | (refine pu_ 33 90 (bt_ 35 17179869183) rfl rfl (hQ' _ _) ?_)
  | (refine pi_ 33 90 (bt_ 35 17179869183) rfl rfl (hQ' _ _) ?_)
  refine pi_ 34 91 (bt_ 35 34359738367) rfl rfl (hQ' _ _) ?_
  refine done_ (by kernel_rfl) ?_
  exact hQ _ _ _ _ _ _ _ _ _ _ _ _ _ _ _ _ _ _ _ _ _ _ _ _ _ _ _ _ _ _ _ _ _ _ _ hSt
theorem flash_fourS {l : List S73} (h : flashOkB l = true) : l.length = 4 := by
 unfold flashOkB at h
 rw [Bool.and_eq_true, decide_eq_true_eq] at h
 omega
def mostQ (m : Int) (ps : List S69) : Int := ps.foldl (fun m p => mx m p.f1.f1) m
def leastStep (n : Int) (p : S69) : Int := if p.f1.f1 > 0 ∧ (n = 0 ∨ p.f1.f1 < n) then p.f1.f1 else n
def leastQ (m : Int) (ps : List S69) : Int := ps.foldl leastStep m
theorem mostQ_loop (l : List S69) (b : Int) (hl : l.length ≤ maxLen) : ∀ (n i : Nat) (m : Int), i + n = l.length → spec_l3Most.l0 (n + 1) m (i : Int) l b = some (mostQ m (l.drop i))
 | 0, i, m, h => by
  rw [spec_l3Most.l0, if_neg (by omega), List.drop_eq_nil_of_le (by omega)]
  rfl
 | n + 1, i, m, h => by
  have ih := fun m => mostQ_loop l b hl n (i + 1) m (by omega)
  have e1 : wrap64 ((i : Int) + 1) = ((i + 1 : Nat) : Int) := by simp only [maxLen] at hl; rw [IntWalk.wrap64_in _ (by omega)]; omega
  rw [drop_pg (by omega : i < l.length), spec_l3Most.l0, if_pos (by omega), if_pos (by omega), e1]
  exact ih _
theorem leastQ_loop (l : List S69) (b : Int) (hl : l.length ≤ maxLen) : ∀ (n i : Nat) (m : Int), i + n = l.length → spec_l3Least.l0 (n + 1) m (i : Int) l b = some (leastQ m (l.drop i))
 | 0, i, m, h => by
  rw [spec_l3Least.l0, if_neg (by omega), List.drop_eq_nil_of_le (by omega)]
  rfl
 | n + 1, i, m, h => by
  have ih := fun m => leastQ_loop l b hl n (i + 1) m (by omega)
  have e1 : wrap64 ((i : Int) + 1) = ((i + 1 : Nat) : Int) := by simp only [maxLen] at hl; rw [IntWalk.wrap64_in _ (by omega)]; omega
  have e2 : ∀ p : S69, ∀ ps, leastQ m (p :: ps) = leastQ (leastStep m p) ps := fun _ _ => rfl
  rw [drop_pg (by omega : i < l.length), e2, spec_l3Least.l0, if_pos (by omega), if_pos (by omega), e1]
  generalize rd_T69 l (i : Int) = p
  unfold leastStep
  by_cases h1 : p.f1.f1 > 0
  rotate_left
  · rw [if_neg h1, if_neg (fun h => h1 h.1)]
    exact ih _
  rw [if_pos h1]
  by_cases h2 : m = 0
  · rw [if_pos h2, if_pos ⟨h1, Or.inl h2⟩]
    exact ih _
  rw [if_neg h2]
  by_cases h3 : p.f1.f1 < m
  · rw [if_pos h3, if_pos ⟨h1, Or.inr h3⟩]
    exact ih _
  rw [if_neg h3, if_neg (fun h => h.2.elim h2 h3)]
  exact ih _
theorem freeS_loop (l : List S69) (b : Int) (hl : l.length ≤ maxLen) : ∀ (n i m : Nat), i + n = l.length → m ≤ i → spec_l2Clean.l0 (n + 1) (m : Int) (i : Int) l b = some ((m + freeQ (l.drop i) : Nat) : Int)
 | 0, i, m, h, hm => by
  rw [spec_l2Clean.l0, if_neg (by omega), List.drop_eq_nil_of_le (by omega)]
  rfl
 | n + 1, i, m, h, hm => by
  have ih1 := freeS_loop l b hl n (i + 1) (m + 1) (by omega) (by omega)
  have ih2 := freeS_loop l b hl n (i + 1) m (by omega) (by omega)
  have e1 : wrap64 ((i : Int) + 1) = ((i + 1 : Nat) : Int) := by simp only [maxLen] at hl; rw [IntWalk.wrap64_in _ (by omega)]; omega
  have e2 : wrap64 ((m : Int) + 1) = ((m + 1 : Nat) : Int) := by simp only [maxLen] at hl; rw [IntWalk.wrap64_in _ (by omega)]; omega
  rw [drop_pg (by omega : i < l.length), freeQ, spec_l2Clean.l0, if_pos (by omega), if_pos (by omega), e1, e2]
  by_cases hs : (rd_T69 l (i : Int)).f0 = 0
  rotate_left
  · rw [if_neg hs, if_neg hs, Nat.zero_add]
    exact ih2
  rw [if_pos hs, if_pos hs, show m + (1 + freeQ (l.drop (i + 1))) = m + 1 + freeQ (l.drop (i + 1)) by omega]
  exact ih1
theorem mostS_ok (b : S73) (hl : b.f0.length ≤ maxLen) : ∃ k, spec_l3Most.f k b.f0 b.f1 = some (mostQ 0 b.f0) := ⟨b.f0.length + 1, mostQ_loop b.f0 b.f1 hl b.f0.length 0 0 (by omega)⟩
theorem leastS_ok (b : S73) (hl : b.f0.length ≤ maxLen) : ∃ k, spec_l3Least.f k b.f0 b.f1 = some (leastQ 0 b.f0) := ⟨b.f0.length + 1, leastQ_loop b.f0 b.f1 hl b.f0.length 0 0 (by omega)⟩
theorem freeS_ok (b : S73) (hl : b.f0.length ≤ maxLen) : ∃ k, spec_l2Clean.f k b.f0 b.f1 = some ((freeQ b.f0 : Nat) : Int) := ⟨b.f0.length + 1, by
 have := freeS_loop b.f0 b.f1 hl b.f0.length 0 0 (by omega) (by omega)
 rw [List.drop_zero, Nat.zero_add] at this
 exact this⟩
def c11B (i k : Nat) (a b : S73) : Bool := decide (i ≠ k ∧ 0 < mostQ 0 a.f0 ∧ 0 < mostQ 0 b.f0 ∧ leastQ 0 a.f0 < mostQ 0 b.f0 ∧ leastQ 0 b.f0 < mostQ 0 a.f0)
def c13B (i k : Nat) (a b : S73) : Bool := decide (i ≠ k ∧ 0 < ((freeQ a.f0 : Nat) : Int) ∧ ((freeQ a.f0 : Nat) : Int) < 4 ∧ ((0 < ((freeQ b.f0 : Nat) : Int) ∧ ((freeQ b.f0 : Nat) : Int) < 4) ∨ (0 < mostQ 0 a.f0 ∧ mostQ 0 a.f0 < mostQ 0 b.f0)))
def pairB (l : List S73) (i k : Nat) : Bool := c11B i k (rd_T73 l (i : Int)) (rd_T73 l (k : Int)) || c13B i k (rd_T73 l (i : Int)) (rd_T73 l (k : Int))
def rowB (l : List S73) (i : Nat) : Nat → Bool
 | 0 => false
 | k + 1 => rowB l i k || pairB l i k
def allB (l : List S73) : Nat → Bool
 | 0 => false
 | i + 1 => allB l i || rowB l i 4
theorem rowB_of {l : List S73} {i k : Nat} (h : pairB l i k = true) : ∀ n, k < n → rowB l i n = true
 | 0, hn => by omega
 | n + 1, hn => by
  rw [rowB, Bool.or_eq_true]
  by_cases e : k = n
  · subst e; exact .inr h
  exact .inl (rowB_of h n (by omega))
theorem allB_of {l : List S73} {i : Nat} (h : rowB l i 4 = true) : ∀ n, i < n → allB l n = true
 | 0, hn => by omega
 | n + 1, hn => by
  rw [allB, Bool.or_eq_true]
  by_cases e : i = n
  · subst e; exact .inr h
  exact .inl (allB_of h n (by omega))
def specOrderB (l : List (S73)) : Bool := flashOkB l && !allB l 4
def spec_FindOrder.f (l0 : List (S73)) : Option (Bool) := some (specOrderB l0)
theorem spec_FindOrder.calls (A0 : Option Addr) (c0 : Nat) (l0 : List (S73)) (r : Bool) (w : World) (hr0 : Kd.C k73 w A0 l0.length l0) (hc0 : l0.length ≤ c0) (h : spec_FindOrder.f l0 = some r) :
 Calls Try.prog 21 #[.slice A0 l0.length c0] w fun e w' => e = .returned (.bool r) ∧ Below w.heap.size w w' := by
 obtain rfl := Option.some.inj h
 clear h
 refine (callsIn_wide (n := 3)).1 ?_
 have hok := callsIn_wide (n := 2).2 (spec_FlashOk.calls A0 c0 l0 _ w hr0 hc0 rfl)
 have hu := Try.underlying73
 unfold specOrderB
 cases hf : flashOkB l0 with
 | false =>
  rw [hf] at hok
  refine callsIn_of_wp Try.func21 rfl trivial ?_ rfl
  simp only [Try.ntmps21, List.size_toArray, List.length_cons, List.length_nil, Nat.reduceAdd, Nat.reduceSub, Array.replicate_succ, Array.replicate_zero, List.push_toArray, List.append_toArray, List.nil_append, List.cons_append]
  gi_wp2_with (first | (refine ⟨trivial, ?_⟩; gi_at_call 41; refine hok.mono ?_; rintro e w1 ⟨rfl, hb⟩))
  go_ret
  exact ⟨rfl, hb⟩
 | true =>
  rw [hf] at hok
  have hl := flash_fourS hf
  rw [Bool.true_and]
  obtain ⟨V, hV⟩ : ∃ V : Bool, (!allB l0 4) = V := ⟨_, rfl⟩
  rw [hV]
  have HV := am hV
  clear hV
  rw [hl] at hok ⊢
  refine callsIn_of_wp Try.func21 rfl trivial ?_ rfl
  simp only [Try.ntmps21, List.size_toArray, List.length_cons, List.length_nil, Nat.reduceAdd, Nat.reduceSub, Array.replicate_succ, Array.replicate_zero, List.push_toArray, List.append_toArray, List.nil_append, List.cons_append]
  gi_wp2_with (first | (refine ⟨trivial, ?_⟩; gi_at_call 41; refine hok.mono ?_; rintro e w1 ⟨rfl, hb⟩))
  clear hok
  gi_loopw [3] (fun v3 wr => ∃ i : Nat, v3 = .int .i64 (i : Int) ∧ i ≤ 4 ∧ Aside0 (allB l0 i = false) ∧ Aside0 (Below w.heap.size w wr)) (fun v3 _ => 4 - (intOf v3).toNat)
  case atStart => exact ⟨0, rfl, by omega, ⟨rfl⟩, ⟨hb⟩⟩
  case round =>
   clear hb
   obtain ⟨i, rfl, hi, hall, hB⟩ := hrel
   by_cases ci : i < 4
   rotate_left
   · obtain rfl : i = 4 := by omega
     gi_wp2
     go_ret
     exact ⟨by rw [← HV.out, hall.out]; rfl, hB.out⟩
   have cib : decide ((i : Int) < 4) = true := decide_eq_true (by omega)
   have p1 : 0 ≤ (i : Int) := by omega
   have q1 : (i : Int) < 4 := by omega
   gi_wp2
   gi_loopw [4] (fun v4 wr => ∃ k : Nat, v4 = .int .i64 (k : Int) ∧ k ≤ 4 ∧ Aside0 (rowB l0 i k = false) ∧ Aside0 (Below w.heap.size w wr)) (fun v4 _ => 4 - (intOf v4).toNat)
   case atStart => exact ⟨0, rfl, by omega, ⟨rfl⟩, hB⟩
   case round =>
    clear hB
    obtain ⟨k, rfl, hk, hrow, hB⟩ := hrel
    by_cases ck : k < 4
    rotate_left
    · obtain rfl : k = 4 := by omega
      have hA4 : Aside0 (allB l0 (i + 1) = false) := ⟨by rw [allB, hall.out, hrow.out]; rfl⟩
      gi_wp2
      exact ⟨⟨i + 1, by simp, by omega, hA4, hB⟩, by simp [intOf]; omega⟩
    have ckb : decide ((k : Int) < 4) = true := decide_eq_true (by omega)
    have p2 : 0 ≤ (k : Int) := by omega
    have q2 : (k : Int) < 4 := by omega
    obtain ⟨ad1, A1, c1, e1, hx1_0, hx1_1, hl1, hi1⟩ := at_T73 hr0 (i : Int) p1 (by omega)
    obtain ⟨ad2, A2, c2, e2, hx2_0, hx2_1, hl2, hi2⟩ := at_T73 hr0 (k : Int) p2 (by omega)
    cases e1
    cases e2
    replace hx1_0 := (hB.out.cell (World.block_lt_of_cell? w _ hx1_0)).trans hx1_0
    replace hx1_1 := (hB.out.cell (World.block_lt_of_cell? w _ hx1_1)).trans hx1_1
    replace hx2_0 := (hB.out.cell (World.block_lt_of_cell? w _ hx2_0)).trans hx2_0
    replace hx2_1 := (hB.out.cell (World.block_lt_of_cell? w _ hx2_1)).trans hx2_1
    simp only [Int.toNat_natCast] at hx1_0 hx1_1 hx2_0 hx2_1
    obtain ⟨k1, hk1⟩ := mostS_ok (rd_T73 l0 (i : Int)) (Kd.C_max hi1)
    obtain ⟨k2, hk2⟩ := mostS_ok (rd_T73 l0 (k : Int)) (Kd.C_max hi2)
    obtain ⟨k3, hk3⟩ := leastS_ok (rd_T73 l0 (i : Int)) (Kd.C_max hi1)
    obtain ⟨k4, hk4⟩ := leastS_ok (rd_T73 l0 (k : Int)) (Kd.C_max hi2)
    obtain ⟨k5, hk5⟩ := freeS_ok (rd_T73 l0 (i : Int)) (Kd.C_max hi1)
    obtain ⟨k6, hk6⟩ := freeS_ok (rd_T73 l0 (k : Int)) (Kd.C_max hi2)
    have hpb : pairB l0 i k = (c11B i k (rd_T73 l0 (i : Int)) (rd_T73 l0 (k : Int)) || c13B i k (rd_T73 l0 (i : Int)) (rd_T73 l0 (k : Int))) := rfl
    generalize (rd_T73 l0 (i : Int)) = bi at *
    generalize (rd_T73 l0 (k : Int)) = bk at *
    have hMa : Aside0 (OrdC w 42 #[.slice A1 bi.f0.length c1, .int .i64 bi.f1] (mostQ 0 bi.f0)) := ⟨fun W hb => spec_l3Most.calls k1 A1 c1 bi.f0 bi.f1 _ W (Kd.C_below hi1 hb) hl1 hk1⟩
    have hMb : Aside0 (OrdC w 42 #[.slice A2 bk.f0.length c2, .int .i64 bk.f1] (mostQ 0 bk.f0)) := ⟨fun W hb => spec_l3Most.calls k2 A2 c2 bk.f0 bk.f1 _ W (Kd.C_below hi2 hb) hl2 hk2⟩
    have hLa : Aside0 (OrdC w 43 #[.slice A1 bi.f0.length c1, .int .i64 bi.f1] (leastQ 0 bi.f0)) := ⟨fun W hb => spec_l3Least.calls k3 A1 c1 bi.f0 bi.f1 _ W (Kd.C_below hi1 hb) hl1 hk3⟩
    have hLb : Aside0 (OrdC w 43 #[.slice A2 bk.f0.length c2, .int .i64 bk.f1] (leastQ 0 bk.f0)) := ⟨fun W hb => spec_l3Least.calls k4 A2 c2 bk.f0 bk.f1 _ W (Kd.C_below hi2 hb) hl2 hk4⟩
    have hFa : Aside0 (OrdC w 44 #[.slice A1 bi.f0.length c1, .int .i64 bi.f1] ((freeQ bi.f0 : Nat) : Int)) := ⟨fun W hb => spec_l2Clean.calls k5 A1 c1 bi.f0 bi.f1 _ W (Kd.C_below hi1 hb) hl1 hk5⟩
    have hFb : Aside0 (OrdC w 44 #[.slice A2 bk.f0.length c2, .int .i64 bk.f1] ((freeQ bk.f0 : Nat) : Int)) := ⟨fun W hb => spec_l2Clean.calls k6 A2 c2 bk.f0 bk.f1 _ W (Kd.C_below hi2 hb) hl2 hk6⟩
    have hS : Aside0 (OrdS w wr.heap.size (wr.heap.size + 1) #[.slice A1 bi.f0.length c1, .int .i64 bi.f1] #[.slice A2 bk.f0.length c2, .int .i64 bk.f1] ((wr.alloc (.cells #[.slice A1 bi.f0.length c1, .int .i64 bi.f1] 73)).alloc (.cells #[.slice A2 bk.f0.length c2, .int .i64 bk.f1] 73))) := ⟨blk_alloc (blk_new wr _) _, by have := blk_new (wr.alloc (.cells #[.slice A1 bi.f0.length c1, .int .i64 bi.f1] 73)) (.cells #[.slice A2 bk.f0.length c2, .int .i64 bk.f1] 73); rw [World.size_alloc] at this; exact this, below_alloc (below_alloc hB.out _) _⟩
    have hy2_0 := ((below_alloc (Below.refl _ wr) (.cells #[.slice A1 bi.f0.length c1, .int .i64 bi.f1] 73)).cell (World.block_lt_of_cell? wr _ hx2_0)).trans hx2_0
    have hy2_1 := ((below_alloc (Below.refl _ wr) (.cells #[.slice A1 bi.f0.length c1, .int .i64 bi.f1] 73)).cell (World.block_lt_of_cell? wr _ hx2_1)).trans hx2_1
    clear hx2_0 hx2_1 hk1 hk2 hk3 hk4 hk5 hk6 hi1 hi2
    have hpb := am hpb
    cases h11 : c11B i k bi bk with
    | true =>
     have hx : V = false := by rw [← HV.out, allB_of (rowB_of (by rw [hpb.out, h11]; rfl) 4 ck) 4 ci]; rfl
     have HX := am hx
     have H11 := am h11
     clear hx h11
     gi_wp2
     refine wpIn_wide.2 ?_
     refine spec_FindOrder_r11 w _ i k _ _ _ _ _ _ _ _ _ _ _ _ _ _ true H11.out hS.out hMa.out hMb.out hLa.out hLb.out _ ?_ ?_
     · intro c_ a_ b_ w_ hd_ h_
       cases a_
       cases b_
       cases hd_
       exact h_
     intro x30 x31 x32 x33 x34 x35 x36 x37 x38 x39 x40 x41 x42 x43 x44 x45 x46 x47 x48 x49 x50 x51 x52 x53 x54 x55 w5 hS5
     gi_wp2
     go_ret
     exact ⟨by rw [HX.out]; rfl, hS5.2.2⟩
    | false =>
     have H11 := am h11
     cases h13 : c13B i k bi bk with
     | true =>
      have hx : V = false := by rw [← HV.out, allB_of (rowB_of (by rw [hpb.out, h11, h13]; rfl) 4 ck) 4 ci]; rfl
      have HX := am hx
      have H13 := am h13
      clear hx h11 h13
      gi_wp2
      refine wpIn_wide.2 ?_
      refine spec_FindOrder_r11 w _ i k _ _ _ _ _ _ _ _ _ _ _ _ _ _ false H11.out hS.out hMa.out hMb.out hLa.out hLb.out _ ?_ ?_
      · intro c_ a_ b_ w_ hd_ h_
        cases a_
        cases b_
        cases hd_
        exact h_
      intro x30 x31 x32 x33 x34 x35 x36 x37 x38 x39 x40 x41 x42 x43 x44 x45 x46 x47 x48 x49 x50 x51 x52 x53 x54 x55 w5 hS5
      gi_wp2
      refine wpIn_wide.2 ?_
      refine spec_FindOrder_r13 w _ i k _ _ _ _ _ _ _ _ _ _ _ _ _ _ true H13.out hS5 hMa.out hMb.out hFa.out hFb.out _ ?_ ?_
      · intro c_ a_ b_ w_ hd_ h_
        cases a_
        cases b_
        cases hd_
        exact h_
      intro x57 x58 x59 x60 x61 x62 x63 x64 x65 x66 x67 x68 x69 x70 x71 x72 x73 x74 x75 x76 x77 x78 x79 x80 x81 x82 x83 x84 x85 x86 x87 x88 x89 x90 w6 hS6
      gi_wp2
      go_ret
      exact ⟨by rw [HX.out]; rfl, hS6.2.2⟩
     | false =>
      have H13 := am h13
      have hr2 : Aside0 (rowB l0 i (k + 1) = false) := ⟨by rw [rowB, hrow.out, hpb.out, h11, h13]; rfl⟩
      clear h11 h13
      gi_wp2
      refine wpIn_wide.2 ?_
      refine spec_FindOrder_r11 w _ i k _ _ _ _ _ _ _ _ _ _ _ _ _ _ false H11.out hS.out hMa.out hMb.out hLa.out hLb.out _ ?_ ?_
      · intro c_ a_ b_ w_ hd_ h_
        cases a_
        cases b_
        cases hd_
        exact h_
      intro x30 x31 x32 x33 x34 x35 x36 x37 x38 x39 x40 x41 x42 x43 x44 x45 x46 x47 x48 x49 x50 x51 x52 x53 x54 x55 w5 hS5
      gi_wp2
      refine wpIn_wide.2 ?_
      refine spec_FindOrder_r13 w _ i k _ _ _ _ _ _ _ _ _ _ _ _ _ _ false H13.out hS5 hMa.out hMb.out hFa.out hFb.out _ ?_ ?_
      · intro c_ a_ b_ w_ hd_ h_
        cases a_
        cases b_
        cases hd_
        exact h_
      intro x57 x58 x59 x60 x61 x62 x63 x64 x65 x66 x67 x68 x69 x70 x71 x72 x73 x74 x75 x76 x77 x78 x79 x80 x81 x82 x83 x84 x85 x86 x87 x88 x89 x90 w6 hS6
      gi_wp2
      exact ⟨⟨k + 1, by simp, by omega, hr2, ⟨hS6.2.2⟩⟩, by simp [intOf]; omega⟩
mutual
def spec_l3Last.l0 : Nat → List (S73) → Int → Int → Int → Int → Int → Int → Option (Int × Int × Int × Int × Bool)
 | 0, _, _, _, _, _, _, _ => none
 | k + 1, x0, x1, x7, x119000, x119001, x119002, x119003 => if x7 < (x0.length : Int) then (spec_l3Last.l1 k x0 x1 x7 0 x119000 x119001 x119002 x119003) else (some (x119000, x119001, x119002, x119003, decide (x119001 > 0)))
def spec_l3Last.l1 : Nat → List (S73) → Int → Int → Int → Int → Int → Int → Int → Option (Int × Int × Int × Int × Bool)
 | 0, _, _, _, _, _, _, _, _ => none
 | k + 1, x0, x1, x7, x8, x119000, x119001, x119002, x119003 => if 0 ≤ x7 then (if x7 < (x0.length : Int) then (if x8 < (((rd_T73 x0 x7).f0).length : Int) then (if 0 ≤ x8 then (if ((rd_T69 ((rd_T73 x0 x7).f0) x8).f0) = 1 then (if ((rd_T69 ((rd_T73 x0 x7).f0) x8).f1.f2) = x1 then (if ((rd_T69 ((rd_T73 x0 x7).f0) x8).f1.f1) > x119001 then (spec_l3Last.l1 k x0 x1 x7 (wrap64 (x8 + 1)) ((rd_T69 ((rd_T73 x0 x7).f0) x8).f1.f0) ((rd_T69 ((rd_T73 x0 x7).f0) x8).f1.f1) ((rd_T69 ((rd_T73 x0 x7).f0) x8).f1.f2) ((rd_T69 ((rd_T73 x0 x7).f0) x8).f1.f3)) else (spec_l3Last.l1 k x0 x1 x7 (wrap64 (x8 + 1)) x119000 x119001 x119002 x119003)) else (spec_l3Last.l1 k x0 x1 x7 (wrap64 (x8 + 1)) x119000 x119001 x119002 x119003)) else (spec_l3Last.l1 k x0 x1 x7 (wrap64 (x8 + 1)) x119000 x119001 x119002 x119003)) else (none)) else (spec_l3Last.l0 k x0 x1 (wrap64 (x7 + 1)) x119000 x119001 x119002 x119003)) else (none)) else (none)
end
def spec_l3Last.f (k : Nat) (l0 : List (S73)) (a1 : Int) : Option (Int × Int × Int × Int × Bool) := spec_l3Last.l0 k l0 a1 0 0 0 0 0
theorem spec_l3Last.mono_l : ∀ k, (∀ y0 y1 y2 y3 y4 y5 y6, LeO (spec_l3Last.l0 k y0 y1 y2 y3 y4 y5 y6) (spec_l3Last.l0 (k + 1) y0 y1 y2 y3 y4 y5 y6)) ∧ (∀ y0 y1 y2 y3 y4 y5 y6 y7, LeO (spec_l3Last.l1 k y0 y1 y2 y3 y4 y5 y6 y7) (spec_l3Last.l1 (k + 1) y0 y1 y2 y3 y4 y5 y6 y7))
 | 0 => ⟨fun _ _ _ _ _ _ _ r h => by simp [spec_l3Last.l0] at h, fun _ _ _ _ _ _ _ _ r h => by simp [spec_l3Last.l1] at h⟩
 | k + 1 => by
  obtain ⟨ih0, ih1⟩ := spec_l3Last.mono_l k
  refine ⟨?_, ?_⟩
  · intro y0 y1 y2 y3 y4 y5 y6
    unfold spec_l3Last.l0
    with_reducible repeat' first | exact ih0 _ _ _ _ _ _ _ | exact ih1 _ _ _ _ _ _ _ _ | exact LeO.refl _ | exact LeO.none _ | refine LeO.ite ?_ ?_ | refine LeO.bind ?_ (fun _ => ?_)
  · intro y0 y1 y2 y3 y4 y5 y6 y7
    unfold spec_l3Last.l1
    with_reducible repeat' first | exact ih0 _ _ _ _ _ _ _ | exact ih1 _ _ _ _ _ _ _ _ | exact LeO.refl _ | exact LeO.none _ | refine LeO.ite ?_ ?_ | refine LeO.bind ?_ (fun _ => ?_)
theorem spec_l3Last.calls (k : Nat) (A0 : Option Addr) (c0 : Nat) (l0 : List (S73)) (a1 : Int) (r1 : Int) (r2 : Int) (r3 : Int) (r4 : Int) (r5 : Bool) (w : World) (hr0 : Kd.C k73 w A0 l0.length l0) (hc0 : l0.length ≤ c0) (h : spec_l3Last.f k l0 a1 = some (r1, r2, r3, r4, r5)) :
 Calls Try.prog 22 #[.slice A0 l0.length c0, .int .i64 a1] w fun e w' => e = .returned (.tuple #[.agg #[.int .i64 r1, .int .i64 r2, .int .i64 r3, .int .i64 r4], .bool r5]) ∧ Below w.heap.size w w' := by
 have hu36 := Try.underlying36
 have hu69 := Try.underlying69
 have HR0 := am hr0
 have HC0 := am hc0
 clear hr0 hc0
 have HB := am (Below.refl w.heap.size w)
 have H : (spec_l3Last.l0 k l0 a1 0 0 0 0 0) = some (r1, r2, r3, r4, r5) := h
 clear h
 have H' := am H
 clear H
 go_enter Try.func22, Try.ntmps22
 go_wp2_with (first | (refine bx 4 #[.int .i64 0, .int .i64 0, .int .i64 0, .int .i64 0] 36 rfl ?_; intro gb117 hg w3 hbox hb; have BK117 := am (hbox); have GW117 := am (ge hg (ph HB.out)); have GE117 := GW117; replace HB := am (below_step (ph HB.out) hb); clear hb hbox hg) | (refine bx 6 #[.int .i64 0, .int .i64 0, .int .i64 0, .int .i64 0] 36 rfl ?_; intro gb118 hg w4 hbox hb; have BK118 := am (hbox); have GW118 := am (ge hg (bg1 HB.out GE117.out)); have GE118 := GW118; replace HB := am (below_step (bg1 HB.out GE117.out) hb); have NB117_118 := am (nb hg (pb BK117.out)); have NB118_117 := am (Ne.symm NB117_118.out); replace BK117 := am (blk_below (pb BK117.out) hb); clear hb hbox hg; have hnb5 := NB118_117.out; have hnc5 := NB117_118.out; obtain ⟨hcz6_0, hcz6_1, hcz6_2, hcz6_3⟩ := b4 BK118.out; obtain ⟨hfz6_0, hfz6_1, hfz6_2, hfz6_3⟩ := f4 BK118.out))
 go_loopg [7] k (fun kq v7 w' => ∃ (x7_1 : Int) (x119000_1 : Int) (x119001_1 : Int) (x119002_1 : Int) (x119003_1 : Int), v7 = .int .i64 x7_1 ∧ Aside0 (spec_l3Last.l0 kq l0 a1 x7_1 x119000_1 x119001_1 x119002_1 x119003_1 = some (r1, r2, r3, r4, r5)) ∧ Aside0 (kq ≤ k) ∧ Aside0 (w'.heap[gb117]? = some (.cells #[.int .i64 0, .int .i64 0, .int .i64 0, .int .i64 0] 36 (0, 0))) ∧ Aside0 (w'.heap[gb118]? = some (.cells #[.int .i64 x119000_1, .int .i64 x119001_1, .int .i64 x119002_1, .int .i64 x119003_1] 36 (0, 0))) ∧ Aside0 (Below w.heap.size w w'))
 case atStart => exact ⟨(0), (0), (0), (0), (0), rf, H', ⟨Nat.le_refl _⟩, ⟨bf4 (pb BK117.out) NB117_118.out⟩, ⟨bp4 (pb BK118.out)⟩, ⟨bg2 HB.out GE117.out GE118.out⟩⟩
 case round =>
  clear H'
  obtain ⟨x7_1, x119000_1, x119001_1, x119002_1, x119003_1, rfl, HA, HK1, BK117, BK118, HB⟩ := hrel
  cases gk with
  | zero => exact absurd HA.out (by simp [spec_l3Last.l0])
  | succ k1 =>
   have H := HA.out
   clear HA
   simp only [spec_l3Last.l0] at H
   by_cases c7 : x7_1 < (l0.length : Int)
   rotate_left
   · rw [if_neg c7] at H
     have c7b0 := decide_eq_false c7
     clear c7
     simp only [Option.some.injEq, Prod.mk.injEq] at H
     obtain ⟨rfl, rfl, rfl, rfl, rfl⟩ := H
     try go_wp2
     replace BK117 := am (blk_drew BK117.out)
     replace BK118 := am (blk_drew BK118.out)
     replace HB := am (below_drew1 HB.out)
     refine start_ (n := 6) (S := fun w' => w'.cell? ⟨gb118, 0, none⟩ = some (.int .i64 x119000_1) ∧ w'.cell? ⟨gb118, 1, none⟩ = some (.int .i64 x119001_1) ∧ w'.cell? ⟨gb118, 2, none⟩ = some (.int .i64 x119002_1) ∧ w'.cell? ⟨gb118, 3, none⟩ = some (.int .i64 x119003_1)) (ds := []) (bt 6 0) (by kernel_rfl) rfl rfl ⟨(blk_cell BK118.out 0).trans rfl, (blk_cell BK118.out 1).trans rfl, (blk_cell BK118.out 2).trans rfl, (blk_cell BK118.out 3).trans rfl⟩ (fun hHeld => ?_)
     generalize wr.drew = w35 at BK117 BK118 HB hHeld ⊢
     refine pi_ 1 56 (bt 6 2) rfl rfl (fun _ _ _ h => h) ?_
     refine pm_ 0 55 (bt 6 3) rfl rfl (by kernel_rfl) (fun _ _ _ h => h) hHeld ?_
     refine pm_ 2 57 (bt 6 7) rfl rfl (by kernel_rfl) (fun _ _ _ h => h) hHeld ?_
     refine pi_ 3 58 (bt 6 15) rfl rfl (fun _ _ _ h => h) ?_
     refine one_ (i := 4) (N := none) (bt 6 31) rfl rfl (by kernel_rfl) (by decide) (fun K hK => ?_)
     have hs36 : w35.cell? ⟨gb117, 0, none⟩ = some (.int .i64 0) := (blk_cell BK117.out 0).trans rfl
     have hfs36 := blk_frozen BK117.out 0
     have hns36_1 := NB118_117.out
     have hms36_1 := NB117_118.out
     have hs37 : w35.cell? ⟨gb117, 1, none⟩ = some (.int .i64 0) := (blk_cell BK117.out 1).trans rfl
     have hfs37 := blk_frozen BK117.out 1
     have hns37_1 := NB118_117.out
     have hms37_1 := NB117_118.out
     have hs38 : w35.cell? ⟨gb117, 2, none⟩ = some (.int .i64 0) := (blk_cell BK117.out 2).trans rfl
     have hfs38 := blk_frozen BK117.out 2
     have hns38_1 := NB118_117.out
     have hms38_1 := NB117_118.out
     have hs39 : w35.cell? ⟨gb117, 3, none⟩ = some (.int .i64 0) := (blk_cell BK117.out 3).trans rfl
     have hfs39 := blk_frozen BK117.out 3
     have hns39_1 := NB118_117.out
     have hms39_1 := NB117_118.out
     refine qs rfl ?_
     refine hK.out _ _ ⟨((cell_far (p := ⟨gb117, _, none⟩) NB118_117.out _).trans (((cell_far (p := ⟨gb117, _, none⟩) NB118_117.out _).trans (((cell_far (p := ⟨gb117, _, none⟩) NB118_117.out _).trans (((cell_far (p := ⟨gb117, _, none⟩) NB118_117.out _).trans (hHeld.1)))))))), ((cell_far (p := ⟨gb117, _, none⟩) NB118_117.out _).trans (((cell_far (p := ⟨gb117, _, none⟩) NB118_117.out _).trans (((cell_far (p := ⟨gb117, _, none⟩) NB118_117.out _).trans (((cell_far (p := ⟨gb117, _, none⟩) NB118_117.out _).trans (hHeld.2.1)))))))), ((cell_far (p := ⟨gb117, _, none⟩) NB118_117.out _).trans (((cell_far (p := ⟨gb117, _, none⟩) NB118_117.out _).trans (((cell_far (p := ⟨gb117, _, none⟩) NB118_117.out _).trans (((cell_far (p := ⟨gb117, _, none⟩) NB118_117.out _).trans (hHeld.2.2.1)))))))), ((cell_far (p := ⟨gb117, _, none⟩) NB118_117.out _).trans (((cell_far (p := ⟨gb117, _, none⟩) NB118_117.out _).trans (((cell_far (p := ⟨gb117, _, none⟩) NB118_117.out _).trans (((cell_far (p := ⟨gb117, _, none⟩) NB118_117.out _).trans (hHeld.2.2.2))))))))⟩ (fun hHeld => ?_)
     clear hK K
     refine pi_ 5 5 (bt 6 63) rfl rfl (fun _ _ _ h => h) ?_
     refine done_ (by kernel_rfl) ?_
     try go_wp2
     refine bodyPost_ret (results_ct rfl _ _ gb117 36 #[.int .i64 x119000_1, .int .i64 x119001_1, .int .i64 x119002_1, .int .i64 x119003_1] (0, 0) _ rfl (bp4 (pb BK117.out)) Try.underlying36 rfl (by kernel_rfl)) rfl ?_
     exact (rq (bg2 HB.out GE117.out GE118.out))
   rw [if_pos c7] at H
   have c7b0 := decide_eq_true c7
   clear c7
   have H' := am H
   clear H
   go_wp2
   go_loopg [8] k1 (fun kq v8 w' => ∃ (x8_2 : Int) (x119000_2 : Int) (x119001_2 : Int) (x119002_2 : Int) (x119003_2 : Int), v8 = .int .i64 x8_2 ∧ Aside0 (spec_l3Last.l1 kq l0 a1 x7_1 x8_2 x119000_2 x119001_2 x119002_2 x119003_2 = some (r1, r2, r3, r4, r5)) ∧ Aside0 (kq ≤ k1) ∧ Aside0 (w'.heap[gb117]? = some (.cells #[.int .i64 0, .int .i64 0, .int .i64 0, .int .i64 0] 36 (0, 0))) ∧ Aside0 (w'.heap[gb118]? = some (.cells #[.int .i64 x119000_2, .int .i64 x119001_2, .int .i64 x119002_2, .int .i64 x119003_2] 36 (0, 0))) ∧ Aside0 (Below w.heap.size w w'))
   case atStart => exact ⟨(0), (x119000_1), (x119001_1), (x119002_1), (x119003_1), rf, H', ⟨Nat.le_refl _⟩, ⟨pb BK117.out⟩, ⟨pb BK118.out⟩, ⟨bg2 HB.out GE117.out GE118.out⟩⟩
   case round =>
    clear H'
    obtain ⟨x8_2, x119000_2, x119001_2, x119002_2, x119003_2, rfl, HA, HK2, BK117, BK118, HB⟩ := hrel
    cases gk with
    | zero => exact absurd HA.out (by simp [spec_l3Last.l1])
    | succ k2 =>
     have H := HA.out
     clear HA
     simp only [spec_l3Last.l1] at H
     obtain ⟨c8b0, H⟩ := ifd H
     obtain ⟨c9b0, H⟩ := ifd H
     by_cases c10 : x8_2 < (((rd_T73 l0 x7_1).f0).length : Int)
     rotate_left
     · rw [if_neg c10] at H
       have c10b0 := decide_eq_false c10
       clear c10
       have H' := am H
       clear H
       have p119 : 0 ≤ (x7_1 : Int) := ofb
       have q119 : x7_1 < (l0.length : Int) := ofb
       obtain ⟨ad119, A119_0, c119_0, e119, hx119_0, hx119_1, hl119_0, hi119_0⟩ := at_T73 HR0.out x7_1 p119 q119
       cases e119
       replace hx119_0 := up HB.out hx119_0
       replace hx119_1 := up HB.out hx119_1
       have HR119_0 := am hi119_0
       have HC119_0 := am hl119_0
       clear hi119_0 hl119_0
       replace p119 := eq_true p119
       replace q119 := eq_true q119
       go_wp2
       go_roundg k2
       case measure => have := HK1.out; have := HK2.out; omega
       case rel => exact ⟨(wrap64 (x7_1 + 1)), (x119000_2), (x119001_2), (x119002_2), (x119003_2), rf, H', ⟨by have := HK1.out; have := HK2.out; omega⟩, ⟨pb BK117.out⟩, ⟨pb BK118.out⟩, ⟨bg2 HB.out GE117.out GE118.out⟩⟩
     rw [if_pos c10] at H
     have c10b0 := decide_eq_true c10
     clear c10
     obtain ⟨c11b0, H⟩ := ifd H
     by_cases c12 : ((rd_T69 ((rd_T73 l0 x7_1).f0) x8_2).f0) = 1
     rotate_left
     · rw [if_neg c12] at H
       have c12b0 : (((rd_T69 ((rd_T73 l0 x7_1).f0) x8_2).f0) == 1) = false := beq_eq_false_iff_ne.mpr c12
       have c12b1 : (((rd_T69 ((rd_T73 l0 x7_1).f0) x8_2).f0) != 1) = true := bne_iff_ne.mpr c12
       have H' := am H
       clear H
       have p119 : 0 ≤ (x7_1 : Int) := ofb
       have q119 : x7_1 < (l0.length : Int) := ofb
       obtain ⟨ad119, A119_0, c119_0, e119, hx119_0, hx119_1, hl119_0, hi119_0⟩ := at_T73 HR0.out x7_1 p119 q119
       cases e119
       replace hx119_0 := up HB.out hx119_0
       replace hx119_1 := up HB.out hx119_1
       have HR119_0 := am hi119_0
       have HC119_0 := am hl119_0
       clear hi119_0 hl119_0
       replace p119 := eq_true p119
       replace q119 := eq_true q119
       have p120 : 0 ≤ (x7_1 : Int) := ofb
       have q120 : x7_1 < (l0.length : Int) := ofb
       obtain ⟨ad120, A120_0, c120_0, e120, hx120_0, hx120_1, hl120_0, hi120_0⟩ := at_T73 HR0.out x7_1 p120 q120
       obtain rfl : ad119 = ad120 := (by injection e120)
       replace hx120_0 := up HB.out hx120_0
       replace hx120_1 := up HB.out hx120_1
       have HR120_0 := am hi120_0
       have HC120_0 := am hl120_0
       clear hi120_0 hl120_0
       replace p120 := eq_true p120
       replace q120 := eq_true q120
       have ea_ := Option.some.inj (hx119_0.symm.trans hx120_0)
       injection ea_ with ea_ en_ ec_
       subst ea_
       subst ec_
       clear en_
       have p121 : 0 ≤ (x8_2 : Int) := ofb
       have q121 : x8_2 < (((rd_T73 l0 x7_1).f0).length : Int) := ofb
       obtain ⟨ad121, e121, hx121_0, hx121_1, hx121_2, hx121_3, hx121_4⟩ := at_T69 HR120_0.out x8_2 p121 q121
       cases e121
       replace hx121_0 := up HB.out hx121_0
       replace hx121_1 := up HB.out hx121_1
       replace hx121_2 := up HB.out hx121_2
       replace hx121_3 := up HB.out hx121_3
       replace hx121_4 := up HB.out hx121_4
       replace p121 := eq_true p121
       replace q121 := eq_true q121
       go_wp2_with (first | (refine bx 9 #[.int .i64 0, .int .i64 0, .int .i64 0, .int .i64 0, .int .i64 0] 69 rfl ?_; intro gb122 hg w31 hbox hb; have BK122 := am (hbox); have GW122 := am (ge hg (bg2 HB.out GE117.out GE118.out)); have GE122 := GW122; replace HB := am (below_step (bg2 HB.out GE117.out GE118.out) hb); have NB117_122 := am (nb hg (pb BK117.out)); have NB122_117 := am (Ne.symm NB117_122.out); replace BK117 := am (blk_below (pb BK117.out) hb); have NB118_122 := am (nb hg (pb BK118.out)); have NB122_118 := am (Ne.symm NB118_122.out); replace BK118 := am (blk_below (pb BK118.out) hb); clear hb hbox hg; have hnb32 := NB122_117.out; have hnc32 := NB117_122.out; have hnb33 := NB122_118.out; have hnc33 := NB118_122.out; obtain ⟨hcz34_0, hcz34_1, hcz34_2, hcz34_3, hcz34_4⟩ := b5 BK122.out; obtain ⟨hfz34_0, hfz34_1, hfz34_2, hfz34_3, hfz34_4⟩ := f5 BK122.out))
       go_roundg k2
       case measure => have := HK1.out; have := HK2.out; omega
       case rel => exact ⟨(wrap64 (x8_2 + 1)), (x119000_2), (x119001_2), (x119002_2), (x119003_2), rf, H', ⟨by have := HK1.out; have := HK2.out; omega⟩, ⟨bf5 (pb BK117.out) NB117_122.out⟩, ⟨bf5 (pb BK118.out) NB118_122.out⟩, ⟨bg3 HB.out GE117.out GE118.out GE122.out⟩⟩
     rw [if_pos c12] at H
     have c12b0 : (((rd_T69 ((rd_T73 l0 x7_1).f0) x8_2).f0) == 1) = true := beq_iff_eq.mpr c12
     have c12b1 : (((rd_T69 ((rd_T73 l0 x7_1).f0) x8_2).f0) != 1) = false := bne_eq_false_iff_eq.mpr c12
     clear c12
     by_cases c13 : ((rd_T69 ((rd_T73 l0 x7_1).f0) x8_2).f1.f2) = a1
     rotate_left
     · rw [if_neg c13] at H
       have c13b0 : (((rd_T69 ((rd_T73 l0 x7_1).f0) x8_2).f1.f2) == a1) = false := beq_eq_false_iff_ne.mpr c13
       have c13b1 : (((rd_T69 ((rd_T73 l0 x7_1).f0) x8_2).f1.f2) != a1) = true := bne_iff_ne.mpr c13
       have H' := am H
       clear H
       have p119 : 0 ≤ (x7_1 : Int) := ofb
       have q119 : x7_1 < (l0.length : Int) := ofb
       obtain ⟨ad119, A119_0, c119_0, e119, hx119_0, hx119_1, hl119_0, hi119_0⟩ := at_T73 HR0.out x7_1 p119 q119
       cases e119
       replace hx119_0 := up HB.out hx119_0
       replace hx119_1 := up HB.out hx119_1
       have HR119_0 := am hi119_0
       have HC119_0 := am hl119_0
       clear hi119_0 hl119_0
       replace p119 := eq_true p119
       replace q119 := eq_true q119
       have p120 : 0 ≤ (x7_1 : Int) := ofb
       have q120 : x7_1 < (l0.length : Int) := ofb
       obtain ⟨ad120, A120_0, c120_0, e120, hx120_0, hx120_1, hl120_0, hi120_0⟩ := at_T73 HR0.out x7_1 p120 q120
       obtain rfl : ad119 = ad120 := (by injection e120)
       replace hx120_0 := up HB.out hx120_0
       replace hx120_1 := up HB.out hx120_1
       have HR120_0 := am hi120_0
       have HC120_0 := am hl120_0
       clear hi120_0 hl120_0
       replace p120 := eq_true p120
       replace q120 := eq_true q120
       have ea_ := Option.some.inj (hx119_0.symm.trans hx120_0)
       injection ea_ with ea_ en_ ec_
       subst ea_
       subst ec_
       clear en_
       have p121 : 0 ≤ (x8_2 : Int) := ofb
       have q121 : x8_2 < (((rd_T73 l0 x7_1).f0).length : Int) := ofb
       obtain ⟨ad121, e121, hx121_0, hx121_1, hx121_2, hx121_3, hx121_4⟩ := at_T69 HR120_0.out x8_2 p121 q121
       cases e121
       replace hx121_0 := up HB.out hx121_0
       replace hx121_1 := up HB.out hx121_1
       replace hx121_2 := up HB.out hx121_2
       replace hx121_3 := up HB.out hx121_3
       replace hx121_4 := up HB.out hx121_4
       replace p121 := eq_true p121
       replace q121 := eq_true q121
       go_wp2_with (first | (refine bx 9 #[.int .i64 0, .int .i64 0, .int .i64 0, .int .i64 0, .int .i64 0] 69 rfl ?_; intro gb122 hg w27 hbox hb; have BK122 := am (hbox); have GW122 := am (ge hg (bg2 HB.out GE117.out GE118.out)); have GE122 := GW122; replace HB := am (below_step (bg2 HB.out GE117.out GE118.out) hb); have NB117_122 := am (nb hg (pb BK117.out)); have NB122_117 := am (Ne.symm NB117_122.out); replace BK117 := am (blk_below (pb BK117.out) hb); have NB118_122 := am (nb hg (pb BK118.out)); have NB122_118 := am (Ne.symm NB118_122.out); replace BK118 := am (blk_below (pb BK118.out) hb); clear hb hbox hg; have hnb28 := NB122_117.out; have hnc28 := NB117_122.out; have hnb29 := NB122_118.out; have hnc29 := NB118_122.out; obtain ⟨hcz30_0, hcz30_1, hcz30_2, hcz30_3, hcz30_4⟩ := b5 BK122.out; obtain ⟨hfz30_0, hfz30_1, hfz30_2, hfz30_3, hfz30_4⟩ := f5 BK122.out))
       go_roundg k2
       case measure => have := HK1.out; have := HK2.out; omega
       case rel => exact ⟨(wrap64 (x8_2 + 1)), (x119000_2), (x119001_2), (x119002_2), (x119003_2), rf, H', ⟨by have := HK1.out; have := HK2.out; omega⟩, ⟨bf5 (pb BK117.out) NB117_122.out⟩, ⟨bf5 (pb BK118.out) NB118_122.out⟩, ⟨bg3 HB.out GE117.out GE118.out GE122.out⟩⟩
     rw [if_pos c13] at H
     have c13b0 : (((rd_T69 ((rd_T73 l0 x7_1).f0) x8_2).f1.f2) == a1) = true := beq_iff_eq.mpr c13
     have c13b1 : (((rd_T69 ((rd_T73 l0 x7_1).f0) x8_2).f1.f2) != a1) = false := bne_eq_false_iff_eq.mpr c13
     clear c13
     by_cases c14 : ((rd_T69 ((rd_T73 l0 x7_1).f0) x8_2).f1.f1) > x119001_2
     rotate_left
     · rw [if_neg c14] at H
       have c14b0 := decide_eq_false c14
       clear c14
       have H' := am H
       clear H
       have p119 : 0 ≤ (x7_1 : Int) := ofb
       have q119 : x7_1 < (l0.length : Int) := ofb
       obtain ⟨ad119, A119_0, c119_0, e119, hx119_0, hx119_1, hl119_0, hi119_0⟩ := at_T73 HR0.out x7_1 p119 q119
       cases e119
       replace hx119_0 := up HB.out hx119_0
       replace hx119_1 := up HB.out hx119_1
       have HR119_0 := am hi119_0
       have HC119_0 := am hl119_0
       clear hi119_0 hl119_0
       replace p119 := eq_true p119
       replace q119 := eq_true q119
       have p120 : 0 ≤ (x7_1 : Int) := ofb
       have q120 : x7_1 < (l0.length : Int) := ofb
       obtain ⟨ad120, A120_0, c120_0, e120, hx120_0, hx120_1, hl120_0, hi120_0⟩ := at_T73 HR0.out x7_1 p120 q120
       obtain rfl : ad119 = ad120 := (by injection e120)
       replace hx120_0 := up HB.out hx120_0
       replace hx120_1 := up HB.out hx120_1
       have HR120_0 := am hi120_0
       have HC120_0 := am hl120_0
       clear hi120_0 hl120_0
       replace p120 := eq_true p120
       replace q120 := eq_true q120
       have ea_ := Option.some.inj (hx119_0.symm.trans hx120_0)
       injection ea_ with ea_ en_ ec_
       subst ea_
       subst ec_
       clear en_
       have p121 : 0 ≤ (x8_2 : Int) := ofb
       have q121 : x8_2 < (((rd_T73 l0 x7_1).f0).length : Int) := ofb
       obtain ⟨ad121, e121, hx121_0, hx121_1, hx121_2, hx121_3, hx121_4⟩ := at_T69 HR120_0.out x8_2 p121 q121
       cases e121
       replace hx121_0 := up HB.out hx121_0
       replace hx121_1 := up HB.out hx121_1
       replace hx121_2 := up HB.out hx121_2
       replace hx121_3 := up HB.out hx121_3
       replace hx121_4 := up HB.out hx121_4
       replace p121 := eq_true p121
       replace q121 := eq_true q121
       go_wp2_with (first | (refine bx 9 #[.int .i64 0, .int .i64 0, .int .i64 0, .int .i64 0, .int .i64 0] 69 rfl ?_; intro gb122 hg w21 hbox hb; have BK122 := am (hbox); have GW122 := am (ge hg (bg2 HB.out GE117.out GE118.out)); have GE122 := GW122; replace HB := am (below_step (bg2 HB.out GE117.out GE118.out) hb); have NB117_122 := am (nb hg (pb BK117.out)); have NB122_117 := am (Ne.symm NB117_122.out); replace BK117 := am (blk_below (pb BK117.out) hb); have NB118_122 := am (nb hg (pb BK118.out)); have NB122_118 := am (Ne.symm NB118_122.out); replace BK118 := am (blk_below (pb BK118.out) hb); clear hb hbox hg; have hnb22 := NB122_117.out; have hnc22 := NB117_122.out; have hnb23 := NB122_118.out; have hnc23 := NB118_122.out; obtain ⟨hcz24_0, hcz24_1, hcz24_2, hcz24_3, hcz24_4⟩ := b5 BK122.out; obtain ⟨hfz24_0, hfz24_1, hfz24_2, hfz24_3, hfz24_4⟩ := f5 BK122.out; have hnb25 := NB118_117.out; have hnc25 := NB117_118.out; obtain ⟨hcz26_0, hcz26_1, hcz26_2, hcz26_3⟩ := b4 BK118.out; obtain ⟨hfz26_0, hfz26_1, hfz26_2, hfz26_3⟩ := f4 BK118.out))
       go_roundg k2
       case measure => have := HK1.out; have := HK2.out; omega
       case rel => exact ⟨(wrap64 (x8_2 + 1)), (x119000_2), (x119001_2), (x119002_2), (x119003_2), rf, H', ⟨by have := HK1.out; have := HK2.out; omega⟩, ⟨bf5 (pb BK117.out) NB117_122.out⟩, ⟨bf5 (pb BK118.out) NB118_122.out⟩, ⟨bg3 HB.out GE117.out GE118.out GE122.out⟩⟩
     rw [if_pos c14] at H
     have c14b0 := decide_eq_true c14
     clear c14
     have H' := am H
     clear H
     have p119 : 0 ≤ (x7_1 : Int) := ofb
     have q119 : x7_1 < (l0.length : Int) := ofb
     obtain ⟨ad119, A119_0, c119_0, e119, hx119_0, hx119_1, hl119_0, hi119_0⟩ := at_T73 HR0.out x7_1 p119 q119
     cases e119
     replace hx119_0 := up HB.out hx119_0
     replace hx119_1 := up HB.out hx119_1
     have HR119_0 := am hi119_0
     have HC119_0 := am hl119_0
     clear hi119_0 hl119_0
     replace p119 := eq_true p119
     replace q119 := eq_true q119
     have p120 : 0 ≤ (x7_1 : Int) := ofb
     have q120 : x7_1 < (l0.length : Int) := ofb
     obtain ⟨ad120, A120_0, c120_0, e120, hx120_0, hx120_1, hl120_0, hi120_0⟩ := at_T73 HR0.out x7_1 p120 q120
     obtain rfl : ad119 = ad120 := (by injection e120)
     replace hx120_0 := up HB.out hx120_0
     replace hx120_1 := up HB.out hx120_1
     have HR120_0 := am hi120_0
     have HC120_0 := am hl120_0
     clear hi120_0 hl120_0
     replace p120 := eq_true p120
     replace q120 := eq_true q120
     have ea_ := Option.some.inj (hx119_0.symm.trans hx120_0)
     injection ea_ with ea_ en_ ec_
     subst ea_
     subst ec_
     clear en_
     have p121 : 0 ≤ (x8_2 : Int) := ofb
     have q121 : x8_2 < (((rd_T73 l0 x7_1).f0).length : Int) := ofb
     obtain ⟨ad121, e121, hx121_0, hx121_1, hx121_2, hx121_3, hx121_4⟩ := at_T69 HR120_0.out x8_2 p121 q121
     cases e121
     replace hx121_0 := up HB.out hx121_0
     replace hx121_1 := up HB.out hx121_1
     replace hx121_2 := up HB.out hx121_2
     replace hx121_3 := up HB.out hx121_3
     replace hx121_4 := up HB.out hx121_4
     replace p121 := eq_true p121
     replace q121 := eq_true q121
     go_wp2_with (first | (refine bx 9 #[.int .i64 0, .int .i64 0, .int .i64 0, .int .i64 0, .int .i64 0] 69 rfl ?_; intro gb122 hg w15 hbox hb; have BK122 := am (hbox); have GW122 := am (ge hg (bg2 HB.out GE117.out GE118.out)); have GE122 := GW122; replace HB := am (below_step (bg2 HB.out GE117.out GE118.out) hb); have NB117_122 := am (nb hg (pb BK117.out)); have NB122_117 := am (Ne.symm NB117_122.out); replace BK117 := am (blk_below (pb BK117.out) hb); have NB118_122 := am (nb hg (pb BK118.out)); have NB122_118 := am (Ne.symm NB118_122.out); replace BK118 := am (blk_below (pb BK118.out) hb); clear hb hbox hg; have hnb16 := NB122_117.out; have hnc16 := NB117_122.out; have hnb17 := NB122_118.out; have hnc17 := NB118_122.out; obtain ⟨hcz18_0, hcz18_1, hcz18_2, hcz18_3, hcz18_4⟩ := b5 BK122.out; obtain ⟨hfz18_0, hfz18_1, hfz18_2, hfz18_3, hfz18_4⟩ := f5 BK122.out; have hnb19 := NB118_117.out; have hnc19 := NB117_118.out; obtain ⟨hcz20_0, hcz20_1, hcz20_2, hcz20_3⟩ := b4 BK118.out; obtain ⟨hfz20_0, hfz20_1, hfz20_2, hfz20_3⟩ := f4 BK118.out))
     go_roundg k2
     case measure => have := HK1.out; have := HK2.out; omega
     case rel => exact ⟨(wrap64 (x8_2 + 1)), ((rd_T69 ((rd_T73 l0 x7_1).f0) x8_2).f1.f0), ((rd_T69 ((rd_T73 l0 x7_1).f0) x8_2).f1.f1), ((rd_T69 ((rd_T73 l0 x7_1).f0) x8_2).f1.f2), ((rd_T69 ((rd_T73 l0 x7_1).f0) x8_2).f1.f3), rf, H', ⟨by have := HK1.out; have := HK2.out; omega⟩, ⟨bf4 (bf5 (pb BK117.out) NB117_122.out) NB117_118.out⟩, ⟨bp4 (bf5 (pb BK118.out) NB118_122.out)⟩, ⟨bg3 HB.out GE117.out GE118.out GE122.out⟩⟩
attribute [local go_sem] Oper.semAt_some
mutual
def spec_StoreOk.j0 : Nat → Bool → List (S73) → List Int → Option (Bool)
 | 0, _, _, _ => none
 | k + 1, x15, x230000, x230001 => if x15 = true then (some false) else (spec_StoreOk.l0 k 0 x230000 x230001)
def spec_StoreOk.l0 : Nat → Int → List (S73) → List Int → Option (Bool)
 | 0, _, _, _ => none
 | k + 1, x3, x230000, x230001 => if x3 < 6 then ((spec_l3Last.f k x230000 (wrap64 (x3 + 1))).bind fun bt231 => (if 0 ≤ x3 then (if x3 < (x230001.length : Int) then ((spec_l6In.f (rd x230001 x3) 0 9).bind fun t238 => (if t238 = true then (if bt231.2.2.2.2 = true then (if bt231.1 = 2 then (if bt231.2.2.2.1 = (rd x230001 x3) then (spec_StoreOk.l0 k (wrap64 (x3 + 1)) x230000 x230001) else (some false)) else (spec_StoreOk.l0 k (wrap64 (x3 + 1)) x230000 x230001)) else (spec_StoreOk.l0 k (wrap64 (x3 + 1)) x230000 x230001)) else (some false))) else (none)) else (none))) else (some true)
end
def spec_StoreOk.f (k : Nat) (l0_0 : List (S73)) (l0_1 : List Int) : Option (Bool) := (spec_FindOrder.f l0_0).bind fun t230 => (if t230 = true then (spec_StoreOk.j0 k ((l0_1.length : Int) != 6) l0_0 l0_1) else (spec_StoreOk.j0 k true l0_0 l0_1))
def StS (w : World) (g : Nat) (A0 : Option Addr) (n0 c0 : Nat) (A1 : Option Addr) (c1 : Nat) (ad : Addr) (d : Int) (b : Nat) (q1 q2 q3 q4 : Int) (W : World) : Prop :=
 W.cell? ⟨b, 1, none⟩ = some (.slice A1 6 c1) ∧ W.cell? ⟨g, 0, none⟩ = some (.int .i64 q1) ∧ W.cell? ⟨g, 3, none⟩ = some (.int .i64 q4) ∧ W.cell? ad = some (.int .i64 d) ∧
 W.heap[b]? = some (.cells #[.slice A0 n0 c0, .slice A1 6 c1] 26 (0, 0)) ∧ W.heap[g]? = some (.cells #[.int .i64 q1, .int .i64 q2, .int .i64 q3, .int .i64 q4] 36 (0, 0)) ∧ Below w.heap.size w W
section
variable {w : World} {g : Nat} {A0 : Option Addr} {n0 c0 : Nat} {A1 : Option Addr} {c1 : Nat} {ad : Addr} {d : Int} {b : Nat} {q1 q2 q3 q4 : Int} {W W' : World}
theorem stStep (h : StS w g A0 n0 c0 A1 c1 ad d b q1 q2 q3 q4 W) (hb : Below W.heap.size W W') : StS w g A0 n0 c0 A1 c1 ad d b q1 q2 q3 q4 W' := by
 obtain ⟨_, _, _, h4, h5, h6, h7⟩ := h
 have h5 := blk_below h5 hb
 have h6 := blk_below h6 hb
 exact ⟨(blk_cell h5 1).trans rfl, (blk_cell h6 0).trans rfl, (blk_cell h6 3).trans rfl, up hb h4, h5, h6, below_then h7 h7.size hb⟩
theorem stC (h : StS w g A0 n0 c0 A1 c1 ad d b q1 q2 q3 q4 W) : W.cell? ⟨b, 1, none⟩ = some (.slice A1 6 c1) ∧ W.cell? ad = some (.int .i64 d) := ⟨h.1, h.2.2.2.1⟩
theorem stG (h : StS w g A0 n0 c0 A1 c1 ad d b q1 q2 q3 q4 W) : W.cell? ⟨g, 0, none⟩ = some (.int .i64 q1) ∧ W.cell? ⟨g, 3, none⟩ = some (.int .i64 q4) := ⟨h.2.1, h.2.2.1⟩
theorem stDrew (h : StS w g A0 n0 c0 A1 c1 ad d b q1 q2 q3 q4 W) : StS w g A0 n0 c0 A1 c1 ad d b q1 q2 q3 q4 W.drew := stStep h (below_drew (Below.refl _ _))
end
theorem spec_StoreOk.calls (k : Nat) (A0_0 : Option Addr) (c0_0 : Nat) (l0_0 : List (S73)) (A0_1 : Option Addr) (c0_1 : Nat) (l0_1 : List Int) (r : Bool) (w : World) (hr0_0 : Kd.C k73 w A0_0 l0_0.length l0_0) (hc0_0 : l0_0.length ≤ c0_0) (hr0_1 : Kd.C (Kd.int .i64) w A0_1 l0_1.length l0_1) (hc0_1 : l0_1.length ≤ c0_1) (h : spec_StoreOk.f k l0_0 l0_1 = some r) :
 Calls Try.prog 7 #[.agg #[.slice A0_0 l0_0.length c0_0, .slice A0_1 l0_1.length c0_1]] w fun e w' => e = .returned (.bool r) ∧ Below w.heap.size w w' := by
 refine (callsIn_wide (n := 3)).1 ?_
 have hu := Try.underlying26
 have hu2 := Try.underlying36
 have hbox := blk_new w (.cells #[.slice A0_0 l0_0.length c0_0, .slice A0_1 l0_1.length c0_1] 26)
 have hB1 := below_alloc (Below.refl _ w) (.cells #[.slice A0_0 l0_0.length c0_0, .slice A0_1 l0_1.length c0_1] 26)
 unfold spec_StoreOk.f at h
 obtain ⟨t, ht, h⟩ := Option.bind_eq_some_iff.1 h
 have hor := callsIn_wide (n := 2).2 (spec_FindOrder.calls A0_0 c0_0 l0_0 t _ (Kd.C_below hr0_0 hB1) hc0_0 ht)
 cases k with
 | zero => cases t <;> simp [spec_StoreOk.j0] at h
 | succ k =>
 cases t with
 | false =>
  rw [if_neg (by simp), spec_StoreOk.j0, if_pos rfl] at h
  obtain rfl := Option.some.inj h
  clear h ht
  refine callsIn_of_wp Try.func7 rfl trivial ?_ rfl
  simp only [Try.ntmps7, List.size_toArray, List.length_cons, List.length_nil, Nat.reduceAdd, Nat.reduceSub, Array.replicate_succ, Array.replicate_zero, List.push_toArray, List.append_toArray, List.nil_append, List.cons_append]
  gi_wp2_with (first | (refine ⟨trivial, ?_⟩; gi_at_call 21; refine hor.mono ?_; rintro e w1 ⟨rfl, hb⟩; have hB2 := below_then hB1 hB1.size hb))
  go_ret
  exact ⟨rfl, hB2⟩
 | true =>
 rw [if_pos rfl, spec_StoreOk.j0] at h
 by_cases c6 : (l0_1.length : Int) = 6
 rotate_left
 · have c6b : ((l0_1.length : Int) != 6) = true := by simp [c6]
   rw [c6b, if_pos rfl] at h
   obtain rfl := Option.some.inj h
   clear h ht c6
   refine callsIn_of_wp Try.func7 rfl trivial ?_ rfl
   simp only [Try.ntmps7, List.size_toArray, List.length_cons, List.length_nil, Nat.reduceAdd, Nat.reduceSub, Array.replicate_succ, Array.replicate_zero, List.push_toArray, List.append_toArray, List.nil_append, List.cons_append]
   gi_wp2_with (first | (refine ⟨trivial, ?_⟩; gi_at_call 21; refine hor.mono ?_; rintro e w1 ⟨rfl, hb⟩; have hbx := blk_below hbox hb; have hB2 := below_then hB1 hB1.size hb; have hq1 : w1.cell? ⟨w.heap.size, 1, none⟩ = some (.slice A0_1 l0_1.length c0_1) := (blk_cell hbx 1).trans rfl))
   go_ret
   exact ⟨rfl, hB2⟩
 · have c6b : ((l0_1.length : Int) != 6) = false := by simp [c6]
   rw [c6b, if_neg (by simp)] at h
   have H := am h
   have hl : l0_1.length = 6 := by omega
   clear h ht c6 c6b
   rw [hl] at hbox hB1 hor ⊢
   have hl3 : ∀ (W : World) (kk : Nat) (a q1 q2 q3 q4 : Int) (q5 : Bool), Below w.heap.size w W → spec_l3Last.f kk l0_0 a = some (q1, q2, q3, q4, q5) → CallsIn Fence.wide 2 Try.prog 22 #[.slice A0_0 l0_0.length c0_0, .int .i64 a] W fun e w' => e = .returned (.tuple #[.agg #[.int .i64 q1, .int .i64 q2, .int .i64 q3, .int .i64 q4], .bool q5]) ∧ Below W.heap.size W w' := fun W kk a q1 q2 q3 q4 q5 hb hq => callsIn_wide.2 (spec_l3Last.calls kk A0_0 c0_0 l0_0 a q1 q2 q3 q4 q5 W (Kd.C_below hr0_0 hb) hc0_0 hq)
   refine callsIn_of_wp Try.func7 rfl trivial ?_ rfl
   simp only [Try.ntmps7, List.size_toArray, List.length_cons, List.length_nil, Nat.reduceAdd, Nat.reduceSub, Array.replicate_succ, Array.replicate_zero, List.push_toArray, List.append_toArray, List.nil_append, List.cons_append]
   gi_wp2_with (first | (refine ⟨trivial, ?_⟩; gi_at_call 21; refine hor.mono ?_; rintro e w1 ⟨rfl, hb⟩; have hbx := blk_below hbox hb; have hB2 := below_then hB1 hB1.size hb; have hq1 : w1.cell? ⟨w.heap.size, 1, none⟩ = some (.slice A0_1 6 c0_1) := (blk_cell hbx 1).trans rfl))
   clear hor hq1 hbox hB1 hb
   gi_loopw [3] (fun v3 wr => ∃ (i kq : Nat), v3 = .int .i64 (i : Int) ∧ i ≤ 6 ∧ Aside0 (spec_StoreOk.l0 kq (i : Int) l0_0 l0_1 = some r) ∧ Aside0 (wr.heap[w.heap.size]? = some (.cells #[.slice A0_0 l0_0.length c0_0, .slice A0_1 6 c0_1] 26 (0, 0))) ∧ Aside0 (Below w.heap.size w wr)) (fun v3 _ => 6 - (intOf v3).toNat)
   case atStart => exact ⟨0, k, rfl, by omega, H, ⟨hbx⟩, ⟨hB2⟩⟩
   case round =>
    clear H hbx hB2
    obtain ⟨i, kq, rfl, hi, HA, hX, hB⟩ := hrel
    cases kq with
    | zero => exact absurd HA.out (by simp [spec_StoreOk.l0])
    | succ k1 =>
    have h := HA.out
    clear HA
    rw [spec_StoreOk.l0] at h
    by_cases ci : i < 6
    rotate_left
    · obtain rfl : i = 6 := by omega
      rw [if_neg (by omega)] at h
      obtain rfl := Option.some.inj h
      clear h
      gi_wp2
      go_ret
      exact ⟨rfl, hB.out⟩
    · have cib : decide ((i : Int) < 6) = true := decide_eq_true (by omega)
      have p1 : 0 ≤ (i : Int) := by omega
      have q1_ : (i : Int) < 6 := by omega
      rw [if_pos (by omega), IntWalk.wrap64_in _ (by omega)] at h
      obtain ⟨⟨q1, q2, q3, q4, q5⟩, hq, h⟩ := Option.bind_eq_some_iff.1 h
      dsimp only at h
      rw [if_pos (by omega), if_pos (by omega)] at h
      obtain ⟨b6, hb6, h⟩ := Option.bind_eq_some_iff.1 h
      obtain ⟨ad1, e1, hx1⟩ := Kd.at_int hr0_1 (i : Int) p1 (by omega)
      cases e1
      simp only [Int.toNat_natCast] at hx1
      generalize rd l0_1 (i : Int) = d at hx1 h hb6
      have HX1 := am hx1
      have h6 : ∀ W, Calls Try.prog 23 #[.int .i64 d, .int .i64 0, .int .i64 9] W fun e w' => e = .returned (.bool b6) ∧ Below W.heap.size W w' := fun W => (spec_l6In.calls d 0 9 b6 W hb6).mono fun e w' h => ⟨h.1, h.2.below⟩
      have hc3 := fun W hb => hl3 W k1 _ q1 q2 q3 q4 q5 hb hq
      have HC3 := am hc3
      have HN := fun (hn : spec_StoreOk.l0 k1 ((i : Int) + 1) l0_0 l0_1 = some r) => (show spec_StoreOk.l0 k1 ((i + 1 : Nat) : Int) l0_0 l0_1 = some r from by rw [show ((i + 1 : Nat) : Int) = (i : Int) + 1 by omega]; exact hn)
      have H := am h
      have HNN := am HN
      have hcx0 : wr.cell? ⟨w.heap.size, 0, none⟩ = some (.slice A0_0 l0_0.length c0_0) := (blk_cell hX.out 0).trans rfl
      clear h hq hb6 hx1 hc3 HN hl3
      gi_wp2_with (first | (refine ⟨trivial, ?_⟩; gi_at_call 22; refine (HC3.out _ hB.out).mono ?_; rintro e w4 ⟨rfl, hb⟩; have hX4 := am (blk_below hX.out hb); have hB4 := am (below_then hB.out hB.out.size hb); have HX4 := am (up hB4.out HX1.out); clear hb hcx0))
      have hg : (w4.alloc (.cells #[.int .i64 q1, .int .i64 q2, .int .i64 q3, .int .i64 q4] 36)).heap[w4.heap.size]? = some (.cells #[.int .i64 q1, .int .i64 q2, .int .i64 q3, .int .i64 q4] 36 (0, 0)) := blk_new w4 _
      have hX5 := blk_alloc hX4.out (.cells #[.int .i64 q1, .int .i64 q2, .int .i64 q3, .int .i64 q4] 36)
      have hSt : StS w w4.heap.size A0_0 l0_0.length c0_0 (some ad1) c0_1 (ad1.add i) d w.heap.size q1 q2 q3 q4 (w4.alloc (.cells #[.int .i64 q1, .int .i64 q2, .int .i64 q3, .int .i64 q4] 36)) := ⟨(blk_cell hX5 1).trans rfl, (blk_cell hg 0).trans rfl, (blk_cell hg 3).trans rfl, up (below_alloc (Below.refl _ _) _) HX4.out, hX5, hg, below_alloc hB4.out _⟩
      have h := H.out
      clear H hX hB HC3 HX1 hg hX5 hX4 hB4 HX4
      cases b6 with
      | false =>
       rw [if_neg (by simp)] at h
       obtain rfl := Option.some.inj h
       clear h HNN
       refine wpIn_wide.2 ?_
       refine start_ (n := 25) (S := StS w w4.heap.size A0_0 l0_0.length c0_0 (some ad1) c0_1 (ad1.add i) d w.heap.size q1 q2 q3 q4) (ds := []) (bt_ 25 0) (by kernel_rfl) rfl rfl (stDrew hSt) ?_
       intro hSt
       refine pi_ 0 28 (bt_ 25 1) rfl rfl (fun _ _ _ h => h) ?_
       refine pl_ 1 29 (bt_ 25 3) rfl rfl (fun _ _ _ h => h) hSt (fun _ h => stC h) ?_
       refine pi_ 2 30 (bt_ 25 7) rfl rfl (fun _ _ _ h => h) ?_
       refine pi_ 3 31 (bt_ 25 15) rfl rfl (fun _ _ _ h => h) ?_
       refine pl_ 4 32 (bt_ 25 31) rfl rfl (fun _ _ _ h => h) hSt (fun _ h => stC h) ?_
       refine pk_ 5 33 (bt_ 25 63) rfl rfl Try.func23 #[.int .i64 d, .int .i64 0, .int .i64 9] rfl (h6 _) (fun _ h => stStep hSt h) ?_; intro w5 hSt
       refine pi_ 6 34 (bt_ 25 127) rfl rfl (fun _ _ _ h => h) ?_
       refine pi_ 7 35 (bt_ 25 255) rfl rfl (fun _ _ _ h => h) ?_
       refine pu_ 8 36 (bt_ 25 511) rfl rfl (fun _ _ _ h => h) ?_
       refine pu_ 9 37 (bt_ 25 1023) rfl rfl (fun _ _ _ h => h) ?_
       refine pu_ 10 38 (bt_ 25 2047) rfl rfl (fun _ _ _ h => h) ?_
       refine pu_ 11 39 (bt_ 25 4095) rfl rfl (fun _ _ _ h => h) ?_
       refine pu_ 12 40 (bt_ 25 8191) rfl rfl (fun _ _ _ h => h) ?_
       refine pu_ 13 41 (bt_ 25 16383) rfl rfl (fun _ _ _ h => h) ?_
       refine pu_ 14 42 (bt_ 25 32767) rfl rfl (fun _ _ _ h => h) ?_
       refine pu_ 15 43 (bt_ 25 65535) rfl rfl (fun _ _ _ h => h) ?_
       refine pu_ 16 44 (bt_ 25 131071) rfl rfl (fun _ _ _ h => h) ?_
       refine pu_ 17 45 (bt_ 25 262143) rfl rfl (fun _ _ _ h => h) ?_
       refine pu_ 18 46 (bt_ 25 524287) rfl rfl (fun _ _ _ h => h) ?_
       refine pu_ 19 47 (bt_ 25 1048575) rfl rfl (fun _ _ _ h => h) ?_
       refine pu_ 20 48 (bt_ 25 2097151) rfl rfl (fun _ _ _ h => h) ?_
       refine pu_ 21 49 (bt_ 25 4194303) rfl rfl (fun _ _ _ h => h) ?_
       refine pu_ 22 50 (bt_ 25 8388607) rfl rfl (fun _ _ _ h => h) ?_
       refine pu_ 23 51 (bt_ 25 16777215) rfl rfl (fun _ _ _ h => h) ?_
       refine pi_ 24 52 (bt_ 25 33554431) rfl rfl (fun _ _ _ h => h) ?_
       refine done_ (by kernel_rfl) ?_
       obtain ⟨_, _, _, _, _, _, hB⟩ := hSt
       gi_wp2
       go_ret
       exact ⟨rfl, hB⟩
      | true =>
       rw [if_pos rfl] at h
       cases q5 with
       | false =>
        rw [if_neg (by simp)] at h
        have HN := am (HNN.out h)
        clear h HNN
        refine wpIn_wide.2 ?_
        refine start_ (n := 25) (S := StS w w4.heap.size A0_0 l0_0.length c0_0 (some ad1) c0_1 (ad1.add i) d w.heap.size q1 q2 q3 q4) (ds := []) (bt_ 25 0) (by kernel_rfl) rfl rfl (stDrew hSt) ?_
        intro hSt
        refine pi_ 0 28 (bt_ 25 1) rfl rfl (fun _ _ _ h => h) ?_
        refine pl_ 1 29 (bt_ 25 3) rfl rfl (fun _ _ _ h => h) hSt (fun _ h => stC h) ?_
        refine pi_ 2 30 (bt_ 25 7) rfl rfl (fun _ _ _ h => h) ?_
        refine pi_ 3 31 (bt_ 25 15) rfl rfl (fun _ _ _ h => h) ?_
        refine pl_ 4 32 (bt_ 25 31) rfl rfl (fun _ _ _ h => h) hSt (fun _ h => stC h) ?_
        refine pk_ 5 33 (bt_ 25 63) rfl rfl Try.func23 #[.int .i64 d, .int .i64 0, .int .i64 9] rfl (h6 _) (fun _ h => stStep hSt h) ?_; intro w5 hSt
        refine pi_ 6 34 (bt_ 25 127) rfl rfl (fun _ _ _ h => h) ?_
        refine pi_ 7 35 (bt_ 25 255) rfl rfl (fun _ _ _ h => h) ?_
        refine pi_ 8 36 (bt_ 25 511) rfl rfl (fun _ _ _ h => h) ?_
        refine pi_ 9 37 (bt_ 25 1023) rfl rfl (fun _ _ _ h => h) ?_
        refine pu_ 10 38 (bt_ 25 2047) rfl rfl (fun _ _ _ h => h) ?_
        refine pu_ 11 39 (bt_ 25 4095) rfl rfl (fun _ _ _ h => h) ?_
        refine pu_ 12 40 (bt_ 25 8191) rfl rfl (fun _ _ _ h => h) ?_
        refine pi_ 13 41 (bt_ 25 16383) rfl rfl (fun _ _ _ h => h) ?_
        refine pi_ 14 42 (bt_ 25 32767) rfl rfl (fun _ _ _ h => h) ?_
        refine pu_ 15 43 (bt_ 25 65535) rfl rfl (fun _ _ _ h => h) ?_
        refine pu_ 16 44 (bt_ 25 131071) rfl rfl (fun _ _ _ h => h) ?_
        refine pu_ 17 45 (bt_ 25 262143) rfl rfl (fun _ _ _ h => h) ?_
        refine pu_ 18 46 (bt_ 25 524287) rfl rfl (fun _ _ _ h => h) ?_
        refine pu_ 19 47 (bt_ 25 1048575) rfl rfl (fun _ _ _ h => h) ?_
        refine pu_ 20 48 (bt_ 25 2097151) rfl rfl (fun _ _ _ h => h) ?_
        refine pu_ 21 49 (bt_ 25 4194303) rfl rfl (fun _ _ _ h => h) ?_
        refine pu_ 22 50 (bt_ 25 8388607) rfl rfl (fun _ _ _ h => h) ?_
        refine pi_ 23 51 (bt_ 25 16777215) rfl rfl (fun _ _ _ h => h) ?_
        refine pi_ 24 52 (bt_ 25 33554431) rfl rfl (fun _ _ _ h => h) ?_
        refine done_ (by kernel_rfl) ?_
        obtain ⟨_, _, _, _, hX, _, hB⟩ := hSt
        gi_wp2
        exact ⟨⟨i + 1, k1, by simp, by omega, HN, ⟨hX⟩, ⟨hB⟩⟩, by simp [intOf]; omega⟩
       | true =>
        rw [if_pos rfl] at h
        by_cases k2 : q1 = 2
        rotate_left
        · have k2b : (q1 == 2) = false := by simp [k2]
          rw [if_neg k2] at h
          have HN := am (HNN.out h)
          clear h HNN k2
          refine wpIn_wide.2 ?_
          refine start_ (n := 25) (S := StS w w4.heap.size A0_0 l0_0.length c0_0 (some ad1) c0_1 (ad1.add i) d w.heap.size q1 q2 q3 q4) (ds := []) (bt_ 25 0) (by kernel_rfl) rfl rfl (stDrew hSt) ?_
          intro hSt
          refine pi_ 0 28 (bt_ 25 1) rfl rfl (fun _ _ _ h => h) ?_
          refine pl_ 1 29 (bt_ 25 3) rfl rfl (fun _ _ _ h => h) hSt (fun _ h => stC h) ?_
          refine pi_ 2 30 (bt_ 25 7) rfl rfl (fun _ _ _ h => h) ?_
          refine pi_ 3 31 (bt_ 25 15) rfl rfl (fun _ _ _ h => h) ?_
          refine pl_ 4 32 (bt_ 25 31) rfl rfl (fun _ _ _ h => h) hSt (fun _ h => stC h) ?_
          refine pk_ 5 33 (bt_ 25 63) rfl rfl Try.func23 #[.int .i64 d, .int .i64 0, .int .i64 9] rfl (h6 _) (fun _ h => stStep hSt h) ?_; intro w5 hSt
          refine pi_ 6 34 (bt_ 25 127) rfl rfl (fun _ _ _ h => h) ?_
          refine pi_ 7 35 (bt_ 25 255) rfl rfl (fun _ _ _ h => h) ?_
          refine pi_ 8 36 (bt_ 25 511) rfl rfl (fun _ _ _ h => h) ?_
          refine pi_ 9 37 (bt_ 25 1023) rfl rfl (fun _ _ _ h => h) ?_
          refine pi_ 10 38 (bt_ 25 2047) rfl rfl (fun _ _ _ h => h) ?_
          refine pl_ 11 39 (bt_ 25 4095) rfl rfl (fun _ _ _ h => h) hSt (fun _ h => stG h) ?_
          refine pi_ 12 40 (bt_ 25 8191) rfl rfl (fun _ _ _ h => h) ?_
          refine pi_ 13 41 (bt_ 25 16383) rfl rfl (fun _ _ _ h => h) ?_
          refine pi_ 14 42 (bt_ 25 32767) rfl rfl (fun _ _ _ h => h) ?_
          refine pu_ 15 43 (bt_ 25 65535) rfl rfl (fun _ _ _ h => h) ?_
          refine pu_ 16 44 (bt_ 25 131071) rfl rfl (fun _ _ _ h => h) ?_
          refine pu_ 17 45 (bt_ 25 262143) rfl rfl (fun _ _ _ h => h) ?_
          refine pu_ 18 46 (bt_ 25 524287) rfl rfl (fun _ _ _ h => h) ?_
          refine pu_ 19 47 (bt_ 25 1048575) rfl rfl (fun _ _ _ h => h) ?_
          refine pu_ 20 48 (bt_ 25 2097151) rfl rfl (fun _ _ _ h => h) ?_
          refine pu_ 21 49 (bt_ 25 4194303) rfl rfl (fun _ _ _ h => h) ?_
          refine pu_ 22 50 (bt_ 25 8388607) rfl rfl (fun _ _ _ h => h) ?_
          refine pi_ 23 51 (bt_ 25 16777215) rfl rfl (fun _ _ _ h => h) ?_
          refine pi_ 24 52 (bt_ 25 33554431) rfl rfl (fun _ _ _ h => h) ?_
          refine done_ (by kernel_rfl) ?_
          obtain ⟨_, _, _, _, hX, _, hB⟩ := hSt
          gi_wp2
          exact ⟨⟨i + 1, k1, by simp, by omega, HN, ⟨hX⟩, ⟨hB⟩⟩, by simp [intOf]; omega⟩
        · subst k2
          rw [if_pos rfl] at h
          by_cases k3 : q4 = d
          rotate_left
          · have k3b : (q4 != d) = true := by simp [k3]
            rw [if_neg k3] at h
            obtain rfl := Option.some.inj h
            clear h HNN k3
            refine wpIn_wide.2 ?_
            refine start_ (n := 25) (S := StS w w4.heap.size A0_0 l0_0.length c0_0 (some ad1) c0_1 (ad1.add i) d w.heap.size 2 q2 q3 q4) (ds := []) (bt_ 25 0) (by kernel_rfl) rfl rfl (stDrew hSt) ?_
            intro hSt
            refine pi_ 0 28 (bt_ 25 1) rfl rfl (fun _ _ _ h => h) ?_
            refine pl_ 1 29 (bt_ 25 3) rfl rfl (fun _ _ _ h => h) hSt (fun _ h => stC h) ?_
            refine pi_ 2 30 (bt_ 25 7) rfl rfl (fun _ _ _ h => h) ?_
            refine pi_ 3 31 (bt_ 25 15) rfl rfl (fun _ _ _ h => h) ?_
            refine pl_ 4 32 (bt_ 25 31) rfl rfl (fun _ _ _ h => h) hSt (fun _ h => stC h) ?_
            refine pk_ 5 33 (bt_ 25 63) rfl rfl Try.func23 #[.int .i64 d, .int .i64 0, .int .i64 9] rfl (h6 _) (fun _ h => stStep hSt h) ?_; intro w5 hSt
            refine pi_ 6 34 (bt_ 25 127) rfl rfl (fun _ _ _ h => h) ?_
            refine pi_ 7 35 (bt_ 25 255) rfl rfl (fun _ _ _ h => h) ?_
            refine pi_ 8 36 (bt_ 25 511) rfl rfl (fun _ _ _ h => h) ?_
            refine pi_ 9 37 (bt_ 25 1023) rfl rfl (fun _ _ _ h => h) ?_
            refine pi_ 10 38 (bt_ 25 2047) rfl rfl (fun _ _ _ h => h) ?_
            refine pl_ 11 39 (bt_ 25 4095) rfl rfl (fun _ _ _ h => h) hSt (fun _ h => stG h) ?_
            refine pi_ 12 40 (bt_ 25 8191) rfl rfl (fun _ _ _ h => h) ?_
            refine pi_ 13 41 (bt_ 25 16383) rfl rfl (fun _ _ _ h => h) ?_
            refine pi_ 14 42 (bt_ 25 32767) rfl rfl (fun _ _ _ h => h) ?_
            refine pi_ 15 43 (bt_ 25 65535) rfl rfl (fun _ _ _ h => h) ?_
            refine pl_ 16 44 (bt_ 25 131071) rfl rfl (fun _ _ _ h => h) hSt (fun _ h => stG h) ?_
            refine pi_ 17 45 (bt_ 25 262143) rfl rfl (fun _ _ _ h => h) ?_
            refine pl_ 18 46 (bt_ 25 524287) rfl rfl (fun _ _ _ h => h) hSt (fun _ h => stC h) ?_
            refine pi_ 19 47 (bt_ 25 1048575) rfl rfl (fun _ _ _ h => h) ?_
            refine pi_ 20 48 (bt_ 25 2097151) rfl rfl (fun _ _ _ h => h) ?_
            refine pl_ 21 49 (bt_ 25 4194303) rfl rfl (fun _ _ _ h => h) hSt (fun _ h => stC h) ?_
            refine pi_ 22 50 (bt_ 25 8388607) rfl rfl (fun _ _ _ h => h) ?_
            refine pi_ 23 51 (bt_ 25 16777215) rfl rfl (fun _ _ _ h => h) ?_
            refine pi_ 24 52 (bt_ 25 33554431) rfl rfl (fun _ _ _ h => h) ?_
            refine done_ (by kernel_rfl) ?_
            obtain ⟨_, _, _, _, _, _, hB⟩ := hSt
            gi_wp2
            go_ret
            exact ⟨rfl, hB⟩
          have k3b : (q4 != d) = false := by simp [k3]
          rw [if_pos k3] at h
          have HN := am (HNN.out h)
          clear h HNN k3
          refine wpIn_wide.2 ?_
          refine start_ (n := 25) (S := StS w w4.heap.size A0_0 l0_0.length c0_0 (some ad1) c0_1 (ad1.add i) d w.heap.size 2 q2 q3 q4) (ds := []) (bt_ 25 0) (by kernel_rfl) rfl rfl (stDrew hSt) ?_
          intro hSt
          refine pi_ 0 28 (bt_ 25 1) rfl rfl (fun _ _ _ h => h) ?_
          refine pl_ 1 29 (bt_ 25 3) rfl rfl (fun _ _ _ h => h) hSt (fun _ h => stC h) ?_
          refine pi_ 2 30 (bt_ 25 7) rfl rfl (fun _ _ _ h => h) ?_
          refine pi_ 3 31 (bt_ 25 15) rfl rfl (fun _ _ _ h => h) ?_
          refine pl_ 4 32 (bt_ 25 31) rfl rfl (fun _ _ _ h => h) hSt (fun _ h => stC h) ?_
          refine pk_ 5 33 (bt_ 25 63) rfl rfl Try.func23 #[.int .i64 d, .int .i64 0, .int .i64 9] rfl (h6 _) (fun _ h => stStep hSt h) ?_; intro w5 hSt
          refine pi_ 6 34 (bt_ 25 127) rfl rfl (fun _ _ _ h => h) ?_
          refine pi_ 7 35 (bt_ 25 255) rfl rfl (fun _ _ _ h => h) ?_
          refine pi_ 8 36 (bt_ 25 511) rfl rfl (fun _ _ _ h => h) ?_
          refine pi_ 9 37 (bt_ 25 1023) rfl rfl (fun _ _ _ h => h) ?_
          refine pi_ 10 38 (bt_ 25 2047) rfl rfl (fun _ _ _ h => h) ?_
          refine pl_ 11 39 (bt_ 25 4095) rfl rfl (fun _ _ _ h => h) hSt (fun _ h => stG h) ?_
          refine pi_ 12 40 (bt_ 25 8191) rfl rfl (fun _ _ _ h => h) ?_
          refine pi_ 13 41 (bt_ 25 16383) rfl rfl (fun _ _ _ h => h) ?_
          refine pi_ 14 42 (bt_ 25 32767) rfl rfl (fun _ _ _ h => h) ?_
          refine pi_ 15 43 (bt_ 25 65535) rfl rfl (fun _ _ _ h => h) ?_
          refine pl_ 16 44 (bt_ 25 131071) rfl rfl (fun _ _ _ h => h) hSt (fun _ h => stG h) ?_
          refine pi_ 17 45 (bt_ 25 262143) rfl rfl (fun _ _ _ h => h) ?_
          refine pl_ 18 46 (bt_ 25 524287) rfl rfl (fun _ _ _ h => h) hSt (fun _ h => stC h) ?_
          refine pi_ 19 47 (bt_ 25 1048575) rfl rfl (fun _ _ _ h => h) ?_
          refine pi_ 20 48 (bt_ 25 2097151) rfl rfl (fun _ _ _ h => h) ?_
          refine pl_ 21 49 (bt_ 25 4194303) rfl rfl (fun _ _ _ h => h) hSt (fun _ h => stC h) ?_
          refine pi_ 22 50 (bt_ 25 8388607) rfl rfl (fun _ _ _ h => h) ?_
          refine pi_ 23 51 (bt_ 25 16777215) rfl rfl (fun _ _ _ h => h) ?_
          refine pi_ 24 52 (bt_ 25 33554431) rfl rfl (fun _ _ _ h => h) ?_
          refine done_ (by kernel_rfl) ?_
          obtain ⟨_, _, _, _, hX, _, hB⟩ := hSt
          gi_wp2
          exact ⟨⟨i + 1, k1, by simp, by omega, HN, ⟨hX⟩, ⟨hB⟩⟩, by simp [intOf]; omega⟩
end Go.Proofs.Ytbhchamohldehaa.P4
