/- Add(1) and the entry of Wait in company. -/
import Derived.Test.YtgdlakhfkmhlnaaJB
import Derived.Conc.WgGenWait
import Derived.Conc.WgArith
set_option linter.unusedVariables false
set_option linter.unusedSimpArgs false
set_option linter.unusedSectionVars false
namespace Go.Proofs.YtgdlakhfkmhlnaaWear
open Go.Conc Go.ConcN Go.RowKit Go.Conc.Lib Go.ConcR.Gen
open Go.ConcR (KK wgBlock WgAt stA smA rd wr mk Payload Aside2 DC0)
variable [Payload] {L : WgLink}
theorem fr_rely {ty : TypeId} {Wg C Low : Nat} {o : List Nat} {F : World → Prop} (hF2 : ∀ w w', RA ty Wg C Low o w w' → F w → F w') {w w₁ : World} (h : F w ∧ WgLive ty Wg w) (r : RA ty Wg C Low o w w₁) : F w₁ ∧ WgLive ty Wg w₁ := ⟨hF2 _ _ r h.1, r.live h.2⟩
theorem live0 {ty : TypeId} {Wg : Nat} {w : World} (h : WgLive ty Wg w) : ∃ v, w.cell? ⟨Wg, 0, none⟩ = some v := let ⟨_, _, x⟩ := h; ⟨_, x.cellSt⟩
theorem live1 {ty : TypeId} {Wg : Nat} {w : World} (h : WgLive ty Wg w) : ∃ v, w.cell? ⟨Wg, 1, none⟩ = some v := let ⟨_, _, x⟩ := h; ⟨_, x.cellSm⟩

set_option maxRecDepth 100000 in
set_option maxHeartbeats 8000000 in
theorem addPos {P : Program} (H : WgLib P L) {Wg C Low : Nat} {val : Nat → Value} {j : Nat} {Next : List Nat → Goroutine → World → Prop} {o : List Nat} {F : World → Prop} {b₀ : Frame} {a₀ : Act} {ops₀ : Array Oper} {i₀ : Nat} {rest₀ : List Nat} {k₀ : List Item} {cs : List Frame} {mT : Nat}
    (hF2 : ∀ w w', RA L.tWg Wg C Low o w w' → F w → F w') (hFs : ∀ w v, F w → F (w.setCell (stA Wg) v))
    (hT : ∀ w, F w → WgLive L.tWg Wg w → Goes P true (RA L.tWg Wg C Low o) DC0 (SGo P L.tWg Wg C Low 4 val j Next o) mT (G (b₀.at (a₀.put ((ops₀[i₀]?).bind (·.dst)) (.tuple #[])) (.inRegion ops₀ rest₀ :: k₀)) cs) w)
    (w : World) (hF : F w ∧ WgLive L.tWg Wg w) :
    Goes P true (RA L.tWg Wg C Low o) DC0 (SKdS P L.tWg Wg C Low 4 val j Next o) 20
      (G ((base L.add).at ⟨#[.pointer (some ⟨Wg, 0, none⟩), .int .i64 1] ++ Array.replicate 115 undef, []⟩ [.code (body_add L)]) (b₀.at a₀ (.inRegion ops₀ (i₀ :: rest₀) :: k₀) :: cs)) w := by
  lib_facts
  walk_nrm
  simp only [body_add, addFn, Option.getD_some]
  u_c stepG_seq (fr_rely hF2) hF
  u_cond true (fr_rely hF2) hF
  u_c stepG_seq (fr_rely hF2) hF
  u_c stepG_seq (fr_rely hF2) hF
  u_reg (fr_rely hF2) hF
  u_op (fr_rely hF2) hF
  u_op (fr_rely hF2) hF
  u_c stepG_region_end (fr_rely hF2) hF
  u_cond false (fr_rely hF2) hF
  u_c stepG_skip (fr_rely hF2) hF
  u_c stepG_seq (fr_rely hF2) hF
  u_reg (fr_rely hF2) hF
  refine Goes.stop (fun w₁ h₁ => ?_)
  replace hF := fr_rely hF2 hF h₁
  clear h₁
  refine ⟨rfl, _, stepG_mark0 .disable (by simp) rfl rfl (by k_ne) rfl H.f_disable (x_disable_n L) (x_disable_b L) (x_disable_x L) (x_disable_f L), 0, 60, ?_⟩
  simp only [Ph]
  walk_nrm
  u_c stepG_region_end (fr_rely hF2) hF
  u_reg (fr_rely hF2) hF
  u_defer (fr_rely hF2) hF
  u_c stepG_region_end (fr_rely hF2) hF
  u_c stepG_seq (fr_rely hF2) hF
  u_reg (fr_rely hF2) hF
  u_op (fr_rely hF2) hF
  u_c stepG_region_end (fr_rely hF2) hF
  u_c stepG_seq (fr_rely hF2) hF
  u_c stepG_seq (fr_rely hF2) hF
  u_reg (fr_rely hF2) hF
  u_bub (fr_rely hF2) hF
  u_c stepG_region_end (fr_rely hF2) hF
  u_cond false (fr_rely hF2) hF
  u_c stepG_skip (fr_rely hF2) hF
  u_c stepG_seq (fr_rely hF2) hF
  u_reg (fr_rely hF2) hF
  u_op (fr_rely hF2) hF
  u_op (fr_rely hF2) hF
  u_op (fr_rely hF2) hF
  u_op (fr_rely hF2) hF
  u_op (fr_rely hF2) hF
  u_op (fr_rely hF2) hF
  u_call H.f_uAdd (nm_uAdd L) uAddFn (fr_rely hF2) hF
  u_c stepG_seq (fr_rely hF2) hF
  u_reg (fr_rely hF2) hF
  u_op (fr_rely hF2) hF
  u_c stepG_region_end (fr_rely hF2) hF
  u_c stepG_seq (fr_rely hF2) hF
  u_reg (fr_rely hF2) hF
  u_op (fr_rely hF2) hF
  u_op (fr_rely hF2) hF
  u_op (fr_rely hF2) hF
  u_op (fr_rely hF2) hF
  refine Goes.stop (fun w₂ h₂ => ?_)
  replace hF := fr_rely hF2 hF h₂
  clear h₂
  refine ⟨rfl, fun v hv hw => ?_⟩
  have hFF := hF.1
  obtain rfl | hvp : v = 0 ∨ v ≠ 0 := by omega
  · -- THE COUNT IS NOW 1
    replace hw : WgAt L.tWg Wg w₂ 0 0 := by simpa using hw
    have z : (((0 : Nat) : Int) + 1) * KK = KK := by simp
    rw [z]
    have e0 : IntKind.u64.wrap (0 + 4294967296) = KK := by decide
    refine ⟨_, (stepG_add_atomic rfl rfl (by k_ne) rfl H.f_addU64 (x_addU64_n L) (x_addU64_b L) (x_addU64_x L) .u64 (x_addU64_f L) rfl rfl hw.cellSt (hw.thaw 0)).trans (by rw [e0]; rfl), 1, 150, ?_⟩
    replace hF : F (w₂.setCell (stA Wg) (.int .u64 KK)) ∧ WgLive L.tWg Wg (w₂.setCell (stA Wg) (.int .u64 KK)) := ⟨hFs _ _ hFF, ⟨_, _, hw.setSt _⟩⟩
    clear hw hFF
    simp only [KK, Ph] at hF ⊢
    walk_nrm
    u_op (fr_rely hF2) hF
    u_c stepG_region_end (fr_rely hF2) hF
    u_c stepG_ret' (fr_rely hF2) hF
    u_leave1 H.f_uAdd (fr_rely hF2) hF
    u_op (fr_rely hF2) hF
    u_c stepG_region_end (fr_rely hF2) hF
    u_c stepG_seq (fr_rely hF2) hF
    u_c stepG_seq (fr_rely hF2) hF
    u_reg (fr_rely hF2) hF
    u_op (fr_rely hF2) hF
    u_op (fr_rely hF2) hF
    u_op (fr_rely hF2) hF
    u_op (fr_rely hF2) hF
    u_skip (fr_rely hF2) hF
    u_skip (fr_rely hF2) hF
    u_op (fr_rely hF2) hF
    u_c stepG_region_end (fr_rely hF2) hF
    u_cond false (fr_rely hF2) hF
    u_c stepG_skip (fr_rely hF2) hF
    u_c stepG_seq (fr_rely hF2) hF
    u_reg (fr_rely hF2) hF
    u_op (fr_rely hF2) hF
    u_op (fr_rely hF2) hF
    u_op (fr_rely hF2) hF
    u_op (fr_rely hF2) hF
    u_c stepG_region_end (fr_rely hF2) hF
    u_c stepG_seq (fr_rely hF2) hF
    u_reg (fr_rely hF2) hF
    u_op (fr_rely hF2) hF
    u_op (fr_rely hF2) hF
    u_op (fr_rely hF2) hF
    u_op (fr_rely hF2) hF
    u_c stepG_region_end (fr_rely hF2) hF
    u_c stepG_seq (fr_rely hF2) hF
    u_c stepG_seq (fr_rely hF2) hF
    u_reg (fr_rely hF2) hF
    u_op (fr_rely hF2) hF
    u_op (fr_rely hF2) hF
    u_op (fr_rely hF2) hF
    u_op (fr_rely hF2) hF
    u_op (fr_rely hF2) hF
    u_op (fr_rely hF2) hF
    u_op (fr_rely hF2) hF
    u_op (fr_rely hF2) hF
    u_op (fr_rely hF2) hF
    u_op (fr_rely hF2) hF
    u_c stepG_region_end (fr_rely hF2) hF
    u_cond true (fr_rely hF2) hF
    u_reg (fr_rely hF2) hF
    u_op (fr_rely hF2) hF
    u_op (fr_rely hF2) hF
    u_op (fr_rely hF2) hF
    u_conv H.underlying_tPU32 H.room_tU32 (live1 hF.2).choose_spec (fr_rely hF2) hF
    refine Goes.stop (fun w₃ h₃ => ?_)
    replace hF := fr_rely hF2 hF h₃
    clear h₃
    refine ⟨rfl, _, _, _, o, stepG_markAt .read (by simp) rfl rfl (by k_ne) rfl H.f_raceRead (x_raceRead_n L) (x_raceRead_b L) (x_raceRead_x L) (x_raceRead_f L) (ad := ⟨Wg, 1, none⟩) (by simp [Act.eval] <;> rfl), .inl ⟨rfl, ⟨rfl, rfl, rfl, rfl, fun _ _ => rfl, fun e he => ?_⟩⟩, 100, ?_⟩
    · rw [Array.mem_singleton] at he
      subst he
      exact .inr ⟨_, .inl rfl, rfl⟩
    walk_nrm
    u_c stepG_region_end (fr_rely hF2) hF
    u_c stepG_seq (fr_rely hF2) hF
    u_c stepG_seq (fr_rely hF2) hF
    u_reg (fr_rely hF2) hF
    u_op (fr_rely hF2) hF
    u_op (fr_rely hF2) hF
    u_c stepG_region_end (fr_rely hF2) hF
    u_cond false (fr_rely hF2) hF
    u_c stepG_skip (fr_rely hF2) hF
    u_c stepG_seq (fr_rely hF2) hF
    u_c stepG_seq (fr_rely hF2) hF
    u_reg (fr_rely hF2) hF
    u_op (fr_rely hF2) hF
    u_op (fr_rely hF2) hF
    u_op (fr_rely hF2) hF
    u_skip (fr_rely hF2) hF
    u_skip (fr_rely hF2) hF
    u_op (fr_rely hF2) hF
    u_op (fr_rely hF2) hF
    u_skip (fr_rely hF2) hF
    u_skip (fr_rely hF2) hF
    u_skip (fr_rely hF2) hF
    u_skip (fr_rely hF2) hF
    u_op (fr_rely hF2) hF
    u_c stepG_region_end (fr_rely hF2) hF
    u_cond false (fr_rely hF2) hF
    u_c stepG_skip (fr_rely hF2) hF
    u_c stepG_seq (fr_rely hF2) hF
    u_c stepG_seq (fr_rely hF2) hF
    u_reg (fr_rely hF2) hF
    u_op (fr_rely hF2) hF
    u_op (fr_rely hF2) hF
    u_op (fr_rely hF2) hF
    u_skip (fr_rely hF2) hF
    u_skip (fr_rely hF2) hF
    u_op (fr_rely hF2) hF
    u_c stepG_region_end (fr_rely hF2) hF
    u_cond true (fr_rely hF2) hF
    u_c stepG_ret' (fr_rely hF2) hF
    refine Goes.stop (fun w₄ h₄ => ?_)
    replace hF := fr_rely hF2 hF h₄
    clear h₄
    refine ⟨rfl, _, stepG_unwind_entry (v := .tuple #[]) (evs := #[mk .enable]) rfl H.f_enable (x_enable_n L) (x_enable_b L) (x_enable_x L) (x_enable_f L) (by simp [Extern.Race.none_]) (by simp [mk]) (by simp [mk]), 0, mT + 1, ?_⟩
    simp only [Ph]
    u_leave0 H.f_add (fr_rely hF2) hF
    exact hT _ hF.1 hF.2
  · obtain rfl | rfl | rfl : v = 1 ∨ v = 2 ∨ v = 3 := by omega
    · replace hw : WgAt L.tWg Wg w₂ 4294967296 0 := by simpa [KK] using hw
      have z : (((1 : Nat) : Int) + 1) * KK = 8589934592 := by decide
      rw [z]
      have e0 : IntKind.u64.wrap (4294967296 + 4294967296) = 8589934592 := by decide
      have b1 : bits .and .u64 8589934592 2147483648 = 0 := by decide
      have b2 : bits .and .u64 8589934592 2147483647 = 0 := by decide
      refine ⟨_, (stepG_add_atomic rfl rfl (by k_ne) rfl H.f_addU64 (x_addU64_n L) (x_addU64_b L) (x_addU64_x L) .u64 (x_addU64_f L) rfl rfl hw.cellSt (hw.thaw 0)).trans (by rw [e0]; rfl), 0, mT + 150, ?_⟩
      replace hF : F (w₂.setCell (stA Wg) (.int .u64 8589934592)) ∧ WgLive L.tWg Wg (w₂.setCell (stA Wg) (.int .u64 8589934592)) := ⟨hFs _ _ hFF, ⟨_, _, hw.setSt _⟩⟩
      clear hw hFF
      simp only [Ph]
      walk_nrm
      u_op (fr_rely hF2) hF
      u_c stepG_region_end (fr_rely hF2) hF
      u_c stepG_ret' (fr_rely hF2) hF
      u_leave1 H.f_uAdd (fr_rely hF2) hF
      u_op (fr_rely hF2) hF
      u_c stepG_region_end (fr_rely hF2) hF
      u_c stepG_seq (fr_rely hF2) hF
      u_c stepG_seq (fr_rely hF2) hF
      u_reg (fr_rely hF2) hF
      u_op (fr_rely hF2) hF
      u_op (fr_rely hF2) hF
      u_op (fr_rely hF2) hF
      u_op (fr_rely hF2) hF
      u_skip (fr_rely hF2) hF
      u_skip (fr_rely hF2) hF
      u_op (fr_rely hF2) hF
      u_c stepG_region_end (fr_rely hF2) hF
      u_cond false (fr_rely hF2) hF
      u_c stepG_skip (fr_rely hF2) hF
      u_c stepG_seq (fr_rely hF2) hF
      u_reg (fr_rely hF2) hF
      u_op (fr_rely hF2) hF
      u_op (fr_rely hF2) hF
      u_op (fr_rely hF2) hF
      u_op (fr_rely hF2) hF
      u_c stepG_region_end (fr_rely hF2) hF
      u_c stepG_seq (fr_rely hF2) hF
      u_reg (fr_rely hF2) hF
      u_op (fr_rely hF2) hF
      u_op (fr_rely hF2) hF
      u_op (fr_rely hF2) hF
      u_op (fr_rely hF2) hF
      u_c stepG_region_end (fr_rely hF2) hF
      u_c stepG_seq (fr_rely hF2) hF
      u_c stepG_seq (fr_rely hF2) hF
      u_reg (fr_rely hF2) hF
      u_op (fr_rely hF2) hF
      u_op (fr_rely hF2) hF
      u_op (fr_rely hF2) hF
      u_op (fr_rely hF2) hF
      u_op (fr_rely hF2) hF
      u_op (fr_rely hF2) hF
      u_op (fr_rely hF2) hF
      u_op (fr_rely hF2) hF
      u_op (fr_rely hF2) hF
      u_op (fr_rely hF2) hF
      u_c stepG_region_end (fr_rely hF2) hF
      u_cond false (fr_rely hF2) hF
      u_c stepG_skip (fr_rely hF2) hF
      u_c stepG_seq (fr_rely hF2) hF
      u_c stepG_seq (fr_rely hF2) hF
      u_reg (fr_rely hF2) hF
      u_op (fr_rely hF2) hF
      u_op (fr_rely hF2) hF
      u_c stepG_region_end (fr_rely hF2) hF
      u_cond false (fr_rely hF2) hF
      u_c stepG_skip (fr_rely hF2) hF
      u_c stepG_seq (fr_rely hF2) hF
      u_c stepG_seq (fr_rely hF2) hF
      u_reg (fr_rely hF2) hF
      u_op (fr_rely hF2) hF
      u_op (fr_rely hF2) hF
      u_op (fr_rely hF2) hF
      u_skip (fr_rely hF2) hF
      u_skip (fr_rely hF2) hF
      u_op (fr_rely hF2) hF
      u_op (fr_rely hF2) hF
      u_skip (fr_rely hF2) hF
      u_skip (fr_rely hF2) hF
      u_skip (fr_rely hF2) hF
      u_skip (fr_rely hF2) hF
      u_op (fr_rely hF2) hF
      u_c stepG_region_end (fr_rely hF2) hF
      u_cond false (fr_rely hF2) hF
      u_c stepG_skip (fr_rely hF2) hF
      u_c stepG_seq (fr_rely hF2) hF
      u_c stepG_seq (fr_rely hF2) hF
      u_reg (fr_rely hF2) hF
      u_op (fr_rely hF2) hF
      u_op (fr_rely hF2) hF
      u_op (fr_rely hF2) hF
      u_skip (fr_rely hF2) hF
      u_skip (fr_rely hF2) hF
      u_op (fr_rely hF2) hF
      u_c stepG_region_end (fr_rely hF2) hF
      u_cond true (fr_rely hF2) hF
      u_c stepG_ret' (fr_rely hF2) hF
      refine Goes.stop (fun w₄ h₄ => ?_)
      replace hF := fr_rely hF2 hF h₄
      clear h₄
      refine ⟨rfl, _, stepG_unwind_entry (v := .tuple #[]) (evs := #[mk .enable]) rfl H.f_enable (x_enable_n L) (x_enable_b L) (x_enable_x L) (x_enable_f L) (by simp [Extern.Race.none_]) (by simp [mk]) (by simp [mk]), 0, mT + 1, ?_⟩
      simp only [Ph]
      u_leave0 H.f_add (fr_rely hF2) hF
      exact hT _ hF.1 hF.2
    · replace hw : WgAt L.tWg Wg w₂ 8589934592 0 := by simpa [KK] using hw
      have z : (((2 : Nat) : Int) + 1) * KK = 12884901888 := by decide
      rw [z]
      have e0 : IntKind.u64.wrap (8589934592 + 4294967296) = 12884901888 := by decide
      have b1 : bits .and .u64 12884901888 2147483648 = 0 := by decide
      have b2 : bits .and .u64 12884901888 2147483647 = 0 := by decide
      refine ⟨_, (stepG_add_atomic rfl rfl (by k_ne) rfl H.f_addU64 (x_addU64_n L) (x_addU64_b L) (x_addU64_x L) .u64 (x_addU64_f L) rfl rfl hw.cellSt (hw.thaw 0)).trans (by rw [e0]; rfl), 0, mT + 150, ?_⟩
      replace hF : F (w₂.setCell (stA Wg) (.int .u64 12884901888)) ∧ WgLive L.tWg Wg (w₂.setCell (stA Wg) (.int .u64 12884901888)) := ⟨hFs _ _ hFF, ⟨_, _, hw.setSt _⟩⟩
      clear hw hFF
      simp only [Ph]
      walk_nrm
      u_op (fr_rely hF2) hF
      u_c stepG_region_end (fr_rely hF2) hF
      u_c stepG_ret' (fr_rely hF2) hF
      u_leave1 H.f_uAdd (fr_rely hF2) hF
      u_op (fr_rely hF2) hF
      u_c stepG_region_end (fr_rely hF2) hF
      u_c stepG_seq (fr_rely hF2) hF
      u_c stepG_seq (fr_rely hF2) hF
      u_reg (fr_rely hF2) hF
      u_op (fr_rely hF2) hF
      u_op (fr_rely hF2) hF
      u_op (fr_rely hF2) hF
      u_op (fr_rely hF2) hF
      u_skip (fr_rely hF2) hF
      u_skip (fr_rely hF2) hF
      u_op (fr_rely hF2) hF
      u_c stepG_region_end (fr_rely hF2) hF
      u_cond false (fr_rely hF2) hF
      u_c stepG_skip (fr_rely hF2) hF
      u_c stepG_seq (fr_rely hF2) hF
      u_reg (fr_rely hF2) hF
      u_op (fr_rely hF2) hF
      u_op (fr_rely hF2) hF
      u_op (fr_rely hF2) hF
      u_op (fr_rely hF2) hF
      u_c stepG_region_end (fr_rely hF2) hF
      u_c stepG_seq (fr_rely hF2) hF
      u_reg (fr_rely hF2) hF
      u_op (fr_rely hF2) hF
      u_op (fr_rely hF2) hF
      u_op (fr_rely hF2) hF
      u_op (fr_rely hF2) hF
      u_c stepG_region_end (fr_rely hF2) hF
      u_c stepG_seq (fr_rely hF2) hF
      u_c stepG_seq (fr_rely hF2) hF
      u_reg (fr_rely hF2) hF
      u_op (fr_rely hF2) hF
      u_op (fr_rely hF2) hF
      u_op (fr_rely hF2) hF
      u_op (fr_rely hF2) hF
      u_op (fr_rely hF2) hF
      u_op (fr_rely hF2) hF
      u_op (fr_rely hF2) hF
      u_op (fr_rely hF2) hF
      u_op (fr_rely hF2) hF
      u_op (fr_rely hF2) hF
      u_c stepG_region_end (fr_rely hF2) hF
      u_cond false (fr_rely hF2) hF
      u_c stepG_skip (fr_rely hF2) hF
      u_c stepG_seq (fr_rely hF2) hF
      u_c stepG_seq (fr_rely hF2) hF
      u_reg (fr_rely hF2) hF
      u_op (fr_rely hF2) hF
      u_op (fr_rely hF2) hF
      u_c stepG_region_end (fr_rely hF2) hF
      u_cond false (fr_rely hF2) hF
      u_c stepG_skip (fr_rely hF2) hF
      u_c stepG_seq (fr_rely hF2) hF
      u_c stepG_seq (fr_rely hF2) hF
      u_reg (fr_rely hF2) hF
      u_op (fr_rely hF2) hF
      u_op (fr_rely hF2) hF
      u_op (fr_rely hF2) hF
      u_skip (fr_rely hF2) hF
      u_skip (fr_rely hF2) hF
      u_op (fr_rely hF2) hF
      u_op (fr_rely hF2) hF
      u_skip (fr_rely hF2) hF
      u_skip (fr_rely hF2) hF
      u_skip (fr_rely hF2) hF
      u_skip (fr_rely hF2) hF
      u_op (fr_rely hF2) hF
      u_c stepG_region_end (fr_rely hF2) hF
      u_cond false (fr_rely hF2) hF
      u_c stepG_skip (fr_rely hF2) hF
      u_c stepG_seq (fr_rely hF2) hF
      u_c stepG_seq (fr_rely hF2) hF
      u_reg (fr_rely hF2) hF
      u_op (fr_rely hF2) hF
      u_op (fr_rely hF2) hF
      u_op (fr_rely hF2) hF
      u_skip (fr_rely hF2) hF
      u_skip (fr_rely hF2) hF
      u_op (fr_rely hF2) hF
      u_c stepG_region_end (fr_rely hF2) hF
      u_cond true (fr_rely hF2) hF
      u_c stepG_ret' (fr_rely hF2) hF
      refine Goes.stop (fun w₄ h₄ => ?_)
      replace hF := fr_rely hF2 hF h₄
      clear h₄
      refine ⟨rfl, _, stepG_unwind_entry (v := .tuple #[]) (evs := #[mk .enable]) rfl H.f_enable (x_enable_n L) (x_enable_b L) (x_enable_x L) (x_enable_f L) (by simp [Extern.Race.none_]) (by simp [mk]) (by simp [mk]), 0, mT + 1, ?_⟩
      simp only [Ph]
      u_leave0 H.f_add (fr_rely hF2) hF
      exact hT _ hF.1 hF.2
    · replace hw : WgAt L.tWg Wg w₂ 12884901888 0 := by simpa [KK] using hw
      have z : (((3 : Nat) : Int) + 1) * KK = 17179869184 := by decide
      rw [z]
      have e0 : IntKind.u64.wrap (12884901888 + 4294967296) = 17179869184 := by decide
      have b1 : bits .and .u64 17179869184 2147483648 = 0 := by decide
      have b2 : bits .and .u64 17179869184 2147483647 = 0 := by decide
      refine ⟨_, (stepG_add_atomic rfl rfl (by k_ne) rfl H.f_addU64 (x_addU64_n L) (x_addU64_b L) (x_addU64_x L) .u64 (x_addU64_f L) rfl rfl hw.cellSt (hw.thaw 0)).trans (by rw [e0]; rfl), 0, mT + 150, ?_⟩
      replace hF : F (w₂.setCell (stA Wg) (.int .u64 17179869184)) ∧ WgLive L.tWg Wg (w₂.setCell (stA Wg) (.int .u64 17179869184)) := ⟨hFs _ _ hFF, ⟨_, _, hw.setSt _⟩⟩
      clear hw hFF
      simp only [Ph]
      walk_nrm
      u_op (fr_rely hF2) hF
      u_c stepG_region_end (fr_rely hF2) hF
      u_c stepG_ret' (fr_rely hF2) hF
      u_leave1 H.f_uAdd (fr_rely hF2) hF
      u_op (fr_rely hF2) hF
      u_c stepG_region_end (fr_rely hF2) hF
      u_c stepG_seq (fr_rely hF2) hF
      u_c stepG_seq (fr_rely hF2) hF
      u_reg (fr_rely hF2) hF
      u_op (fr_rely hF2) hF
      u_op (fr_rely hF2) hF
      u_op (fr_rely hF2) hF
      u_op (fr_rely hF2) hF
      u_skip (fr_rely hF2) hF
      u_skip (fr_rely hF2) hF
      u_op (fr_rely hF2) hF
      u_c stepG_region_end (fr_rely hF2) hF
      u_cond false (fr_rely hF2) hF
      u_c stepG_skip (fr_rely hF2) hF
      u_c stepG_seq (fr_rely hF2) hF
      u_reg (fr_rely hF2) hF
      u_op (fr_rely hF2) hF
      u_op (fr_rely hF2) hF
      u_op (fr_rely hF2) hF
      u_op (fr_rely hF2) hF
      u_c stepG_region_end (fr_rely hF2) hF
      u_c stepG_seq (fr_rely hF2) hF
      u_reg (fr_rely hF2) hF
      u_op (fr_rely hF2) hF
      u_op (fr_rely hF2) hF
      u_op (fr_rely hF2) hF
      u_op (fr_rely hF2) hF
      u_c stepG_region_end (fr_rely hF2) hF
      u_c stepG_seq (fr_rely hF2) hF
      u_c stepG_seq (fr_rely hF2) hF
      u_reg (fr_rely hF2) hF
      u_op (fr_rely hF2) hF
      u_op (fr_rely hF2) hF
      u_op (fr_rely hF2) hF
      u_op (fr_rely hF2) hF
      u_op (fr_rely hF2) hF
      u_op (fr_rely hF2) hF
      u_op (fr_rely hF2) hF
      u_op (fr_rely hF2) hF
      u_op (fr_rely hF2) hF
      u_op (fr_rely hF2) hF
      u_c stepG_region_end (fr_rely hF2) hF
      u_cond false (fr_rely hF2) hF
      u_c stepG_skip (fr_rely hF2) hF
      u_c stepG_seq (fr_rely hF2) hF
      u_c stepG_seq (fr_rely hF2) hF
      u_reg (fr_rely hF2) hF
      u_op (fr_rely hF2) hF
      u_op (fr_rely hF2) hF
      u_c stepG_region_end (fr_rely hF2) hF
      u_cond false (fr_rely hF2) hF
      u_c stepG_skip (fr_rely hF2) hF
      u_c stepG_seq (fr_rely hF2) hF
      u_c stepG_seq (fr_rely hF2) hF
      u_reg (fr_rely hF2) hF
      u_op (fr_rely hF2) hF
      u_op (fr_rely hF2) hF
      u_op (fr_rely hF2) hF
      u_skip (fr_rely hF2) hF
      u_skip (fr_rely hF2) hF
      u_op (fr_rely hF2) hF
      u_op (fr_rely hF2) hF
      u_skip (fr_rely hF2) hF
      u_skip (fr_rely hF2) hF
      u_skip (fr_rely hF2) hF
      u_skip (fr_rely hF2) hF
      u_op (fr_rely hF2) hF
      u_c stepG_region_end (fr_rely hF2) hF
      u_cond false (fr_rely hF2) hF
      u_c stepG_skip (fr_rely hF2) hF
      u_c stepG_seq (fr_rely hF2) hF
      u_c stepG_seq (fr_rely hF2) hF
      u_reg (fr_rely hF2) hF
      u_op (fr_rely hF2) hF
      u_op (fr_rely hF2) hF
      u_op (fr_rely hF2) hF
      u_skip (fr_rely hF2) hF
      u_skip (fr_rely hF2) hF
      u_op (fr_rely hF2) hF
      u_c stepG_region_end (fr_rely hF2) hF
      u_cond true (fr_rely hF2) hF
      u_c stepG_ret' (fr_rely hF2) hF
      refine Goes.stop (fun w₄ h₄ => ?_)
      replace hF := fr_rely hF2 hF h₄
      clear h₄
      refine ⟨rfl, _, stepG_unwind_entry (v := .tuple #[]) (evs := #[mk .enable]) rfl H.f_enable (x_enable_n L) (x_enable_b L) (x_enable_x L) (x_enable_f L) (by simp [Extern.Race.none_]) (by simp [mk]) (by simp [mk]), 0, mT + 1, ?_⟩
      simp only [Ph]
      u_leave0 H.f_add (fr_rely hF2) hF
      exact hT _ hF.1 hF.2
end Go.Proofs.YtgdlakhfkmhlnaaWear
namespace Go.Proofs.YtgdlakhfkmhlnaaWear
open Go.Conc Go.ConcN Go.RowKit Go.Conc.Lib Go.ConcR.Gen
open Go.ConcR (KK wgBlock WgAt stA smA rd wr mk Payload Aside2 DC0)
variable [Payload] {L : WgLink}
/-- The record behind Wait. -/
def EndX (P : Program) (gR : Goroutine) (g : Goroutine) (w : World) : Prop := ∃ n, Goes P true AtRel DC0 (fun g₂ w₂ => g₂ = gR ∧ AtRel w w₂) n g w
noncomputable def loopC (L : WgLink) : Code := match (body_wait L) with | .seq _ (.block _ (.loop c)) => c | _ => .skip
/-- At the head of Wait's loop. -/
def AnchX (L : WgLink) (F : World → Prop) (Wg : Nat) (c : Frame) (cs : List Frame) (_ : List Nat) (g : Goroutine) (w : World) : Prop :=
  ∃ T : Array Value, g = G ((base L.wait).at ⟨T, []⟩ [.code (loopC L), .inLoop (loopC L), .inBlock 0]) (c :: cs) ∧ T.size = 84 ∧ T[0]? = some (.pointer (some ⟨Wg, 0, none⟩)) ∧ F w ∧ WgLive L.tWg Wg w


set_option maxRecDepth 100000 in
set_option maxHeartbeats 40000000 in
theorem waitStart {P : Program} (H : WgLib P L) {Wg C Low : Nat} {o : List Nat} {F : World → Prop} {c : Frame} {cs : List Frame}
    (hF2 : ∀ w w', RA L.tWg Wg C Low o w w' → F w → F w') (w : World) (hF : F w ∧ WgLive L.tWg Wg w) :
    Goes P true (RA L.tWg Wg C Low o) DC0 (SKd P L.tWg Wg C Low (AnchX L F Wg c cs) o) 5 (G ((base L.wait).at ⟨#[.pointer (some ⟨Wg, 0, none⟩)] ++ Array.replicate 83 undef, []⟩ [.code (body_wait L)]) (c :: cs)) w := by
  lib_facts
  walk_nrm
  simp only [body_wait, waitFn, Option.getD_some]
  u_c stepG_seq (fr_rely hF2) hF
  u_cond true (fr_rely hF2) hF
  u_reg (fr_rely hF2) hF
  refine Goes.stop (fun w₁ h₁ => ?_)
  replace hF := fr_rely hF2 hF h₁
  clear h₁
  refine ⟨rfl, _, stepG_mark0 .disable (by simp) rfl rfl (by k_ne) rfl H.f_disable (x_disable_n L) (x_disable_b L) (x_disable_x L) (x_disable_f L), 0, 6, ?_⟩
  simp only [Ph]
  walk_nrm
  u_c stepG_region_end (fr_rely hF2) hF
  u_c stepG_block (fr_rely hF2) hF
  u_c stepG_loop (fr_rely hF2) hF
  refine Goes.stop (fun w₃ h₃ => ?_)
  replace hF := fr_rely hF2 hF h₃
  exact ⟨_, by rfl, by rfl, by rfl, hF⟩
end Go.Proofs.YtgdlakhfkmhlnaaWear
