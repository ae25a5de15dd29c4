/- One round of the loop of Wait in company. -/
import Derived.Test.YtgdlakhfkmhlnaaJD
import Derived.Conc.WgGenWait
import Derived.Conc.WgArith
import Derived.Conc.WgGenN2
set_option linter.unusedVariables false
set_option linter.unusedSimpArgs false
set_option linter.unusedSectionVars false
namespace Go.Proofs.YtgdlakhfkmhlnaaWear
open Go.Conc Go.ConcN Go.RowKit Go.Conc.Lib Go.ConcR.Gen
open Go.ConcR (KK wgBlock WgAt stA smA rd wr mk Payload Aside2 DC0)
variable [Payload] {L : WgLink}
set_option maxRecDepth 100000 in
set_option maxHeartbeats 40000000 in
theorem waitRound {P : Program} (H : WgLib P L) {Wg C Low : Nat} {o : List Nat} {F : World → Prop} {b₀ : Frame} {a₀ : Act} {ops₀ : Array Oper} {i₀ : Nat} {rest₀ : List Nat} {k₀ : List Item} {cs : List Frame}
    (hF2 : ∀ w w', RA L.tWg Wg C Low o w w' → F w → F w') (hFs : ∀ w v, F w → F (w.setCell (stA Wg) v)) (hFm : ∀ w v, F w → F (w.setCell (smA Wg) v))
    (g : Goroutine) (w : World) (h : AnchX L F Wg (b₀.at a₀ (.inRegion ops₀ (i₀ :: rest₀) :: k₀)) cs o g w) :
    PX P L.tWg Wg C Low (SW1 P L.tWg Wg C Low 4 (AnchX L F Wg (b₀.at a₀ (.inRegion ops₀ (i₀ :: rest₀) :: k₀)) cs) (EndX P (G (b₀.at (a₀.put ((ops₀[i₀]?).bind (·.dst)) (.tuple #[])) (.inRegion ops₀ rest₀ :: k₀)) cs))) o g w := by
  lib_facts
  obtain ⟨T, rfl, hT84, t0, hF⟩ := h
  obtain ⟨v0, v1, v2, v3, v4, v5, v6, v7, v8, v9, v10, v11, v12, v13, v14, v15, v16, v17, v18, v19, v20, v21, v22, v23, v24, v25, v26, v27, v28, v29, v30, v31, v32, v33, v34, v35, v36, v37, v38, v39, v40, v41, v42, v43, v44, v45, v46, v47, v48, v49, v50, v51, v52, v53, v54, v55, v56, v57, v58, v59, v60, v61, v62, v63, v64, v65, v66, v67, v68, v69, v70, v71, v72, v73, v74, v75, v76, v77, v78, v79, v80, v81, v82, v83, rfl⟩ : ∃ v0 v1 v2 v3 v4 v5 v6 v7 v8 v9 v10 v11 v12 v13 v14 v15 v16 v17 v18 v19 v20 v21 v22 v23 v24 v25 v26 v27 v28 v29 v30 v31 v32 v33 v34 v35 v36 v37 v38 v39 v40 v41 v42 v43 v44 v45 v46 v47 v48 v49 v50 v51 v52 v53 v54 v55 v56 v57 v58 v59 v60 v61 v62 v63 v64 v65 v66 v67 v68 v69 v70 v71 v72 v73 v74 v75 v76 v77 v78 v79 v80 v81 v82 v83, T = #[v0, v1, v2, v3, v4, v5, v6, v7, v8, v9, v10, v11, v12, v13, v14, v15, v16, v17, v18, v19, v20, v21, v22, v23, v24, v25, v26, v27, v28, v29, v30, v31, v32, v33, v34, v35, v36, v37, v38, v39, v40, v41, v42, v43, v44, v45, v46, v47, v48, v49, v50, v51, v52, v53, v54, v55, v56, v57, v58, v59, v60, v61, v62, v63, v64, v65, v66, v67, v68, v69, v70, v71, v72, v73, v74, v75, v76, v77, v78, v79, v80, v81, v82, v83] := by
    exact array84 T hT84
  simp only [List.getElem?_toArray, List.getElem?_cons_zero, Option.some.injEq] at t0
  subst t0
  refine ⟨0, 40, ?_⟩
  simp only [Ph]
  simp only [loopC, body_wait, waitFn, Option.getD_some]
  u_c stepG_block (fr_rely hF2) hF
  u_c stepG_seq (fr_rely hF2) hF
  u_reg (fr_rely hF2) hF
  u_op (fr_rely hF2) hF
  u_op (fr_rely hF2) hF
  u_op (fr_rely hF2) hF
  u_call H.f_uLoad (nm_uLoad L) uLoadFn (fr_rely hF2) hF
  u_c stepG_seq (fr_rely hF2) hF
  u_reg (fr_rely hF2) hF
  u_op (fr_rely hF2) hF
  u_c stepG_region_end (fr_rely hF2) hF
  u_c stepG_seq (fr_rely hF2) hF
  u_reg (fr_rely hF2) hF
  u_op (fr_rely hF2) hF
  u_op (fr_rely hF2) hF
  u_op (fr_rely hF2) hF
  refine Goes.stop (fun w₁ h₁ => ?_)
  replace hF := fr_rely hF2 hF h₁
  clear h₁
  refine ⟨rfl, fun v hv hw => ?_⟩
  rcases Nat.eq_zero_or_pos v with rfl | hvp
  · replace hw : WgAt L.tWg Wg w₁ 0 0 := by simpa using hw
    refine ⟨_, stepG_load_atomic (v := 0) rfl rfl (by k_ne) rfl H.f_loadU64 (x_loadU64_n L) (x_loadU64_b L) (x_loadU64_x L) .u64 (x_loadU64_f L) rfl hw.cellSt, fun _ => ⟨0, 80, ?_⟩, fun h => absurd rfl h⟩
    clear hw
    simp only [Ph]
    walk_nrm
    u_op (fr_rely hF2) hF
    u_c stepG_region_end (fr_rely hF2) hF
    u_c stepG_ret' (fr_rely hF2) hF
    u_leave1 H.f_uLoad (fr_rely hF2) hF
    u_op (fr_rely hF2) hF
    u_c stepG_region_end (fr_rely hF2) hF
    u_c stepG_seq (fr_rely hF2) hF
    u_reg (fr_rely hF2) hF
    u_op (fr_rely hF2) hF
    u_op (fr_rely hF2) hF
    u_op (fr_rely hF2) hF
    u_op (fr_rely hF2) hF
    u_c stepG_region_end (fr_rely hF2) hF
    u_c stepG_seq (fr_rely hF2) hF
    u_reg (fr_rely hF2) hF
    u_op (fr_rely hF2) hF
    u_op (fr_rely hF2) hF
    u_op (fr_rely hF2) hF
    u_op (fr_rely hF2) hF
    u_c stepG_region_end (fr_rely hF2) hF
    u_c stepG_seq (fr_rely hF2) hF
    u_c stepG_seq (fr_rely hF2) hF
    u_reg (fr_rely hF2) hF
    u_op (fr_rely hF2) hF
    u_op (fr_rely hF2) hF
    u_c stepG_region_end (fr_rely hF2) hF
    u_cond true (fr_rely hF2) hF
    u_c stepG_seq (fr_rely hF2) hF
    u_cond true (fr_rely hF2) hF
    u_c stepG_seq (fr_rely hF2) hF
    u_reg (fr_rely hF2) hF
    refine Goes.stop (fun w₅ h₅ => ?_)
    replace hF := fr_rely hF2 hF h₅
    clear h₅
    refine ⟨rfl, _, stepG_mark0 .enable (by simp) rfl rfl (by k_ne) rfl H.f_enable (x_enable_n L) (x_enable_b L) (x_enable_x L) (x_enable_f L), 0, 20, ?_⟩
    simp only [Ph]
    walk_nrm
    u_c stepG_region_end (fr_rely hF2) hF
    u_reg (fr_rely hF2) hF
    u_op (fr_rely hF2) hF
    u_conv H.underlying_tWgP H.room_tWg (live0 hF.2).choose_spec (fr_rely hF2) hF
    refine Goes.stop (fun w₆ h₆ => ?_)
    refine ⟨rfl, _, stepG_markAt .acquire (by simp) rfl rfl (by k_ne) rfl H.f_acquire (x_acquire_n L) (x_acquire_b L) (x_acquire_x L) (x_acquire_f L) (by simp [Act.eval, stA]), 40, ?_⟩
    clear hF h₆
    have hG : AtRel w₆ w₆ := ⟨w₆.drawn, rfl⟩
    walk_nrm
    repeat (first | (u_c stepG_region_end (fun h r => atRel_trans _ _ _ h r) hG) | (u_c stepG_seq (fun h r => atRel_trans _ _ _ h r) hG) | (u_reg (fun h r => atRel_trans _ _ _ h r) hG) | (u_cond true (fun h r => atRel_trans _ _ _ h r) hG) | (u_cond false (fun h r => atRel_trans _ _ _ h r) hG) | (u_cnd false (fun h r => atRel_trans _ _ _ h r) hG) | (u_c stepG_skip (fun h r => atRel_trans _ _ _ h r) hG) | (u_c stepG_ret' (fun h r => atRel_trans _ _ _ h r) hG) | (u_c stepG_end (fun h r => atRel_trans _ _ _ h r) hG) | (u_op (fun h r => atRel_trans _ _ _ h r) hG) | (u_skip (fun h r => atRel_trans _ _ _ h r) hG) | (u_bub (fun h r => atRel_trans _ _ _ h r) hG) | (u_c stepG_block (fun h r => atRel_trans _ _ _ h r) hG) | (u_c stepG_loop (fun h r => atRel_trans _ _ _ h r) hG) | (u_c stepG_inLoop (fun h r => atRel_trans _ _ _ h r) hG) | (u_c stepG_inBlock (fun h r => atRel_trans _ _ _ h r) hG) | (u_exit (fun h r => atRel_trans _ _ _ h r) hG))
    u_leave0 H.f_wait (fun h r => atRel_trans _ _ _ h r) hG
    exact Goes.stop fun w₇ h₇ => ⟨rfl, atRel_trans _ _ _ hG h₇⟩
  · obtain ⟨S, hS⟩ : ∃ S : Int, (v : Int) * KK = S := ⟨_, rfl⟩
    have a1 : S / 4294967296 = (v : Int) := by rw [← hS]; simp only [KK]; omega
    have b1 : bits .and .u64 S 2147483648 = 0 := by rw [← hS]; have := st_flag v 0 (by omega) (by omega); simpa [KK] using this
    have b2 : bits .and .u64 S 2147483647 = 0 := by rw [← hS]; have := st_waiters v 0 (by omega) (by omega); simpa [KK] using this
    have c1 : IntKind.i32.wrap (v : Int) = (v : Int) := by rw [IntKind.wrap_i32]; omega
    have w1 : IntKind.u64.wrap (S + 1) = S + 1 := by rw [IntKind.wrap_u64, ← hS]; simp only [KK]; omega
    have q3 : decide ((v : Int) < 0) = false := decide_eq_false (by omega)
    have q4 : decide (0 < (v : Int)) = true := decide_eq_true (by omega)
    have q5 : ((v : Int) == 0) = false := by simp; omega
    have q6 : decide ((v : Int) = 0) = false := decide_eq_false (by omega)
    rw [hS] at hw
    refine ⟨_, stepG_load_atomic (v := S) rfl rfl (by k_ne) rfl H.f_loadU64 (x_loadU64_n L) (x_loadU64_b L) (x_loadU64_x L) .u64 (x_loadU64_f L) rfl hw.cellSt, fun h => absurd h (by omega), fun _ => ⟨0, 90, ?_⟩⟩
    clear hw
    simp only [Ph]
    walk_nrm
    u_op (fr_rely hF2) hF
    u_c stepG_region_end (fr_rely hF2) hF
    u_c stepG_ret' (fr_rely hF2) hF
    u_leave1 H.f_uLoad (fr_rely hF2) hF
    u_op (fr_rely hF2) hF
    u_c stepG_region_end (fr_rely hF2) hF
    u_c stepG_seq (fr_rely hF2) hF
    u_reg (fr_rely hF2) hF
    u_op (fr_rely hF2) hF
    u_op (fr_rely hF2) hF
    u_op (fr_rely hF2) hF
    u_op (fr_rely hF2) hF
    u_c stepG_region_end (fr_rely hF2) hF
    u_c stepG_seq (fr_rely hF2) hF
    u_reg (fr_rely hF2) hF
    u_op (fr_rely hF2) hF
    u_op (fr_rely hF2) hF
    u_op (fr_rely hF2) hF
    u_op (fr_rely hF2) hF
    u_c stepG_region_end (fr_rely hF2) hF
    u_c stepG_seq (fr_rely hF2) hF
    u_c stepG_seq (fr_rely hF2) hF
    u_reg (fr_rely hF2) hF
    u_op (fr_rely hF2) hF
    u_op (fr_rely hF2) hF
    u_c stepG_region_end (fr_rely hF2) hF
    u_cnd false (fr_rely hF2) hF
    u_c stepG_skip (fr_rely hF2) hF
    u_c stepG_seq (fr_rely hF2) hF
    u_reg (fr_rely hF2) hF
    u_op (fr_rely hF2) hF
    u_op (fr_rely hF2) hF
    u_op (fr_rely hF2) hF
    u_op (fr_rely hF2) hF
    u_op (fr_rely hF2) hF
    u_op (fr_rely hF2) hF
    u_call H.f_uCas (nm_uCas L) uCasFn (fr_rely hF2) hF
    u_c stepG_seq (fr_rely hF2) hF
    u_reg (fr_rely hF2) hF
    u_op (fr_rely hF2) hF
    u_c stepG_region_end (fr_rely hF2) hF
    u_c stepG_seq (fr_rely hF2) hF
    u_reg (fr_rely hF2) hF
    u_op (fr_rely hF2) hF
    u_op (fr_rely hF2) hF
    u_op (fr_rely hF2) hF
    u_op (fr_rely hF2) hF
    u_op (fr_rely hF2) hF
    refine Goes.stop (fun w₂ h₂ => ?_)
    replace hF := fr_rely hF2 hF h₂
    clear h₂
    refine ⟨rfl, fun v' hv' hw => ⟨fun e => ?_, fun e => ?_⟩⟩
    · subst e
      rw [hS] at hw ⊢
      refine ⟨_, (stepG_cas_hit (v := S) (n := S + 1) rfl rfl (by k_ne) rfl H.f_casU64 (x_casU64_n L) (x_casU64_b L) (x_casU64_x L) .u64 (x_casU64_f L) rfl rfl rfl hw.cellSt (hw.thaw 0)).trans (by rfl), 1, 90, ?_⟩
      replace hF : F (w₂.setCell (stA Wg) (.int .u64 (S + 1))) ∧ WgLive L.tWg Wg (w₂.setCell (stA Wg) (.int .u64 (S + 1))) := ⟨hFs _ _ hF.1, ⟨_, _, hw.setSt _⟩⟩
      clear hw
      simp only [Ph]
      walk_nrm
      u_op (fr_rely hF2) hF
      u_c stepG_region_end (fr_rely hF2) hF
      u_c stepG_ret' (fr_rely hF2) hF
      u_leave1 H.f_uCas (fr_rely hF2) hF
      u_c stepG_region_end (fr_rely hF2) hF
      u_cond true (fr_rely hF2) hF
      u_c stepG_seq (fr_rely hF2) hF
      u_c stepG_seq (fr_rely hF2) hF
      u_reg (fr_rely hF2) hF
      u_op (fr_rely hF2) hF
      u_op (fr_rely hF2) hF
      u_op (fr_rely hF2) hF
      u_op (fr_rely hF2) hF
      u_c stepG_region_end (fr_rely hF2) hF
      u_cond true (fr_rely hF2) hF
      u_reg (fr_rely hF2) hF
      u_op (fr_rely hF2) hF
      u_op (fr_rely hF2) hF
      u_op (fr_rely hF2) hF
      u_conv H.underlying_tPU32 H.room_tU32 (live1 hF.2).choose_spec (fr_rely hF2) hF
      refine Goes.stop (fun w₃ h₃ => ?_)
      replace hF := fr_rely hF2 hF h₃
      clear h₃
      refine ⟨rfl, _, _, _, o, stepG_markAt .write (by simp) rfl rfl (by k_ne) rfl H.f_raceWrite (x_raceWrite_n L) (x_raceWrite_b L) (x_raceWrite_x L) (x_raceWrite_f L) (ad := ⟨Wg, 1, none⟩) (by simp [Act.eval] <;> rfl), .inl ⟨rfl, ⟨rfl, rfl, rfl, rfl, fun _ _ => rfl, fun e he => ?_⟩⟩, 100, ?_⟩
      · rw [Array.mem_singleton] at he
        subst he
        exact .inr ⟨_, .inr rfl, rfl⟩
      walk_nrm
      u_c stepG_region_end (fr_rely hF2) hF
      u_c stepG_seq (fr_rely hF2) hF
      u_reg (fr_rely hF2) hF
      u_op (fr_rely hF2) hF
      u_c stepG_region_end (fr_rely hF2) hF
      u_c stepG_seq (fr_rely hF2) hF
      u_c stepG_seq (fr_rely hF2) hF
      u_reg (fr_rely hF2) hF
      u_op (fr_rely hF2) hF
      u_op (fr_rely hF2) hF
      u_op (fr_rely hF2) hF
      u_op (fr_rely hF2) hF
      u_skip (fr_rely hF2) hF
      u_op (fr_rely hF2) hF
      u_c stepG_region_end (fr_rely hF2) hF
      u_cnd false (fr_rely hF2) hF
      u_c stepG_skip (fr_rely hF2) hF
      u_c stepG_seq (fr_rely hF2) hF
      u_reg (fr_rely hF2) hF
      u_op (fr_rely hF2) hF
      u_op (fr_rely hF2) hF
      u_op (fr_rely hF2) hF
      u_op (fr_rely hF2) hF
      refine Goes.stop (fun w₃ h₃ => ?_)
      replace hF := fr_rely hF2 hF h₃
      clear h₃
      refine ⟨rfl, rfl, fun ⟨st, hw⟩ => stepG_semacquire_wait rfl rfl rfl H.f_semacquire (x_semacquire_n L) (x_semacquire_b L) (x_semacquire_x L) (x_semacquire_f L) (by simp [Act.eval, smA]) hw.cellSm, fun hf => ?_⟩
      refine ⟨_, (stepG_semacquire (n := 1) rfl rfl (by k_ne) rfl H.f_semacquire (x_semacquire_n L) (x_semacquire_b L) (x_semacquire_x L) (x_semacquire_f L) (by simp [Act.eval, smA]) hf.cellSm (by k_ne) (hf.thaw 1)).trans (by rfl), 0, 60, ?_⟩
      replace hF : F (w₃.setCell (smA Wg) (.int .u32 0)) ∧ WgLive L.tWg Wg (w₃.setCell (smA Wg) (.int .u32 0)) := ⟨hFm _ _ hF.1, ⟨_, _, hf.setSm 0⟩⟩
      clear hf
      simp only [Ph]
      walk_nrm
      u_c stepG_region_end (fr_rely hF2) hF
      u_c stepG_seq (fr_rely hF2) hF
      u_reg (fr_rely hF2) hF
      u_op (fr_rely hF2) hF
      u_op (fr_rely hF2) hF
      u_op (fr_rely hF2) hF
      u_call H.f_uLoad (nm_uLoad L) uLoadFn (fr_rely hF2) hF
      u_c stepG_seq (fr_rely hF2) hF
      u_reg (fr_rely hF2) hF
      u_op (fr_rely hF2) hF
      u_c stepG_region_end (fr_rely hF2) hF
      u_c stepG_seq (fr_rely hF2) hF
      u_reg (fr_rely hF2) hF
      u_op (fr_rely hF2) hF
      u_op (fr_rely hF2) hF
      u_op (fr_rely hF2) hF
      refine Goes.stop (fun w₄ h₄ => ?_)
      replace hF := fr_rely hF2 hF h₄
      clear h₄
      refine ⟨rfl, fun hw => ⟨_, stepG_load_atomic (v := 0) rfl rfl (by k_ne) rfl H.f_loadU64 (x_loadU64_n L) (x_loadU64_b L) (x_loadU64_x L) .u64 (x_loadU64_f L) rfl hw.cellSt, 0, 60, ?_⟩⟩
      clear hw
      simp only [Ph]
      walk_nrm
      u_op (fr_rely hF2) hF
      u_c stepG_region_end (fr_rely hF2) hF
      u_c stepG_ret' (fr_rely hF2) hF
      u_leave1 H.f_uLoad (fr_rely hF2) hF
      u_op (fr_rely hF2) hF
      u_op (fr_rely hF2) hF
      u_c stepG_region_end (fr_rely hF2) hF
      u_c stepG_seq (fr_rely hF2) hF
      u_cond true (fr_rely hF2) hF
      u_c stepG_seq (fr_rely hF2) hF
      u_reg (fr_rely hF2) hF
      refine Goes.stop (fun w₅ h₅ => ?_)
      replace hF := fr_rely hF2 hF h₅
      clear h₅
      refine ⟨rfl, _, stepG_mark0 .enable (by simp) rfl rfl (by k_ne) rfl H.f_enable (x_enable_n L) (x_enable_b L) (x_enable_x L) (x_enable_f L), 0, 20, ?_⟩
      simp only [Ph]
      walk_nrm
      u_c stepG_region_end (fr_rely hF2) hF
      u_reg (fr_rely hF2) hF
      u_op (fr_rely hF2) hF
      u_conv H.underlying_tWgP H.room_tWg (live0 hF.2).choose_spec (fr_rely hF2) hF
      refine Goes.stop (fun w₆ h₆ => ?_)
      refine ⟨rfl, _, stepG_markAt .acquire (by simp) rfl rfl (by k_ne) rfl H.f_acquire (x_acquire_n L) (x_acquire_b L) (x_acquire_x L) (x_acquire_f L) (by simp [Act.eval, stA]), 40, ?_⟩
      clear hF h₆
      have hG : AtRel w₆ w₆ := ⟨w₆.drawn, rfl⟩
      walk_nrm
      repeat (first | (u_c stepG_region_end (fun h r => atRel_trans _ _ _ h r) hG) | (u_c stepG_seq (fun h r => atRel_trans _ _ _ h r) hG) | (u_reg (fun h r => atRel_trans _ _ _ h r) hG) | (u_cond true (fun h r => atRel_trans _ _ _ h r) hG) | (u_cond false (fun h r => atRel_trans _ _ _ h r) hG) | (u_cnd false (fun h r => atRel_trans _ _ _ h r) hG) | (u_c stepG_skip (fun h r => atRel_trans _ _ _ h r) hG) | (u_c stepG_ret' (fun h r => atRel_trans _ _ _ h r) hG) | (u_c stepG_end (fun h r => atRel_trans _ _ _ h r) hG) | (u_op (fun h r => atRel_trans _ _ _ h r) hG) | (u_skip (fun h r => atRel_trans _ _ _ h r) hG) | (u_bub (fun h r => atRel_trans _ _ _ h r) hG) | (u_c stepG_block (fun h r => atRel_trans _ _ _ h r) hG) | (u_c stepG_loop (fun h r => atRel_trans _ _ _ h r) hG) | (u_c stepG_inLoop (fun h r => atRel_trans _ _ _ h r) hG) | (u_c stepG_inBlock (fun h r => atRel_trans _ _ _ h r) hG) | (u_exit (fun h r => atRel_trans _ _ _ h r) hG))
      u_leave0 H.f_wait (fun h r => atRel_trans _ _ _ h r) hG
      exact Goes.stop fun w₇ h₇ => ⟨rfl, atRel_trans _ _ _ hG h₇⟩
    · have hne : ¬ (v' : Int) * KK = S := by rw [← hS]; simp only [KK]; omega
      refine ⟨_, stepG_cas_miss (v := (v' : Int) * KK) (old := S) (n := S + 1) rfl rfl (by k_ne) rfl H.f_casU64 (x_casU64_n L) (x_casU64_b L) (x_casU64_x L) .u64 (x_casU64_f L) rfl rfl rfl hw.cellSt (hw.thaw 0) hne, 0, 40, ?_⟩
      clear hw hne
      simp only [Ph]
      walk_nrm
      u_op (fr_rely hF2) hF
      u_c stepG_region_end (fr_rely hF2) hF
      u_c stepG_ret' (fr_rely hF2) hF
      u_leave1 H.f_uCas (fr_rely hF2) hF
      u_c stepG_region_end (fr_rely hF2) hF
      u_cnd false (fr_rely hF2) hF
      u_c stepG_skip (fr_rely hF2) hF
      u_c stepG_inBlock (fr_rely hF2) hF
      u_c stepG_inLoop (fr_rely hF2) hF
      refine Goes.stop (fun w₃ h₃ => ?_)
      replace hF := fr_rely hF2 hF h₃
      exact ⟨_, by rfl, by rfl, by rfl, hF⟩
end Go.Proofs.YtgdlakhfkmhlnaaWear
