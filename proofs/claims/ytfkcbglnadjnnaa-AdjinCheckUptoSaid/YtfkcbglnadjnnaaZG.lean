/- A part of the proof: J24, J25, LJ. -/
import Derived.Test.YtfkcbglnadjnnaaZF
set_option linter.all false
namespace Go.Proofs.Ytfkcbglnadjnnaa
open Go Go.RT Go.Proofs Go.Pl
set_option linter.all false
set_option maxRecDepth 20000
set_option maxHeartbeats 4000000
def zPv : Pvr := ⟨⟨0, 0⟩, zAt, 0, 0, 0, false⟩
theorem zkA : zOk #[Value.int .i64 0, .slice none 0 0, .int .u32 0, .bool false, .int .i64 0, .bool false, .int .i64 0, .bool false, .bool false, .int .i64 0, .int .u32 0, .slice none 0 0, .bool false, .int .u32 0, .slice none 0 0, .slice none 0 0].toList (encAt zAt) := ⟨.inl rfl, .inr ⟨2, rfl, rfl⟩, .inl rfl, .inl rfl, .inl rfl, .inl rfl, .inl rfl, .inl rfl, .inl rfl, .inl rfl, .inl rfl, .inr ⟨1, rfl, rfl⟩, .inl rfl, .inl rfl, .inr ⟨1, rfl, rfl⟩, .inr ⟨2, rfl, rfl⟩, trivial⟩
theorem zkP : zOk #[Value.int .u32 0, .int .i64 0, .int .i64 0, .slice none 0 0, .int .u32 0, .bool false, .int .i64 0, .bool false, .int .i64 0, .bool false, .bool false, .int .i64 0, .int .u32 0, .slice none 0 0, .bool false, .int .u32 0, .slice none 0 0, .slice none 0 0, .int .i64 0, .int .i64 0, .int .u32 0, .bool false].toList (encPv zPv) := ⟨.inl rfl, .inl rfl, .inl rfl, .inr ⟨2, rfl, rfl⟩, .inl rfl, .inl rfl, .inl rfl, .inl rfl, .inl rfl, .inl rfl, .inl rfl, .inl rfl, .inl rfl, .inr ⟨1, rfl, rfl⟩, .inl rfl, .inl rfl, .inr ⟨1, rfl, rfl⟩, .inr ⟨2, rfl, rfl⟩, .inl rfl, .inl rfl, .inl rfl, .inl rfl, trivial⟩
theorem prefixesP_c (l : List Pvr) (hn : l.length ≤ 9000) : Pure Try.prog 29 [VPv l] (VP (pfsF l)) := by
  have k := prefixes_c l hn
  refine Meets.intro Try.func29 rfl (Nat.le_of_ble_eq_true rfl) fun C hC => ?_
  simp only [List.map, argEnv, Nat.reduceAdd]
  refine nK ?_
  refine s_reg rfl ?_
  refine Run.pure (dd := some 2) rfl rfl (op_assign rfl (Opd.const _)) ?_
  refine Run.nil (FinR.mk ?_)
  refine nK ?_
  refine s_reg rfl ?_
  refine Run.pure (dd := some 3) rfl rfl (op_move rfl (Opd.tmp _ _ rfl)) ?_
  refine Run.pure (dd := some 4) rfl rfl (op_call_pure (fun _ => k) rfl (Opd.func _) (Opds.cons _ _ _ _ (Opd.tmp _ _ rfl) Opds.nil)) ?_
  refine Run.pure (dd := some 2) rfl rfl (op_assign rfl (Opd.tmp _ _ rfl)) ?_
  refine Run.nil (FinR.mk ?_)
  refine nK ?_
  (first | exact s_o1 hC rfl tV | exact s_o2 hC rfl tV tV | exact s_o3 hC rfl tV tV tV | exact s_o4 hC rfl tV tV tV tV | exact s_out0 hC rfl | exact s_outO hC rfl rfl rfl)
theorem awake_c : Pure Try.prog 10 [] (Bf true) := by
  have oA := ev_ok (r := evA) (.inl rfl)
  have oB := ev_ok (r := evB) (.inr (.inl rfl))
  have oL : ∀ r ∈ [evA, evB], okPv r := fun r hr => by simp at hr; exact ev_ok (hr.elim .inl fun h => .inr (.inl h))
  have oM : ∀ r ∈ [evB, evA], okPv r := fun r hr => by simp at hr; exact ev_ok (hr.elim (fun h => .inr (.inl h)) .inl)
  have oS : ∀ r ∈ [evS, evB], okPv r := fun r hr => by simp at hr; exact ev_ok (hr.elim (fun h => .inr (.inr h)) fun h => .inr (.inl h))
  have k1 := put_c [] evB (by simp) oB (by simp)
  have k2 := put_c [evB] evA (by simpa using oB) oA (by simp)
  have k3 := put_c [evA, evB] evA oL oA (by simp)
  have k4 := drop_c [evA, evB] 0 tenQ oL (by simp)
  have k5 := clear_c [evA, evB] 1 oL (by simp)
  have k6 := stale_c [evA, evB] 0 oL (by simp)
  have k7 := sweep_c [evS, evB] 0 oS (by simp)
  have k8 := lchk_c [evA, evB] oL (by simp)
  have k9 := lchk_c [evB, evA] oM (by simp)
  have k10 := of_c [evA, evB] tenQ oL (by simp)
  have k11 := prefixesP_c [evA, evB] (by simp)
  rw [ev1] at k1
  rw [ev2] at k2
  rw [ev3] at k3
  rw [ev4, ev5, ev6] at k4
  rw [ev7, ev8] at k5
  rw [ev9, ev10] at k6
  rw [ev11, ev12] at k7
  rw [ev13] at k8
  rw [ev14] at k9
  rw [ev15] at k10
  rw [ev16] at k11
  refine Meets.intro Try.func10 rfl (Nat.le_of_ble_eq_true rfl) fun C hC => ?_
  simp only [List.map, argEnv, Nat.reduceAdd]
  refine nK ?_
  refine s_reg rfl ?_
  refine Run.pure (dd := some 0) rfl rfl (op_assign rfl (Opd.const _)) ?_
  refine Run.nil (FinR.mk ?_)
  refine nK ?_
  refine s_reg rfl ?_
  refine Run.pure (dd := some 17) rfl rfl (op_build rfl rfl rfl (FillF.cons _ _ _ _ _ _ _ _ _ _ (by rfl) (Opd.const _) tC (by rfl) tR (FillF.cons _ _ _ _ _ _ _ _ _ _ (by rfl) (Opd.const _) tC (by rfl) tR (FillF.nil _)))) ?_
  refine Run.eff (dd := some 1) rfl rfl (op_alloc rfl rfl rfl rfl) ?_
  refine Run.eff (dd := none) rfl rfl (op_store_flat rfl (Opd.tmp _ _ rfl) (Opd.tmp _ _ rfl) tC rfl rfl (by first | rfl | assumption) tS) ?_
  refine Run.nil (FinR.mk ?_)
  refine nK ?_
  refine s_reg rfl ?_
  refine Run.load (dd := some 18) rfl rfl (op_loadw_flat rfl (Opd.tmp _ _ rfl) tH rfl) ?_
  refine Run.pure (dd := some 19) rfl rfl (op_buildZ (encAt zAt) rfl rfl (by exact zkA) (FillF.cons _ _ _ _ _ _ _ _ _ _ (by rfl) (Opd.const _) tC (by rfl) tR (FillF.nil _))) ?_
  refine Run.pure (dd := some 20) rfl rfl (op_buildZ (encPv zPv) rfl rfl (by exact zkP) (FillF.cons _ _ _ _ _ _ _ _ _ _ (by rfl) (Opd.tmp _ _ rfl) tC (by rfl) tR (FillF.cons _ _ _ _ _ _ _ _ _ _ (by rfl) (Opd.tmp _ _ rfl) tC (by rfl) tR (FillF.cons _ _ _ _ _ _ _ _ _ _ (by rfl) (Opd.const _) tC (by rfl) tR (FillF.nil _))))) ?_
  refine Run.eff (dd := some 2) rfl rfl (op_alloc rfl rfl rfl rfl) ?_
  refine Run.eff (dd := none) rfl rfl (op_store_flat rfl (Opd.tmp _ _ rfl) (Opd.tmp _ _ rfl) tC rfl rfl (by first | rfl | assumption) tS) ?_
  refine Run.nil (FinR.mk ?_)
  refine nK ?_
  refine s_reg rfl ?_
  refine Run.load (dd := some 21) rfl rfl (op_loadw_flat rfl (Opd.tmp _ _ rfl) tH rfl) ?_
  refine Run.eff (dd := some 3) rfl rfl (op_alloc rfl rfl rfl rfl) ?_
  refine Run.eff (dd := none) rfl rfl (op_store_flat rfl (Opd.tmp _ _ rfl) (Opd.tmp _ _ rfl) tC rfl rfl (by first | rfl | assumption) tS) ?_
  refine Run.nil (FinR.mk ?_)
  refine nK ?_
  refine s_reg rfl ?_
  refine Run.pure (dd := some 22) rfl rfl (op_fld_ptr (by decide) rfl (Opd.tmp _ _ rfl)) ?_
  refine Run.eff (dd := none) rfl rfl (op_store_flat rfl (Opd.tmp _ _ rfl) (Opd.const _) tC rfl rfl (by first | rfl | assumption) tS) ?_
  refine Run.nil (FinR.mk ?_)
  refine nK ?_
  refine s_reg rfl ?_
  refine Run.load (dd := some 24) rfl rfl (op_loadw_flat rfl (Opd.tmp _ _ rfl) tH rfl) ?_
  refine Run.pure (dd := some 25) rfl rfl (op_call_pure (fun _ => k1) rfl (Opd.func _) (Opds.cons _ _ _ _ (Opd.nil _ _ (Opd.const _)) (Opds.cons _ _ _ _ (Opd.tmp _ _ rfl) Opds.nil))) ?_
  refine Run.pure (dd := some 23) rfl rfl (op_move rfl (Opd.tmp _ _ rfl)) ?_
  refine Run.pure (dd := some 26) rfl rfl (op_extract_fz rfl (Opd.tmp _ _ rfl) rfl) ?_
  refine Run.pure (dd := some 27) rfl rfl (op_extract_fz rfl (Opd.tmp _ _ rfl) rfl) ?_
  refine Run.pure (dd := some 4) rfl rfl (op_assign rfl (Opd.tmp _ _ rfl)) ?_
  refine Run.pure (dd := some 5) rfl rfl (op_assign rfl (Opd.tmp _ _ rfl)) ?_
  refine Run.nil (FinR.mk ?_)
  refine nK ?_
  refine s_reg rfl ?_
  refine Run.pure (dd := some 29) rfl rfl (op_move rfl (Opd.tmp _ _ rfl)) ?_
  refine Run.load (dd := some 30) rfl rfl (op_loadw_flat rfl (Opd.tmp _ _ rfl) tH rfl) ?_
  refine Run.pure (dd := some 31) rfl rfl (op_call_pure (fun _ => k2) rfl (Opd.func _) (Opds.cons _ _ _ _ (Opd.tmp _ _ rfl) (Opds.cons _ _ _ _ (Opd.tmp _ _ rfl) Opds.nil))) ?_
  refine Run.pure (dd := some 28) rfl rfl (op_move rfl (Opd.tmp _ _ rfl)) ?_
  refine Run.pure (dd := some 32) rfl rfl (op_extract_fz rfl (Opd.tmp _ _ rfl) rfl) ?_
  refine Run.pure (dd := some 33) rfl rfl (op_extract_fz rfl (Opd.tmp _ _ rfl) rfl) ?_
  refine Run.pure (dd := some 4) rfl rfl (op_assign rfl (Opd.tmp _ _ rfl)) ?_
  refine Run.pure (dd := some 6) rfl rfl (op_assign rfl (Opd.tmp _ _ rfl)) ?_
  refine Run.nil (FinR.mk ?_)
  refine nK ?_
  refine s_reg rfl ?_
  refine Run.pure (dd := some 35) rfl rfl (op_move rfl (Opd.tmp _ _ rfl)) ?_
  refine Run.load (dd := some 36) rfl rfl (op_loadw_flat rfl (Opd.tmp _ _ rfl) tH rfl) ?_
  refine Run.pure (dd := some 37) rfl rfl (op_call_pure (fun _ => k3) rfl (Opd.func _) (Opds.cons _ _ _ _ (Opd.tmp _ _ rfl) (Opds.cons _ _ _ _ (Opd.tmp _ _ rfl) Opds.nil))) ?_
  refine Run.pure (dd := some 34) rfl rfl (op_move rfl (Opd.tmp _ _ rfl)) ?_
  refine Run.pure (dd := some 38) rfl rfl (op_extract_fz rfl (Opd.tmp _ _ rfl) rfl) ?_
  refine Run.pure (dd := some 39) rfl rfl (op_extract_fz rfl (Opd.tmp _ _ rfl) rfl) ?_
  refine Run.pure (dd := some 7) rfl rfl (op_assign rfl (Opd.tmp _ _ rfl)) ?_
  refine Run.pure (dd := some 8) rfl rfl (op_assign rfl (Opd.tmp _ _ rfl)) ?_
  refine Run.nil (FinR.mk ?_)
  refine nK ?_
  refine s_reg rfl ?_
  refine Run.pure (dd := some 41) rfl rfl (op_move rfl (Opd.tmp _ _ rfl)) ?_
  refine Run.load (dd := some 42) rfl rfl (op_loadw_flat rfl (Opd.tmp _ _ rfl) tH rfl) ?_
  refine Run.pure (dd := some 43) rfl rfl (op_call_pure (fun _ => k4) rfl (Opd.func _) (Opds.cons _ _ _ _ (Opd.tmp _ _ rfl) (Opds.cons _ _ _ _ (Opd.const _) (Opds.cons _ _ _ _ (Opd.tmp _ _ rfl) Opds.nil)))) ?_
  refine Run.pure (dd := some 40) rfl rfl (op_move rfl (Opd.tmp _ _ rfl)) ?_
  refine Run.pure (dd := some 44) rfl rfl (op_extract_fz rfl (Opd.tmp _ _ rfl) rfl) ?_
  refine Run.pure (dd := some 45) rfl rfl (op_extract_fz rfl (Opd.tmp _ _ rfl) rfl) ?_
  refine Run.pure (dd := some 9) rfl rfl (op_assign rfl (Opd.tmp _ _ rfl)) ?_
  refine Run.pure (dd := some 10) rfl rfl (op_assign rfl (Opd.tmp _ _ rfl)) ?_
  refine Run.nil (FinR.mk ?_)
  refine nK ?_
  refine s_reg rfl ?_
  refine Run.pure (dd := some 47) rfl rfl (op_move rfl (Opd.tmp _ _ rfl)) ?_
  refine Run.pure (dd := some 48) rfl rfl (op_call_pure (fun _ => k5) rfl (Opd.func _) (Opds.cons _ _ _ _ (Opd.tmp _ _ rfl) (Opds.cons _ _ _ _ (Opd.const _) Opds.nil))) ?_
  refine Run.pure (dd := some 46) rfl rfl (op_move rfl (Opd.tmp _ _ rfl)) ?_
  refine Run.pure (dd := some 49) rfl rfl (op_extract_fz rfl (Opd.tmp _ _ rfl) rfl) ?_
  refine Run.pure (dd := some 50) rfl rfl (op_extract_fz rfl (Opd.tmp _ _ rfl) rfl) ?_
  refine Run.pure (dd := some 11) rfl rfl (op_assign rfl (Opd.tmp _ _ rfl)) ?_
  refine Run.pure (dd := some 12) rfl rfl (op_assign rfl (Opd.tmp _ _ rfl)) ?_
  refine Run.nil (FinR.mk ?_)
  refine nK ?_
  refine s_reg rfl ?_
  refine Run.pure (dd := some 52) rfl rfl (op_move rfl (Opd.tmp _ _ rfl)) ?_
  refine Run.pure (dd := some 53) rfl rfl (op_call_pure (fun _ => k6) rfl (Opd.func _) (Opds.cons _ _ _ _ (Opd.tmp _ _ rfl) (Opds.cons _ _ _ _ (Opd.const _) Opds.nil))) ?_
  refine Run.pure (dd := some 51) rfl rfl (op_move rfl (Opd.tmp _ _ rfl)) ?_
  refine Run.pure (dd := some 54) rfl rfl (op_extract_fz rfl (Opd.tmp _ _ rfl) rfl) ?_
  refine Run.pure (dd := some 55) rfl rfl (op_extract_fz rfl (Opd.tmp _ _ rfl) rfl) ?_
  refine Run.pure (dd := some 13) rfl rfl (op_assign rfl (Opd.tmp _ _ rfl)) ?_
  refine Run.pure (dd := some 14) rfl rfl (op_assign rfl (Opd.tmp _ _ rfl)) ?_
  refine Run.nil (FinR.mk ?_)
  refine nK ?_
  refine s_reg rfl ?_
  refine Run.pure (dd := some 57) rfl rfl (op_move rfl (Opd.tmp _ _ rfl)) ?_
  refine Run.pure (dd := some 58) rfl rfl (op_call_pure (fun _ => k7) rfl (Opd.func _) (Opds.cons _ _ _ _ (Opd.tmp _ _ rfl) (Opds.cons _ _ _ _ (Opd.const _) Opds.nil))) ?_
  refine Run.pure (dd := some 56) rfl rfl (op_move rfl (Opd.tmp _ _ rfl)) ?_
  refine Run.pure (dd := some 59) rfl rfl (op_extract_fz rfl (Opd.tmp _ _ rfl) rfl) ?_
  refine Run.pure (dd := some 60) rfl rfl (op_extract_fz rfl (Opd.tmp _ _ rfl) rfl) ?_
  refine Run.pure (dd := some 15) rfl rfl (op_assign rfl (Opd.tmp _ _ rfl)) ?_
  refine Run.pure (dd := some 16) rfl rfl (op_assign rfl (Opd.tmp _ _ rfl)) ?_
  refine Run.nil (FinR.mk ?_)
  refine nK ?_
  refine s_reg rfl ?_
  refine Run.pure (dd := some 61) rfl rfl (op_move rfl (Opd.tmp _ _ rfl)) ?_
  refine Run.pure (dd := some 62) rfl rfl (op_not rfl (Opd.tmp _ _ rfl)) ?_
  refine Run.pure (dd := some 63) rfl rfl (op_move rfl (Opd.tmp _ _ rfl)) ?_
  refine Run.pureG (dd := some 64) rfl rfl rfl tG (op_move rfl (Opd.tmp _ _ rfl)) ?_
  refine Run.pureG (dd := some 65) rfl rfl rfl tG (op_not rfl (Opd.topt _ _ _ rfl tO)) ?_
  refine Run.pure (dd := some 66) rfl rfl (op_pick_or rfl (Opd.tmp _ _ rfl) (Opd.topt _ _ _ rfl tO)) ?_
  refine Run.pure (dd := some 67) rfl rfl (op_move rfl (Opd.tmp _ _ rfl)) ?_
  refine Run.pureG (dd := some 68) rfl rfl rfl tG (op_move rfl (Opd.tmp _ _ rfl)) ?_
  refine Run.pure (dd := some 69) rfl rfl (op_pick_or rfl (Opd.tmp _ _ rfl) (Opd.topt _ _ _ rfl tO)) ?_
  refine Run.pure (dd := some 70) rfl rfl (op_move rfl (Opd.tmp _ _ rfl)) ?_
  refine Run.pureG (dd := some 71) rfl rfl rfl tG (op_move rfl (Opd.tmp _ _ rfl)) ?_
  refine Run.pureG (dd := some 72) rfl rfl rfl tG (op_len_fz rfl (by first | exact Opd.topt _ _ _ rfl tO | exact Opd.nil _ _ (Opd.topt _ _ _ rfl tO)) (by first | exact List.length_map _ | rfl)) ?_
  refine Run.pureG (dd := some 73) rfl rfl rfl tG (op_neq rfl (Opd.topt _ _ _ rfl tO) (Opd.const _)) ?_
  refine Run.pure (dd := some 74) rfl rfl (op_pick_or rfl (Opd.tmp _ _ rfl) (Opd.topt _ _ _ rfl tO)) ?_
  refine Run.pure (dd := some 75) rfl rfl (op_move rfl (Opd.tmp _ _ rfl)) ?_
  refine Run.pureG (dd := some 76) rfl rfl rfl tG (op_move rfl (Opd.tmp _ _ rfl)) ?_
  refine Run.pureG (dd := some 77) rfl rfl rfl tG (op_idx_fz 0 rfl (Opd.topt _ _ _ rfl tO) (Opd.const _) (by intro _; exact ⟨by omega, rfl⟩)) ?_
  refine Run.pureG (dd := some 78) rfl rfl rfl tG (op_fld_fz (by decide) rfl (Opd.topt _ _ _ rfl tO) tR) ?_
  refine Run.pureG (dd := some 79) rfl rfl rfl tG (op_load1_fz rfl (Opd.topt _ _ _ rfl tO) rfl) ?_
  refine Run.pureG (dd := some 80) rfl rfl rfl tG (op_neq rfl (Opd.topt _ _ _ rfl tO) (Opd.const _)) ?_
  refine Run.pure (dd := some 81) rfl rfl (op_pick_or rfl (Opd.tmp _ _ rfl) (Opd.topt _ _ _ rfl tO)) ?_
  refine Run.pure (dd := some 82) rfl rfl (op_move rfl (Opd.tmp _ _ rfl)) ?_
  refine Run.pureG (dd := some 83) rfl rfl rfl tG (op_move rfl (Opd.tmp _ _ rfl)) ?_
  refine Run.pureG (dd := some 84) rfl rfl rfl tG (op_not rfl (Opd.topt _ _ _ rfl tO)) ?_
  refine Run.pure (dd := some 85) rfl rfl (op_pick_or rfl (Opd.tmp _ _ rfl) (Opd.topt _ _ _ rfl tO)) ?_
  refine Run.pure (dd := some 86) rfl rfl (op_move rfl (Opd.tmp _ _ rfl)) ?_
  refine Run.pureG (dd := some 87) rfl rfl rfl tG (op_move rfl (Opd.tmp _ _ rfl)) ?_
  refine Run.pureG (dd := some 88) rfl rfl rfl tG (op_len_fz rfl (by first | exact Opd.topt _ _ _ rfl tO | exact Opd.nil _ _ (Opd.topt _ _ _ rfl tO)) (by first | exact List.length_map _ | rfl)) ?_
  refine Run.pureG (dd := some 89) rfl rfl rfl tG (op_neq rfl (Opd.topt _ _ _ rfl tO) (Opd.const _)) ?_
  refine Run.pure (dd := some 90) rfl rfl (op_pick_or rfl (Opd.tmp _ _ rfl) (Opd.topt _ _ _ rfl tO)) ?_
  refine Run.pure (dd := some 91) rfl rfl (op_move rfl (Opd.tmp _ _ rfl)) ?_
  refine Run.pureG (dd := some 92) rfl rfl rfl tG (op_move rfl (Opd.tmp _ _ rfl)) ?_
  refine Run.pureG (dd := some 93) rfl rfl rfl tG (op_idx_fz 0 rfl (Opd.topt _ _ _ rfl tO) (Opd.const _) (by intro _; exact ⟨by omega, rfl⟩)) ?_
  refine Run.pureG (dd := some 94) rfl rfl rfl tG (op_fld_fz (by decide) rfl (Opd.topt _ _ _ rfl tO) tR) ?_
  refine Run.pureG (dd := some 95) rfl rfl rfl tG (op_load1_fz rfl (Opd.topt _ _ _ rfl tO) rfl) ?_
  refine Run.pureG (dd := some 96) rfl rfl rfl tG (op_neq rfl (Opd.topt _ _ _ rfl tO) (Opd.const _)) ?_
  refine Run.pure (dd := some 97) rfl rfl (op_pick_or rfl (Opd.tmp _ _ rfl) (Opd.topt _ _ _ rfl tO)) ?_
  refine Run.pure (dd := some 98) rfl rfl (op_move rfl (Opd.tmp _ _ rfl)) ?_
  refine Run.pureG (dd := some 99) rfl rfl rfl tG (op_move rfl (Opd.tmp _ _ rfl)) ?_
  refine Run.pureG (dd := some 100) rfl rfl rfl tG (op_len_fz rfl (by first | exact Opd.topt _ _ _ rfl tO | exact Opd.nil _ _ (Opd.topt _ _ _ rfl tO)) (by first | exact List.length_map _ | rfl)) ?_
  refine Run.pureG (dd := some 101) rfl rfl rfl tG (op_neq rfl (Opd.topt _ _ _ rfl tO) (Opd.const _)) ?_
  refine Run.pure (dd := some 102) rfl rfl (op_pick_or rfl (Opd.tmp _ _ rfl) (Opd.topt _ _ _ rfl tO)) ?_
  refine Run.pure (dd := some 103) rfl rfl (op_move rfl (Opd.tmp _ _ rfl)) ?_
  refine Run.pureG (dd := some 104) rfl rfl rfl tG (op_move rfl (Opd.tmp _ _ rfl)) ?_
  refine Run.pureG (dd := some 105) rfl rfl rfl tG (op_len_fz rfl (by first | exact Opd.topt _ _ _ rfl tO | exact Opd.nil _ _ (Opd.topt _ _ _ rfl tO)) (by first | exact List.length_map _ | rfl)) ?_
  refine Run.pureG (dd := some 106) rfl rfl rfl tG (op_neq rfl (Opd.topt _ _ _ rfl tO) (Opd.const _)) ?_
  refine Run.pure (dd := some 107) rfl rfl (op_pick_or rfl (Opd.tmp _ _ rfl) (Opd.topt _ _ _ rfl tO)) ?_
  refine Run.pure (dd := some 108) rfl rfl (op_move rfl (Opd.tmp _ _ rfl)) ?_
  refine Run.pureG (dd := some 109) rfl rfl rfl tG (op_move rfl (Opd.tmp _ _ rfl)) ?_
  refine Run.pureG (dd := some 110) rfl rfl rfl tG (op_len_fz rfl (by first | exact Opd.topt _ _ _ rfl tO | exact Opd.nil _ _ (Opd.topt _ _ _ rfl tO)) (by first | exact List.length_map _ | rfl)) ?_
  refine Run.pureG (dd := some 111) rfl rfl rfl tG (op_neq rfl (Opd.topt _ _ _ rfl tO) (Opd.const _)) ?_
  refine Run.pure (dd := some 112) rfl rfl (op_pick_or rfl (Opd.tmp _ _ rfl) (Opd.topt _ _ _ rfl tO)) ?_
  refine Run.pure (dd := some 113) rfl rfl (op_move rfl (Opd.tmp _ _ rfl)) ?_
  refine Run.pureG (dd := some 114) rfl rfl rfl tG (op_move rfl (Opd.tmp _ _ rfl)) ?_
  refine Run.pureG (dd := some 115) rfl rfl rfl tG (op_idx_fz 0 rfl (Opd.topt _ _ _ rfl tO) (Opd.const _) (by intro _; exact ⟨by omega, rfl⟩)) ?_
  refine Run.pureG (dd := some 116) rfl rfl rfl tG (op_fld_fz (by decide) rfl (Opd.topt _ _ _ rfl tO) tR) ?_
  refine Run.pureG (dd := some 117) rfl rfl rfl tG (op_load1_fz rfl (Opd.topt _ _ _ rfl tO) rfl) ?_
  refine Run.pureG (dd := some 118) rfl rfl rfl tG (op_not rfl (Opd.topt _ _ _ rfl tO)) ?_
  refine Run.pure (dd := some 119) rfl rfl (op_pick_or rfl (Opd.tmp _ _ rfl) (Opd.topt _ _ _ rfl tO)) ?_
  refine Run.pure (dd := some 120) rfl rfl (op_move rfl (Opd.tmp _ _ rfl)) ?_
  refine Run.pureG (dd := some 121) rfl rfl rfl tG (op_move rfl (Opd.tmp _ _ rfl)) ?_
  refine Run.pureG (dd := some 122) rfl rfl rfl tG (op_len_fz rfl (by first | exact Opd.topt _ _ _ rfl tO | exact Opd.nil _ _ (Opd.topt _ _ _ rfl tO)) (by first | exact List.length_map _ | rfl)) ?_
  refine Run.pureG (dd := some 123) rfl rfl rfl tG (op_neq rfl (Opd.topt _ _ _ rfl tO) (Opd.const _)) ?_
  refine Run.pure (dd := some 124) rfl rfl (op_pick_or rfl (Opd.tmp _ _ rfl) (Opd.topt _ _ _ rfl tO)) ?_
  refine Run.pure (dd := some 125) rfl rfl (op_move rfl (Opd.tmp _ _ rfl)) ?_
  refine Run.pureG (dd := some 126) rfl rfl rfl tG (op_move rfl (Opd.tmp _ _ rfl)) ?_
  refine Run.pureG (dd := some 127) rfl rfl rfl tG (op_len_fz rfl (by first | exact Opd.topt _ _ _ rfl tO | exact Opd.nil _ _ (Opd.topt _ _ _ rfl tO)) (by first | exact List.length_map _ | rfl)) ?_
  refine Run.pureG (dd := some 128) rfl rfl rfl tG (op_neq rfl (Opd.topt _ _ _ rfl tO) (Opd.const _)) ?_
  refine Run.pure (dd := some 129) rfl rfl (op_pick_or rfl (Opd.tmp _ _ rfl) (Opd.topt _ _ _ rfl tO)) ?_
  refine Run.nil (FinR.mk ?_)
  refine nK ?_
  refine n_cond _ rfl (fun hb => ?_) (fun hb => ?_)
  · exfalso; simp [evA, evB, evS] at hb
  · refine nK ?_
    refine s_reg rfl ?_
    refine Run.pure (dd := some 130) rfl rfl (op_move rfl (Opd.tmp _ _ rfl)) ?_
    refine Run.pure (dd := some 131) rfl rfl (op_call_pure (fun _ => k8) rfl (Opd.func _) (Opds.cons _ _ _ _ (Opd.tmp _ _ rfl) Opds.nil)) ?_
    refine Run.pure (dd := some 132) rfl rfl (op_eql rfl (Opd.tmp _ _ rfl) (Opd.const _)) ?_
    refine Run.pure (dd := some 133) rfl rfl (op_move rfl (Opd.tmp _ _ rfl)) ?_
    refine Run.loadG (dd := some 134) rfl rfl rfl tG (op_loadw_flat rfl (Opd.tmp _ _ rfl) tH rfl) ?_
    refine Run.loadG (dd := some 135) rfl rfl rfl tG (op_loadw_flat rfl (Opd.tmp _ _ rfl) tH rfl) ?_
    refine Run.pureG (dd := some 136) rfl rfl rfl tG (op_buildSlice_fz rfl (RowsF.cons _ _ _ _ _ _ (Opd.topt _ _ _ rfl tO) tC (by rfl) (RowsF.cons _ _ _ _ _ _ (Opd.topt _ _ _ rfl tO) tC (by rfl) (RowsF.nil _))) rfl rfl) ?_
    refine Run.pureG (dd := some 137) rfl rfl rfl tG (op_call_pure (fun _ => k9) rfl (Opd.func _) (Opds.cons _ _ _ _ (Opd.topt _ _ _ rfl tO) Opds.nil)) ?_
    refine Run.pureG (dd := some 138) rfl rfl rfl tG (op_eql rfl (Opd.topt _ _ _ rfl tO) (Opd.const _)) ?_
    refine Run.pure (dd := some 139) rfl rfl (op_pick_and rfl (Opd.tmp _ _ rfl) (Opd.topt _ _ _ rfl tO)) ?_
    refine Run.pure (dd := some 140) rfl rfl (op_move rfl (Opd.tmp _ _ rfl)) ?_
    refine Run.pureG (dd := some 141) rfl rfl rfl tG (op_move rfl (Opd.tmp _ _ rfl)) ?_
    refine Run.loadG (dd := some 142) rfl rfl rfl tG (op_loadw_flat rfl (Opd.tmp _ _ rfl) tH rfl) ?_
    refine Run.pureG (dd := some 143) rfl rfl rfl tG (op_call_pure (fun _ => k10) rfl (Opd.func _) (Opds.cons _ _ _ _ (Opd.topt _ _ _ rfl tO) (Opds.cons _ _ _ _ (Opd.topt _ _ _ rfl tO) Opds.nil))) ?_
    refine Run.pureG (dd := some 144) rfl rfl rfl tG (op_len_fz rfl (by first | exact Opd.topt _ _ _ rfl tO | exact Opd.nil _ _ (Opd.topt _ _ _ rfl tO)) (by first | exact List.length_map _ | rfl)) ?_
    refine Run.pureG (dd := some 145) rfl rfl rfl tG (op_eql rfl (Opd.topt _ _ _ rfl tO) (Opd.const _)) ?_
    refine Run.pure (dd := some 146) rfl rfl (op_pick_and rfl (Opd.tmp _ _ rfl) (Opd.topt _ _ _ rfl tO)) ?_
    refine Run.pure (dd := some 147) rfl rfl (op_move rfl (Opd.tmp _ _ rfl)) ?_
    refine Run.pureG (dd := some 148) rfl rfl rfl tG (op_move rfl (Opd.tmp _ _ rfl)) ?_
    refine Run.pureG (dd := some 149) rfl rfl rfl tG (op_call_pure (fun _ => k11) rfl (Opd.func _) (Opds.cons _ _ _ _ (Opd.topt _ _ _ rfl tO) Opds.nil)) ?_
    refine Run.pureG (dd := some 150) rfl rfl rfl tG (op_len_fz rfl (by first | exact Opd.topt _ _ _ rfl tO | exact Opd.nil _ _ (Opd.topt _ _ _ rfl tO)) (by first | exact List.length_map _ | rfl)) ?_
    refine Run.pureG (dd := some 151) rfl rfl rfl tG (op_eql rfl (Opd.topt _ _ _ rfl tO) (Opd.const _)) ?_
    refine Run.pure (dd := some 152) rfl rfl (op_pick_and rfl (Opd.tmp _ _ rfl) (Opd.topt _ _ _ rfl tO)) ?_
    refine Run.pure (dd := some 0) rfl rfl (op_assign rfl (Opd.tmp _ _ rfl)) ?_
    refine Run.nil (FinR.mk ?_)
    refine nK ?_
    refine s_oB hC rfl rfl ?_
    simp
open Go Go.RT Go.Proofs Go.Pl
set_option maxRecDepth 20000
structure okV (l : List Pvr) : Prop where
  ok : ∀ r ∈ l, okPv r
  fl : ∀ r ∈ l, (flatS r.t.pa).length ≤ 2000000000000
  len : l.length ≤ 2000000
theorem check_law (l : List Pvr) (h : okV l) : Pure Try.prog 3 [VPv l] (Bf true) := by
  have k1 := large_c l h.ok h.fl h.len
  have k2 := lchk_c l h.ok h.len
  have k3 := rlchk_c l h.ok h.len
  refine Meets.intro Try.func3 rfl (Nat.le_of_ble_eq_true rfl) fun C hC => ?_
  simp only [List.map, argEnv, Nat.reduceAdd]
  refine nK ?_
  refine s_reg rfl ?_
  refine Run.pure (dd := some 2) rfl rfl (op_assign rfl (Opd.const _)) ?_
  refine Run.nil (FinR.mk ?_)
  refine nK ?_
  refine s_reg rfl ?_
  refine Run.pure (dd := some 3) rfl rfl (op_move rfl (Opd.tmp _ _ rfl)) ?_
  refine Run.pure (dd := some 4) rfl rfl (op_call_pure (fun _ => k1) rfl (Opd.func _) (Opds.cons _ _ _ _ (Opd.tmp _ _ rfl) Opds.nil)) ?_
  refine Run.nil (FinR.mk ?_)
  refine nK ?_
  refine n_cond _ rfl (fun hb => ?_) (fun hb => ?_)
  · refine nK ?_
    refine s_reg rfl ?_
    refine Run.pure (dd := some 5) rfl rfl (op_call_pure (fun _ => awake_c) rfl (Opd.func _) Opds.nil) ?_
    refine Run.pure (dd := some 2) rfl rfl (op_assign rfl (Opd.tmp _ _ rfl)) ?_
    refine Run.nil (FinR.mk ?_)
    refine nK ?_
    (first | exact s_o1 hC rfl tV | exact s_o2 hC rfl tV tV | exact s_o3 hC rfl tV tV tV | exact s_o4 hC rfl tV tV tV tV | exact s_out0 hC rfl | exact s_outO hC rfl rfl rfl)
  · refine nK ?_
    refine s_reg rfl ?_
    refine Run.pure (dd := some 6) rfl rfl (op_move rfl (Opd.tmp _ _ rfl)) ?_
    refine Run.pure (dd := some 7) rfl rfl (op_call_pure (fun _ => k2) rfl (Opd.func _) (Opds.cons _ _ _ _ (Opd.tmp _ _ rfl) Opds.nil)) ?_
    refine Run.pure (dd := some 8) rfl rfl (op_move rfl (Opd.tmp _ _ rfl)) ?_
    refine Run.pure (dd := some 9) rfl rfl (op_call_pure (fun _ => k3) rfl (Opd.func _) (Opds.cons _ _ _ _ (Opd.tmp _ _ rfl) Opds.nil)) ?_
    refine Run.pure (dd := some 10) rfl rfl (op_eql rfl (Opd.tmp _ _ rfl) (Opd.tmp _ _ rfl)) ?_
    refine Run.pure (dd := some 11) rfl rfl (op_move rfl (Opd.tmp _ _ rfl)) ?_
    refine Run.pureG (dd := some 12) rfl rfl rfl tG (op_call_pure (fun _ => awake_c) rfl (Opd.func _) Opds.nil) ?_
    refine Run.pure (dd := some 13) rfl rfl (op_pick_and rfl (Opd.tmp _ _ rfl) (Opd.topt _ _ _ rfl tO)) ?_
    refine Run.pure (dd := some 2) rfl rfl (op_assign rfl (Opd.tmp _ _ rfl)) ?_
    refine Run.nil (FinR.mk ?_)
    refine nK ?_
    refine s_oB hC rfl rfl ?_
    simp
end Go.Proofs.Ytfkcbglnadjnnaa
/- How the arguments of the rows read. -/
namespace Go.Proofs.Ytfkcbglnadjnnaa
open Go Go.RT Go.Proofs Go.Pl
set_option linter.all false
variable {H : Type} {enc : TypeId × Value → H} {W : World} {ok : DataW H → Prop} {B : Nat}
theorem rdc_n : RdC ok enc Try.prog W 3 (fun fs => ∃ n, inr .i64 n ∧ fs = [If .i64 n]) := rdc_int (P := Try.prog) (t := 3) inferInstance
theorem rdc_u : RdC ok enc Try.prog W 27 (fun fs => ∃ n, inr .u32 n ∧ fs = [If .u32 n]) := rdc_int (P := Try.prog) (t := 27) inferInstance
theorem rdc_a : RdC ok enc Try.prog W 28 (fun fs => ∃ n, inr .u32 n ∧ fs = [If .u32 n]) := rdc_int (P := Try.prog) (t := 28) inferInstance
theorem rdc_y : RdC ok enc Try.prog W 5 (fun fs => ∃ n, inr .u8 n ∧ fs = [If .u8 n]) := rdc_int (P := Try.prog) (t := 5) inferInstance
theorem rdc_b : RdC ok enc Try.prog W 4 (fun fs => ∃ b, fs = [Bf b]) := rdc_bool (P := Try.prog) (t := 4) inferInstance
theorem rdc_pfx (dn : DnOk H ok B) : RdC ok enc Try.prog W 30 (fun fs => ∃ p : Pfx, p.ok ∧ fs = encP p) :=
  (rdc_struct (P := Try.prog) (t := 30) dn Try.underlying30 (by kernel_rfl) (.cons _ _ _ _ rdc_a (.cons _ _ _ _ rdc_n .nil))).imp fun fs h => by
    obtain ⟨_, _, rfl, ⟨a, ha, rfl⟩, _, _, rfl, ⟨b, hb, rfl⟩, rfl⟩ := h
    have ha' : 0 ≤ a ∧ a < 4294967296 := by simp only [inr] at ha; omega
    refine ⟨⟨a.toNat, b⟩, ⟨by show a.toNat < 2 ^ 32; omega, hb⟩, ?_⟩
    simp only [encP]
    rw [Int.toNat_of_nonneg ha'.1]; rfl
theorem rdc_ns (dn : DnOk H ok B) : RdC ok enc Try.prog W 91 (fun fs => ∃ l : List Int, (∀ x ∈ l, inr .i64 x) ∧ l.length ≤ B ∧ fs = [VI l]) :=
  (rdc_slice (P := Try.prog) (t := 91) (e := 3) dn inferInstance inferInstance (by decide) rdc_n).imp fun fs h => by
    obtain ⟨rows, hr, hl, rfl⟩ := h
    obtain ⟨l, rfl, ho⟩ := rows_of (enc := encN) (ok := inr .i64) (fun fs h => h) hr
    exact ⟨l, ho, by simpa using hl, rfl⟩
theorem rdc_ws (dn : DnOk H ok B) : RdC ok enc Try.prog W 32 (fun fs => ∃ l : List Int, (∀ x ∈ l, inr .u32 x) ∧ l.length ≤ B ∧ fs = [VW l]) :=
  (rdc_slice (P := Try.prog) (t := 32) (e := 27) dn inferInstance inferInstance (by decide) rdc_u).imp fun fs h => by
    obtain ⟨rows, hr, hl, rfl⟩ := h
    obtain ⟨l, rfl, ho⟩ := rows_of (enc := encW) (ok := inr .u32) (fun fs h => h) hr
    exact ⟨l, ho, by simpa using hl, rfl⟩
theorem rdc_ys (dn : DnOk H ok B) : RdC ok enc Try.prog W 75 (fun fs => ∃ l : List Int, (∀ x ∈ l, inr .u8 x) ∧ l.length ≤ B ∧ fs = [VY l]) :=
  (rdc_slice (P := Try.prog) (t := 75) (e := 5) dn inferInstance inferInstance (by decide) rdc_y).imp fun fs h => by
    obtain ⟨rows, hr, hl, rfl⟩ := h
    obtain ⟨l, rfl, ho⟩ := rows_of (enc := encY) (ok := inr .u8) (fun fs h => h) hr
    exact ⟨l, ho, by simpa using hl, rfl⟩
theorem rdc_seg (dn : DnOk H ok B) (hB : B ≤ 2000000) : RdC ok enc Try.prog W 98 (fun fs => ∃ e : Seg, (okSg e ∧ e.as'.length ≤ B) ∧ fs = encSg e) :=
  (rdc_struct (P := Try.prog) (t := 98) dn Try.underlying98 (by kernel_rfl) (.cons _ _ _ _ rdc_n (.cons _ _ _ _ (rdc_ns dn) .nil))).imp fun fs h => by
    obtain ⟨_, _, rfl, ⟨a, ha, rfl⟩, _, _, rfl, ⟨l, hl, hb, rfl⟩, rfl⟩ := h
    exact ⟨⟨a, l⟩, ⟨⟨ha, hl, by show l.length ≤ _; omega⟩, hb⟩, rfl⟩
theorem rdc_segs (dn : DnOk H ok B) (hB : B ≤ 2000000) : RdC ok enc Try.prog W 31 (fun fs => ∃ l : List Seg, (∀ x ∈ l, okSg x ∧ x.as'.length ≤ B) ∧ l.length ≤ B ∧ fs = [VSg l]) :=
  (rdc_slice (P := Try.prog) (t := 31) (e := 98) dn inferInstance inferInstance (by decide) (rdc_seg dn hB)).imp fun fs h => by
    obtain ⟨rows, hr, hl, rfl⟩ := h
    obtain ⟨l, rfl, ho⟩ := rows_of (enc := encSg) (ok := fun x => okSg x ∧ x.as'.length ≤ B) (fun fs h => h) hr
    exact ⟨l, ho, by simpa using hl, rfl⟩
theorem rdc_tlv (dn : DnOk H ok B) (hB : B ≤ 2000000) : RdC ok enc Try.prog W 77 (fun fs => ∃ e : Tlv, okTl e ∧ fs = encTl e) :=
  (rdc_struct (P := Try.prog) (t := 77) dn Try.underlying77 (by kernel_rfl) (.cons _ _ _ _ rdc_n (.cons _ _ _ _ (rdc_ys dn) .nil))).imp fun fs h => by
    obtain ⟨_, _, rfl, ⟨a, ha, rfl⟩, _, _, rfl, ⟨l, hl, hb, rfl⟩, rfl⟩ := h
    exact ⟨⟨a, l⟩, ⟨ha, fun x hx => by have := hl x hx; simp only [inr] at this; omega, by show l.length ≤ _; omega⟩, rfl⟩
theorem rdc_tlvs (dn : DnOk H ok B) (hB : B ≤ 2000000) : RdC ok enc Try.prog W 33 (fun fs => ∃ l : List Tlv, (∀ x ∈ l, okTl x) ∧ l.length ≤ B ∧ fs = [VTl l]) :=
  (rdc_slice (P := Try.prog) (t := 33) (e := 77) dn inferInstance inferInstance (by decide) (rdc_tlv dn hB)).imp fun fs h => by
    obtain ⟨rows, hr, hl, rfl⟩ := h
    obtain ⟨l, rfl, ho⟩ := rows_of (enc := encTl) (ok := okTl) (fun fs h => h) hr
    exact ⟨l, ho, by simpa using hl, rfl⟩
theorem flatS_bd {p : List Seg} (h : ∀ s ∈ p, s.as'.length ≤ B) : (flatS p).length ≤ p.length * B := by
  induction p with
  | nil => simp [flatS]
  | cons s p ih =>
    have h1 := ih fun x hx => h x (List.mem_cons_of_mem _ hx)
    have h2 := h s (List.mem_cons_self ..)
    have : (flatS (s :: p)).length = s.as'.length + (flatS p).length := by unfold flatS; simp
    rw [this, List.length_cons, Nat.succ_mul]; omega
theorem rdc_att (dn : DnOk H ok B) (hB : B ≤ 1048576) : RdC ok enc Try.prog W 35 (fun fs => ∃ e : Att, (okAt e ∧ (flatS e.pa).length ≤ 2000000000000) ∧ fs = encAt e) :=
  (rdc_struct (P := Try.prog) (t := 35) dn Try.underlying35 (by kernel_rfl) (.cons _ _ _ _ rdc_n (.cons _ _ _ _ (rdc_segs dn (by omega)) (.cons _ _ _ _ rdc_a (.cons _ _ _ _ rdc_b (.cons _ _ _ _ rdc_n (.cons _ _ _ _ rdc_b (.cons _ _ _ _ rdc_n (.cons _ _ _ _ rdc_b (.cons _ _ _ _ rdc_b (.cons _ _ _ _ rdc_n (.cons _ _ _ _ rdc_a (.cons _ _ _ _ (rdc_ws dn) (.cons _ _ _ _ rdc_b (.cons _ _ _ _ rdc_u (.cons _ _ _ _ (rdc_ws dn) (.cons _ _ _ _ (rdc_tlvs dn (by omega)) .nil))))))))))))))))).imp fun fs h => by
    obtain ⟨_, _, rfl, ⟨a1, h1, rfl⟩, _, _, rfl, ⟨a2, h2, b2, rfl⟩, _, _, rfl, ⟨a3, h3, rfl⟩, _, _, rfl, ⟨a4, rfl⟩, _, _, rfl, ⟨a5, h5, rfl⟩, _, _, rfl, ⟨a6, rfl⟩, _, _, rfl, ⟨a7, h7, rfl⟩, _, _, rfl, ⟨a8, rfl⟩, _, _, rfl, ⟨a9, rfl⟩, _, _, rfl, ⟨a10, h10, rfl⟩, _, _, rfl, ⟨a11, h11, rfl⟩, _, _, rfl, ⟨a12, h12, b12, rfl⟩, _, _, rfl, ⟨a13, rfl⟩, _, _, rfl, ⟨a14, h14, rfl⟩, _, _, rfl, ⟨a15, h15, b15, rfl⟩, _, _, rfl, ⟨a16, h16, b16, rfl⟩, rfl⟩ := h
    refine ⟨⟨a1, a2, a3, a4, a5, a6, a7, a8, a9, a10, a11, a12, a13, a14, a15, a16⟩, ⟨⟨h1, fun s hs => (h2 s hs).1, h3, h5, h7, h10, h11, h12, h14, h15, h16, by show a2.length ≤ _; omega, by show a12.length ≤ _; omega, by show a15.length ≤ _; omega, by show a16.length ≤ _; omega⟩, ?_⟩, rfl⟩
    have q := flatS_bd (p := a2) (B := B) fun s hs => (h2 s hs).2
    have q2 : a2.length * B ≤ 1048576 * 1048576 := Nat.mul_le_mul (by omega) (by omega)
    show (flatS a2).length ≤ _
    omega
theorem rdc_pv (dn : DnOk H ok B) (hB : B ≤ 1048576) : RdC ok enc Try.prog W 37 (fun fs => ∃ e : Pvr, (okPv e ∧ (flatS e.t.pa).length ≤ 2000000000000) ∧ fs = encPv e) :=
  (rdc_struct (P := Try.prog) (t := 37) dn Try.underlying37 (by kernel_rfl) (.cons _ _ _ _ (rdc_pfx dn) (.cons _ _ _ _ (rdc_att dn hB) (.cons _ _ _ _ rdc_n (.cons _ _ _ _ rdc_n (.cons _ _ _ _ rdc_u (.cons _ _ _ _ rdc_b .nil))))))).imp fun fs h => by
    obtain ⟨_, _, rfl, ⟨a1, h1, rfl⟩, _, _, rfl, ⟨a2, h2, rfl⟩, _, _, rfl, ⟨a3, h3, rfl⟩, _, _, rfl, ⟨a4, h4, rfl⟩, _, _, rfl, ⟨a5, h5, rfl⟩, _, _, rfl, ⟨a6, rfl⟩, rfl⟩ := h
    exact ⟨⟨a1, a2, a3, a4, a5, a6⟩, ⟨⟨h1, h2.1, h3, h4, h5⟩, h2.2⟩, rfl⟩
theorem rdc_pvs (dn : DnOk H ok B) (hB : B ≤ 1048576) : RdC ok enc Try.prog W 22 (fun fs => ∃ l : List Pvr, okV l ∧ fs = [VPv l]) :=
  (rdc_slice (P := Try.prog) (t := 22) (e := 37) dn inferInstance inferInstance (by decide) (rdc_pv dn hB)).imp fun fs h => by
    obtain ⟨rows, hr, hl, rfl⟩ := h
    obtain ⟨l, rfl, ho⟩ := rows_of (enc := encPv) (ok := fun x => okPv x ∧ (flatS x.t.pa).length ≤ 2000000000000) (fun fs h => h) hr
    have hl' : l.length ≤ B := by simpa using hl
    exact ⟨l, ⟨fun x hx => (ho x hx).1, fun x hx => (ho x hx).2, by omega⟩, rfl⟩
end Go.Proofs.Ytfkcbglnadjnnaa
