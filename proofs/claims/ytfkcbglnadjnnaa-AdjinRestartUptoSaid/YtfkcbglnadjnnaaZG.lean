/- A part of the proof: J24, J25, JP11, J26, J28, LJ. -/
import Derived.Test.YtfkcbglnadjnnaaZF
set_option linter.all false
namespace Go.Proofs.Ytfkcbglnadjnnaa
open Go Go.RT Go.Proofs Go.Pl
set_option linter.all false
set_option maxRecDepth 20000
set_option maxHeartbeats 4000000
def zPv : Pvr := ⟨⟨0, 0⟩, zAt, 0, 0, 0, false⟩
theorem zkA : zOk #[Value.int .i64 0, .slice none 0 0, .int .u32 0, .bool false, .int .i64 0, .bool false, .int .i64 0, .bool false, .bool false, .int .i64 0, .int .u32 0, .slice none 0 0, .bool false, .int .u32 0, .slice none 0 0, .slice none 0 0].toList (encAt zAt) := ⟨.inl rfl, .inr ⟨2, rfl, rfl⟩, .inl rfl, .inl rfl, .inl rfl, .inl rfl, .inl rfl, .inl rfl, .inl rfl, .inl rfl, .inl rfl, .inr ⟨1, rfl, rfl⟩, .inl rfl, .inl rfl, .inr ⟨1, rfl, rfl⟩, .inr ⟨2, rfl, rfl⟩, trivial⟩
theorem zkP : zOk #[Value.int .u32 0, .int .i64 0, .int .i64 0, .slice none 0 0, .int .u32 0, .bool false, .int .i64 0, .bool false, .int .i64 0, .bool false, .bool false, .int .i64 0, .int .u32 0, .slice none 0 0, .bool false, .int .u32 0, .slice none 0 0, .slice none 0 0, .int .i64 0, .int .i64 0, .int .u32 0, .bool false].toList (encPv zPv) := ⟨.inl rfl, .inl rfl, .inl rfl, .inr ⟨2, rfl, rfl⟩, .inl rfl, .inl rfl, .inl rfl, .inl rfl, .inl rfl, .inl rfl, .inl rfl, .inl rfl, .inl rfl, .inr ⟨1, rfl, rfl⟩, .inl rfl, .inl rfl, .inr ⟨1, rfl, rfl⟩, .inr ⟨2, rfl, rfl⟩, .inl rfl, .inl rfl, .inl rfl, .inl rfl, trivial⟩
theorem prefixesP_c (l : List Pvr) (hn : l.length ≤ 9000) : Pure Try.prog 29 [VPv l] (VP (pfsF l)) := by
  have k := prefixes_c l hn
  refine Meets.intro Try.func29 rfl (Nat.le_of_ble_eq_true rfl) fun C hC => ?_
  simp only [List.map, argEnv, Nat.reduceAdd]
  refine nK ?_
  refine s_reg rfl ?_
  refine Run.pure (dd := some 2) rfl rfl (op_assign rfl (Opd.const _)) ?_
  refine Run.nil (FinR.mk ?_)
  refine nK ?_
  refine s_reg rfl ?_
  refine Run.pure (dd := some 3) rfl rfl (op_move rfl (Opd.tmp _ _ rfl)) ?_
  refine Run.pure (dd := some 4) rfl rfl (op_call_pure (fun _ => k) rfl (Opd.func _) (Opds.cons _ _ _ _ (Opd.tmp _ _ rfl) Opds.nil)) ?_
  refine Run.pure (dd := some 2) rfl rfl (op_assign rfl (Opd.tmp _ _ rfl)) ?_
  refine Run.nil (FinR.mk ?_)
  refine nK ?_
  (first | exact s_o1 hC rfl tV | exact s_o2 hC rfl tV tV | exact s_o3 hC rfl tV tV tV | exact s_o4 hC rfl tV tV tV tV | exact s_out0 hC rfl | exact s_outO hC rfl rfl rfl)
theorem awake_c : Pure Try.prog 10 [] (Bf true) := by
  have oA := ev_ok (r := evA) (.inl rfl)
  have oB := ev_ok (r := evB) (.inr (.inl rfl))
  have oL : ∀ r ∈ [evA, evB], okPv r := fun r hr => by simp at hr; exact ev_ok (hr.elim .inl fun h => .inr (.inl h))
  have oM : ∀ r ∈ [evB, evA], okPv r := fun r hr => by simp at hr; exact ev_ok (hr.elim (fun h => .inr (.inl h)) .inl)
  have oS : ∀ r ∈ [evS, evB], okPv r := fun r hr => by simp at hr; exact ev_ok (hr.elim (fun h => .inr (.inr h)) fun h => .inr (.inl h))
  have k1 := put_c [] evB (by simp) oB (by simp)
  have k2 := put_c [evB] evA (by simpa using oB) oA (by simp)
  have k3 := put_c [evA, evB] evA oL oA (by simp)
  have k4 := drop_c [evA, evB] 0 tenQ oL (by simp)
  have k5 := clear_c [evA, evB] 1 oL (by simp)
  have k6 := stale_c [evA, evB] 0 oL (by simp)
  have k7 := sweep_c [evS, evB] 0 oS (by simp)
  have k8 := lchk_c [evA, evB] oL (by simp)
  have k9 := lchk_c [evB, evA] oM (by simp)
  have k10 := of_c [evA, evB] tenQ oL (by simp)
  have k11 := prefixesP_c [evA, evB] (by simp)
  rw [ev1] at k1
  rw [ev2] at k2
  rw [ev3] at k3
  rw [ev4, ev5, ev6] at k4
  rw [ev7, ev8] at k5
  rw [ev9, ev10] at k6
  rw [ev11, ev12] at k7
  rw [ev13] at k8
  rw [ev14] at k9
  rw [ev15] at k10
  rw [ev16] at k11
  refine Meets.intro Try.func10 rfl (Nat.le_of_ble_eq_true rfl) fun C hC => ?_
  simp only [List.map, argEnv, Nat.reduceAdd]
  refine nK ?_
  refine s_reg rfl ?_
  refine Run.pure (dd := some 0) rfl rfl (op_assign rfl (Opd.const _)) ?_
  refine Run.nil (FinR.mk ?_)
  refine nK ?_
  refine s_reg rfl ?_
  refine Run.pure (dd := some 17) rfl rfl (op_build rfl rfl rfl (FillF.cons _ _ _ _ _ _ _ _ _ _ (by rfl) (Opd.const _) tC (by rfl) tR (FillF.cons _ _ _ _ _ _ _ _ _ _ (by rfl) (Opd.const _) tC (by rfl) tR (FillF.nil _)))) ?_
  refine Run.eff (dd := some 1) rfl rfl (op_alloc rfl rfl rfl rfl) ?_
  refine Run.eff (dd := none) rfl rfl (op_store_flat rfl (Opd.tmp _ _ rfl) (Opd.tmp _ _ rfl) tC rfl rfl (by first | rfl | assumption) tS) ?_
  refine Run.nil (FinR.mk ?_)
  refine nK ?_
  refine s_reg rfl ?_
  refine Run.load (dd := some 18) rfl rfl (op_loadw_flat rfl (Opd.tmp _ _ rfl) tH rfl) ?_
  refine Run.pure (dd := some 19) rfl rfl (op_buildZ (encAt zAt) rfl rfl (by exact zkA) (FillF.cons _ _ _ _ _ _ _ _ _ _ (by rfl) (Opd.const _) tC (by rfl) tR (FillF.nil _))) ?_
  refine Run.pure (dd := some 20) rfl rfl (op_buildZ (encPv zPv) rfl rfl (by exact zkP) (FillF.cons _ _ _ _ _ _ _ _ _ _ (by rfl) (Opd.tmp _ _ rfl) tC (by rfl) tR (FillF.cons _ _ _ _ _ _ _ _ _ _ (by rfl) (Opd.tmp _ _ rfl) tC (by rfl) tR (FillF.cons _ _ _ _ _ _ _ _ _ _ (by rfl) (Opd.const _) tC (by rfl) tR (FillF.nil _))))) ?_
  refine Run.eff (dd := some 2) rfl rfl (op_alloc rfl rfl rfl rfl) ?_
  refine Run.eff (dd := none) rfl rfl (op_store_flat rfl (Opd.tmp _ _ rfl) (Opd.tmp _ _ rfl) tC rfl rfl (by first | rfl | assumption) tS) ?_
  refine Run.nil (FinR.mk ?_)
  refine nK ?_
  refine s_reg rfl ?_
  refine Run.load (dd := some 21) rfl rfl (op_loadw_flat rfl (Opd.tmp _ _ rfl) tH rfl) ?_
  refine Run.eff (dd := some 3) rfl rfl (op_alloc rfl rfl rfl rfl) ?_
  refine Run.eff (dd := none) rfl rfl (op_store_flat rfl (Opd.tmp _ _ rfl) (Opd.tmp _ _ rfl) tC rfl rfl (by first | rfl | assumption) tS) ?_
  refine Run.nil (FinR.mk ?_)
  refine nK ?_
  refine s_reg rfl ?_
  refine Run.pure (dd := some 22) rfl rfl (op_fld_ptr (by decide) rfl (Opd.tmp _ _ rfl)) ?_
  refine Run.eff (dd := none) rfl rfl (op_store_flat rfl (Opd.tmp _ _ rfl) (Opd.const _) tC rfl rfl (by first | rfl | assumption) tS) ?_
  refine Run.nil (FinR.mk ?_)
  refine nK ?_
  refine s_reg rfl ?_
  refine Run.load (dd := some 24) rfl rfl (op_loadw_flat rfl (Opd.tmp _ _ rfl) tH rfl) ?_
  refine Run.pure (dd := some 25) rfl rfl (op_call_pure (fun _ => k1) rfl (Opd.func _) (Opds.cons _ _ _ _ (Opd.nil _ _ (Opd.const _)) (Opds.cons _ _ _ _ (Opd.tmp _ _ rfl) Opds.nil))) ?_
  refine Run.pure (dd := some 23) rfl rfl (op_move rfl (Opd.tmp _ _ rfl)) ?_
  refine Run.pure (dd := some 26) rfl rfl (op_extract_fz rfl (Opd.tmp _ _ rfl) rfl) ?_
  refine Run.pure (dd := some 27) rfl rfl (op_extract_fz rfl (Opd.tmp _ _ rfl) rfl) ?_
  refine Run.pure (dd := some 4) rfl rfl (op_assign rfl (Opd.tmp _ _ rfl)) ?_
  refine Run.pure (dd := some 5) rfl rfl (op_assign rfl (Opd.tmp _ _ rfl)) ?_
  refine Run.nil (FinR.mk ?_)
  refine nK ?_
  refine s_reg rfl ?_
  refine Run.pure (dd := some 29) rfl rfl (op_move rfl (Opd.tmp _ _ rfl)) ?_
  refine Run.load (dd := some 30) rfl rfl (op_loadw_flat rfl (Opd.tmp _ _ rfl) tH rfl) ?_
  refine Run.pure (dd := some 31) rfl rfl (op_call_pure (fun _ => k2) rfl (Opd.func _) (Opds.cons _ _ _ _ (Opd.tmp _ _ rfl) (Opds.cons _ _ _ _ (Opd.tmp _ _ rfl) Opds.nil))) ?_
  refine Run.pure (dd := some 28) rfl rfl (op_move rfl (Opd.tmp _ _ rfl)) ?_
  refine Run.pure (dd := some 32) rfl rfl (op_extract_fz rfl (Opd.tmp _ _ rfl) rfl) ?_
  refine Run.pure (dd := some 33) rfl rfl (op_extract_fz rfl (Opd.tmp _ _ rfl) rfl) ?_
  refine Run.pure (dd := some 4) rfl rfl (op_assign rfl (Opd.tmp _ _ rfl)) ?_
  refine Run.pure (dd := some 6) rfl rfl (op_assign rfl (Opd.tmp _ _ rfl)) ?_
  refine Run.nil (FinR.mk ?_)
  refine nK ?_
  refine s_reg rfl ?_
  refine Run.pure (dd := some 35) rfl rfl (op_move rfl (Opd.tmp _ _ rfl)) ?_
  refine Run.load (dd := some 36) rfl rfl (op_loadw_flat rfl (Opd.tmp _ _ rfl) tH rfl) ?_
  refine Run.pure (dd := some 37) rfl rfl (op_call_pure (fun _ => k3) rfl (Opd.func _) (Opds.cons _ _ _ _ (Opd.tmp _ _ rfl) (Opds.cons _ _ _ _ (Opd.tmp _ _ rfl) Opds.nil))) ?_
  refine Run.pure (dd := some 34) rfl rfl (op_move rfl (Opd.tmp _ _ rfl)) ?_
  refine Run.pure (dd := some 38) rfl rfl (op_extract_fz rfl (Opd.tmp _ _ rfl) rfl) ?_
  refine Run.pure (dd := some 39) rfl rfl (op_extract_fz rfl (Opd.tmp _ _ rfl) rfl) ?_
  refine Run.pure (dd := some 7) rfl rfl (op_assign rfl (Opd.tmp _ _ rfl)) ?_
  refine Run.pure (dd := some 8) rfl rfl (op_assign rfl (Opd.tmp _ _ rfl)) ?_
  refine Run.nil (FinR.mk ?_)
  refine nK ?_
  refine s_reg rfl ?_
  refine Run.pure (dd := some 41) rfl rfl (op_move rfl (Opd.tmp _ _ rfl)) ?_
  refine Run.load (dd := some 42) rfl rfl (op_loadw_flat rfl (Opd.tmp _ _ rfl) tH rfl) ?_
  refine Run.pure (dd := some 43) rfl rfl (op_call_pure (fun _ => k4) rfl (Opd.func _) (Opds.cons _ _ _ _ (Opd.tmp _ _ rfl) (Opds.cons _ _ _ _ (Opd.const _) (Opds.cons _ _ _ _ (Opd.tmp _ _ rfl) Opds.nil)))) ?_
  refine Run.pure (dd := some 40) rfl rfl (op_move rfl (Opd.tmp _ _ rfl)) ?_
  refine Run.pure (dd := some 44) rfl rfl (op_extract_fz rfl (Opd.tmp _ _ rfl) rfl) ?_
  refine Run.pure (dd := some 45) rfl rfl (op_extract_fz rfl (Opd.tmp _ _ rfl) rfl) ?_
  refine Run.pure (dd := some 9) rfl rfl (op_assign rfl (Opd.tmp _ _ rfl)) ?_
  refine Run.pure (dd := some 10) rfl rfl (op_assign rfl (Opd.tmp _ _ rfl)) ?_
  refine Run.nil (FinR.mk ?_)
  refine nK ?_
  refine s_reg rfl ?_
  refine Run.pure (dd := some 47) rfl rfl (op_move rfl (Opd.tmp _ _ rfl)) ?_
  refine Run.pure (dd := some 48) rfl rfl (op_call_pure (fun _ => k5) rfl (Opd.func _) (Opds.cons _ _ _ _ (Opd.tmp _ _ rfl) (Opds.cons _ _ _ _ (Opd.const _) Opds.nil))) ?_
  refine Run.pure (dd := some 46) rfl rfl (op_move rfl (Opd.tmp _ _ rfl)) ?_
  refine Run.pure (dd := some 49) rfl rfl (op_extract_fz rfl (Opd.tmp _ _ rfl) rfl) ?_
  refine Run.pure (dd := some 50) rfl rfl (op_extract_fz rfl (Opd.tmp _ _ rfl) rfl) ?_
  refine Run.pure (dd := some 11) rfl rfl (op_assign rfl (Opd.tmp _ _ rfl)) ?_
  refine Run.pure (dd := some 12) rfl rfl (op_assign rfl (Opd.tmp _ _ rfl)) ?_
  refine Run.nil (FinR.mk ?_)
  refine nK ?_
  refine s_reg rfl ?_
  refine Run.pure (dd := some 52) rfl rfl (op_move rfl (Opd.tmp _ _ rfl)) ?_
  refine Run.pure (dd := some 53) rfl rfl (op_call_pure (fun _ => k6) rfl (Opd.func _) (Opds.cons _ _ _ _ (Opd.tmp _ _ rfl) (Opds.cons _ _ _ _ (Opd.const _) Opds.nil))) ?_
  refine Run.pure (dd := some 51) rfl rfl (op_move rfl (Opd.tmp _ _ rfl)) ?_
  refine Run.pure (dd := some 54) rfl rfl (op_extract_fz rfl (Opd.tmp _ _ rfl) rfl) ?_
  refine Run.pure (dd := some 55) rfl rfl (op_extract_fz rfl (Opd.tmp _ _ rfl) rfl) ?_
  refine Run.pure (dd := some 13) rfl rfl (op_assign rfl (Opd.tmp _ _ rfl)) ?_
  refine Run.pure (dd := some 14) rfl rfl (op_assign rfl (Opd.tmp _ _ rfl)) ?_
  refine Run.nil (FinR.mk ?_)
  refine nK ?_
  refine s_reg rfl ?_
  refine Run.pure (dd := some 57) rfl rfl (op_move rfl (Opd.tmp _ _ rfl)) ?_
  refine Run.pure (dd := some 58) rfl rfl (op_call_pure (fun _ => k7) rfl (Opd.func _) (Opds.cons _ _ _ _ (Opd.tmp _ _ rfl) (Opds.cons _ _ _ _ (Opd.const _) Opds.nil))) ?_
  refine Run.pure (dd := some 56) rfl rfl (op_move rfl (Opd.tmp _ _ rfl)) ?_
  refine Run.pure (dd := some 59) rfl rfl (op_extract_fz rfl (Opd.tmp _ _ rfl) rfl) ?_
  refine Run.pure (dd := some 60) rfl rfl (op_extract_fz rfl (Opd.tmp _ _ rfl) rfl) ?_
  refine Run.pure (dd := some 15) rfl rfl (op_assign rfl (Opd.tmp _ _ rfl)) ?_
  refine Run.pure (dd := some 16) rfl rfl (op_assign rfl (Opd.tmp _ _ rfl)) ?_
  refine Run.nil (FinR.mk ?_)
  refine nK ?_
  refine s_reg rfl ?_
  refine Run.pure (dd := some 61) rfl rfl (op_move rfl (Opd.tmp _ _ rfl)) ?_
  refine Run.pure (dd := some 62) rfl rfl (op_not rfl (Opd.tmp _ _ rfl)) ?_
  refine Run.pure (dd := some 63) rfl rfl (op_move rfl (Opd.tmp _ _ rfl)) ?_
  refine Run.pureG (dd := some 64) rfl rfl rfl tG (op_move rfl (Opd.tmp _ _ rfl)) ?_
  refine Run.pureG (dd := some 65) rfl rfl rfl tG (op_not rfl (Opd.topt _ _ _ rfl tO)) ?_
  refine Run.pure (dd := some 66) rfl rfl (op_pick_or rfl (Opd.tmp _ _ rfl) (Opd.topt _ _ _ rfl tO)) ?_
  refine Run.pure (dd := some 67) rfl rfl (op_move rfl (Opd.tmp _ _ rfl)) ?_
  refine Run.pureG (dd := some 68) rfl rfl rfl tG (op_move rfl (Opd.tmp _ _ rfl)) ?_
  refine Run.pure (dd := some 69) rfl rfl (op_pick_or rfl (Opd.tmp _ _ rfl) (Opd.topt _ _ _ rfl tO)) ?_
  refine Run.pure (dd := some 70) rfl rfl (op_move rfl (Opd.tmp _ _ rfl)) ?_
  refine Run.pureG (dd := some 71) rfl rfl rfl tG (op_move rfl (Opd.tmp _ _ rfl)) ?_
  refine Run.pureG (dd := some 72) rfl rfl rfl tG (op_len_fz rfl (by first | exact Opd.topt _ _ _ rfl tO | exact Opd.nil _ _ (Opd.topt _ _ _ rfl tO)) (by first | exact List.length_map _ | rfl)) ?_
  refine Run.pureG (dd := some 73) rfl rfl rfl tG (op_neq rfl (Opd.topt _ _ _ rfl tO) (Opd.const _)) ?_
  refine Run.pure (dd := some 74) rfl rfl (op_pick_or rfl (Opd.tmp _ _ rfl) (Opd.topt _ _ _ rfl tO)) ?_
  refine Run.pure (dd := some 75) rfl rfl (op_move rfl (Opd.tmp _ _ rfl)) ?_
  refine Run.pureG (dd := some 76) rfl rfl rfl tG (op_move rfl (Opd.tmp _ _ rfl)) ?_
  refine Run.pureG (dd := some 77) rfl rfl rfl tG (op_idx_fz 0 rfl (Opd.topt _ _ _ rfl tO) (Opd.const _) (by intro _; exact ⟨by omega, rfl⟩)) ?_
  refine Run.pureG (dd := some 78) rfl rfl rfl tG (op_fld_fz (by decide) rfl (Opd.topt _ _ _ rfl tO) tR) ?_
  refine Run.pureG (dd := some 79) rfl rfl rfl tG (op_load1_fz rfl (Opd.topt _ _ _ rfl tO) rfl) ?_
  refine Run.pureG (dd := some 80) rfl rfl rfl tG (op_neq rfl (Opd.topt _ _ _ rfl tO) (Opd.const _)) ?_
  refine Run.pure (dd := some 81) rfl rfl (op_pick_or rfl (Opd.tmp _ _ rfl) (Opd.topt _ _ _ rfl tO)) ?_
  refine Run.pure (dd := some 82) rfl rfl (op_move rfl (Opd.tmp _ _ rfl)) ?_
  refine Run.pureG (dd := some 83) rfl rfl rfl tG (op_move rfl (Opd.tmp _ _ rfl)) ?_
  refine Run.pureG (dd := some 84) rfl rfl rfl tG (op_not rfl (Opd.topt _ _ _ rfl tO)) ?_
  refine Run.pure (dd := some 85) rfl rfl (op_pick_or rfl (Opd.tmp _ _ rfl) (Opd.topt _ _ _ rfl tO)) ?_
  refine Run.pure (dd := some 86) rfl rfl (op_move rfl (Opd.tmp _ _ rfl)) ?_
  refine Run.pureG (dd := some 87) rfl rfl rfl tG (op_move rfl (Opd.tmp _ _ rfl)) ?_
  refine Run.pureG (dd := some 88) rfl rfl rfl tG (op_len_fz rfl (by first | exact Opd.topt _ _ _ rfl tO | exact Opd.nil _ _ (Opd.topt _ _ _ rfl tO)) (by first | exact List.length_map _ | rfl)) ?_
  refine Run.pureG (dd := some 89) rfl rfl rfl tG (op_neq rfl (Opd.topt _ _ _ rfl tO) (Opd.const _)) ?_
  refine Run.pure (dd := some 90) rfl rfl (op_pick_or rfl (Opd.tmp _ _ rfl) (Opd.topt _ _ _ rfl tO)) ?_
  refine Run.pure (dd := some 91) rfl rfl (op_move rfl (Opd.tmp _ _ rfl)) ?_
  refine Run.pureG (dd := some 92) rfl rfl rfl tG (op_move rfl (Opd.tmp _ _ rfl)) ?_
  refine Run.pureG (dd := some 93) rfl rfl rfl tG (op_idx_fz 0 rfl (Opd.topt _ _ _ rfl tO) (Opd.const _) (by intro _; exact ⟨by omega, rfl⟩)) ?_
  refine Run.pureG (dd := some 94) rfl rfl rfl tG (op_fld_fz (by decide) rfl (Opd.topt _ _ _ rfl tO) tR) ?_
  refine Run.pureG (dd := some 95) rfl rfl rfl tG (op_load1_fz rfl (Opd.topt _ _ _ rfl tO) rfl) ?_
  refine Run.pureG (dd := some 96) rfl rfl rfl tG (op_neq rfl (Opd.topt _ _ _ rfl tO) (Opd.const _)) ?_
  refine Run.pure (dd := some 97) rfl rfl (op_pick_or rfl (Opd.tmp _ _ rfl) (Opd.topt _ _ _ rfl tO)) ?_
  refine Run.pure (dd := some 98) rfl rfl (op_move rfl (Opd.tmp _ _ rfl)) ?_
  refine Run.pureG (dd := some 99) rfl rfl rfl tG (op_move rfl (Opd.tmp _ _ rfl)) ?_
  refine Run.pureG (dd := some 100) rfl rfl rfl tG (op_len_fz rfl (by first | exact Opd.topt _ _ _ rfl tO | exact Opd.nil _ _ (Opd.topt _ _ _ rfl tO)) (by first | exact List.length_map _ | rfl)) ?_
  refine Run.pureG (dd := some 101) rfl rfl rfl tG (op_neq rfl (Opd.topt _ _ _ rfl tO) (Opd.const _)) ?_
  refine Run.pure (dd := some 102) rfl rfl (op_pick_or rfl (Opd.tmp _ _ rfl) (Opd.topt _ _ _ rfl tO)) ?_
  refine Run.pure (dd := some 103) rfl rfl (op_move rfl (Opd.tmp _ _ rfl)) ?_
  refine Run.pureG (dd := some 104) rfl rfl rfl tG (op_move rfl (Opd.tmp _ _ rfl)) ?_
  refine Run.pureG (dd := some 105) rfl rfl rfl tG (op_len_fz rfl (by first | exact Opd.topt _ _ _ rfl tO | exact Opd.nil _ _ (Opd.topt _ _ _ rfl tO)) (by first | exact List.length_map _ | rfl)) ?_
  refine Run.pureG (dd := some 106) rfl rfl rfl tG (op_neq rfl (Opd.topt _ _ _ rfl tO) (Opd.const _)) ?_
  refine Run.pure (dd := some 107) rfl rfl (op_pick_or rfl (Opd.tmp _ _ rfl) (Opd.topt _ _ _ rfl tO)) ?_
  refine Run.pure (dd := some 108) rfl rfl (op_move rfl (Opd.tmp _ _ rfl)) ?_
  refine Run.pureG (dd := some 109) rfl rfl rfl tG (op_move rfl (Opd.tmp _ _ rfl)) ?_
  refine Run.pureG (dd := some 110) rfl rfl rfl tG (op_len_fz rfl (by first | exact Opd.topt _ _ _ rfl tO | exact Opd.nil _ _ (Opd.topt _ _ _ rfl tO)) (by first | exact List.length_map _ | rfl)) ?_
  refine Run.pureG (dd := some 111) rfl rfl rfl tG (op_neq rfl (Opd.topt _ _ _ rfl tO) (Opd.const _)) ?_
  refine Run.pure (dd := some 112) rfl rfl (op_pick_or rfl (Opd.tmp _ _ rfl) (Opd.topt _ _ _ rfl tO)) ?_
  refine Run.pure (dd := some 113) rfl rfl (op_move rfl (Opd.tmp _ _ rfl)) ?_
  refine Run.pureG (dd := some 114) rfl rfl rfl tG (op_move rfl (Opd.tmp _ _ rfl)) ?_
  refine Run.pureG (dd := some 115) rfl rfl rfl tG (op_idx_fz 0 rfl (Opd.topt _ _ _ rfl tO) (Opd.const _) (by intro _; exact ⟨by omega, rfl⟩)) ?_
  refine Run.pureG (dd := some 116) rfl rfl rfl tG (op_fld_fz (by decide) rfl (Opd.topt _ _ _ rfl tO) tR) ?_
  refine Run.pureG (dd := some 117) rfl rfl rfl tG (op_load1_fz rfl (Opd.topt _ _ _ rfl tO) rfl) ?_
  refine Run.pureG (dd := some 118) rfl rfl rfl tG (op_not rfl (Opd.topt _ _ _ rfl tO)) ?_
  refine Run.pure (dd := some 119) rfl rfl (op_pick_or rfl (Opd.tmp _ _ rfl) (Opd.topt _ _ _ rfl tO)) ?_
  refine Run.pure (dd := some 120) rfl rfl (op_move rfl (Opd.tmp _ _ rfl)) ?_
  refine Run.pureG (dd := some 121) rfl rfl rfl tG (op_move rfl (Opd.tmp _ _ rfl)) ?_
  refine Run.pureG (dd := some 122) rfl rfl rfl tG (op_len_fz rfl (by first | exact Opd.topt _ _ _ rfl tO | exact Opd.nil _ _ (Opd.topt _ _ _ rfl tO)) (by first | exact List.length_map _ | rfl)) ?_
  refine Run.pureG (dd := some 123) rfl rfl rfl tG (op_neq rfl (Opd.topt _ _ _ rfl tO) (Opd.const _)) ?_
  refine Run.pure (dd := some 124) rfl rfl (op_pick_or rfl (Opd.tmp _ _ rfl) (Opd.topt _ _ _ rfl tO)) ?_
  refine Run.pure (dd := some 125) rfl rfl (op_move rfl (Opd.tmp _ _ rfl)) ?_
  refine Run.pureG (dd := some 126) rfl rfl rfl tG (op_move rfl (Opd.tmp _ _ rfl)) ?_
  refine Run.pureG (dd := some 127) rfl rfl rfl tG (op_len_fz rfl (by first | exact Opd.topt _ _ _ rfl tO | exact Opd.nil _ _ (Opd.topt _ _ _ rfl tO)) (by first | exact List.length_map _ | rfl)) ?_
  refine Run.pureG (dd := some 128) rfl rfl rfl tG (op_neq rfl (Opd.topt _ _ _ rfl tO) (Opd.const _)) ?_
  refine Run.pure (dd := some 129) rfl rfl (op_pick_or rfl (Opd.tmp _ _ rfl) (Opd.topt _ _ _ rfl tO)) ?_
  refine Run.nil (FinR.mk ?_)
  refine nK ?_
  refine n_cond _ rfl (fun hb => ?_) (fun hb => ?_)
  · exfalso; simp [evA, evB, evS] at hb
  · refine nK ?_
    refine s_reg rfl ?_
    refine Run.pure (dd := some 130) rfl rfl (op_move rfl (Opd.tmp _ _ rfl)) ?_
    refine Run.pure (dd := some 131) rfl rfl (op_call_pure (fun _ => k8) rfl (Opd.func _) (Opds.cons _ _ _ _ (Opd.tmp _ _ rfl) Opds.nil)) ?_
    refine Run.pure (dd := some 132) rfl rfl (op_eql rfl (Opd.tmp _ _ rfl) (Opd.const _)) ?_
    refine Run.pure (dd := some 133) rfl rfl (op_move rfl (Opd.tmp _ _ rfl)) ?_
    refine Run.loadG (dd := some 134) rfl rfl rfl tG (op_loadw_flat rfl (Opd.tmp _ _ rfl) tH rfl) ?_
    refine Run.loadG (dd := some 135) rfl rfl rfl tG (op_loadw_flat rfl (Opd.tmp _ _ rfl) tH rfl) ?_
    refine Run.pureG (dd := some 136) rfl rfl rfl tG (op_buildSlice_fz rfl (RowsF.cons _ _ _ _ _ _ (Opd.topt _ _ _ rfl tO) tC (by rfl) (RowsF.cons _ _ _ _ _ _ (Opd.topt _ _ _ rfl tO) tC (by rfl) (RowsF.nil _))) rfl rfl) ?_
    refine Run.pureG (dd := some 137) rfl rfl rfl tG (op_call_pure (fun _ => k9) rfl (Opd.func _) (Opds.cons _ _ _ _ (Opd.topt _ _ _ rfl tO) Opds.nil)) ?_
    refine Run.pureG (dd := some 138) rfl rfl rfl tG (op_eql rfl (Opd.topt _ _ _ rfl tO) (Opd.const _)) ?_
    refine Run.pure (dd := some 139) rfl rfl (op_pick_and rfl (Opd.tmp _ _ rfl) (Opd.topt _ _ _ rfl tO)) ?_
    refine Run.pure (dd := some 140) rfl rfl (op_move rfl (Opd.tmp _ _ rfl)) ?_
    refine Run.pureG (dd := some 141) rfl rfl rfl tG (op_move rfl (Opd.tmp _ _ rfl)) ?_
    refine Run.loadG (dd := some 142) rfl rfl rfl tG (op_loadw_flat rfl (Opd.tmp _ _ rfl) tH rfl) ?_
    refine Run.pureG (dd := some 143) rfl rfl rfl tG (op_call_pure (fun _ => k10) rfl (Opd.func _) (Opds.cons _ _ _ _ (Opd.topt _ _ _ rfl tO) (Opds.cons _ _ _ _ (Opd.topt _ _ _ rfl tO) Opds.nil))) ?_
    refine Run.pureG (dd := some 144) rfl rfl rfl tG (op_len_fz rfl (by first | exact Opd.topt _ _ _ rfl tO | exact Opd.nil _ _ (Opd.topt _ _ _ rfl tO)) (by first | exact List.length_map _ | rfl)) ?_
    refine Run.pureG (dd := some 145) rfl rfl rfl tG (op_eql rfl (Opd.topt _ _ _ rfl tO) (Opd.const _)) ?_
    refine Run.pure (dd := some 146) rfl rfl (op_pick_and rfl (Opd.tmp _ _ rfl) (Opd.topt _ _ _ rfl tO)) ?_
    refine Run.pure (dd := some 147) rfl rfl (op_move rfl (Opd.tmp _ _ rfl)) ?_
    refine Run.pureG (dd := some 148) rfl rfl rfl tG (op_move rfl (Opd.tmp _ _ rfl)) ?_
    refine Run.pureG (dd := some 149) rfl rfl rfl tG (op_call_pure (fun _ => k11) rfl (Opd.func _) (Opds.cons _ _ _ _ (Opd.topt _ _ _ rfl tO) Opds.nil)) ?_
    refine Run.pureG (dd := some 150) rfl rfl rfl tG (op_len_fz rfl (by first | exact Opd.topt _ _ _ rfl tO | exact Opd.nil _ _ (Opd.topt _ _ _ rfl tO)) (by first | exact List.length_map _ | rfl)) ?_
    refine Run.pureG (dd := some 151) rfl rfl rfl tG (op_eql rfl (Opd.topt _ _ _ rfl tO) (Opd.const _)) ?_
    refine Run.pure (dd := some 152) rfl rfl (op_pick_and rfl (Opd.tmp _ _ rfl) (Opd.topt _ _ _ rfl tO)) ?_
    refine Run.pure (dd := some 0) rfl rfl (op_assign rfl (Opd.tmp _ _ rfl)) ?_
    refine Run.nil (FinR.mk ?_)
    refine nK ?_
    refine s_oB hC rfl rfl ?_
    simp
open Go Go.RT Go.Proofs Go.Pl
set_option maxRecDepth 20000
structure okV (l : List Pvr) : Prop where
  ok : ∀ r ∈ l, okPv r
  fl : ∀ r ∈ l, (flatS r.t.pa).length ≤ 2000000000000
  len : l.length ≤ 2000000
theorem check_law (l : List Pvr) (h : okV l) : Pure Try.prog 3 [VPv l] (Bf true) := by
  have k1 := large_c l h.ok h.fl h.len
  have k2 := lchk_c l h.ok h.len
  have k3 := rlchk_c l h.ok h.len
  refine Meets.intro Try.func3 rfl (Nat.le_of_ble_eq_true rfl) fun C hC => ?_
  simp only [List.map, argEnv, Nat.reduceAdd]
  refine nK ?_
  refine s_reg rfl ?_
  refine Run.pure (dd := some 2) rfl rfl (op_assign rfl (Opd.const _)) ?_
  refine Run.nil (FinR.mk ?_)
  refine nK ?_
  refine s_reg rfl ?_
  refine Run.pure (dd := some 3) rfl rfl (op_move rfl (Opd.tmp _ _ rfl)) ?_
  refine Run.pure (dd := some 4) rfl rfl (op_call_pure (fun _ => k1) rfl (Opd.func _) (Opds.cons _ _ _ _ (Opd.tmp _ _ rfl) Opds.nil)) ?_
  refine Run.nil (FinR.mk ?_)
  refine nK ?_
  refine n_cond _ rfl (fun hb => ?_) (fun hb => ?_)
  · refine nK ?_
    refine s_reg rfl ?_
    refine Run.pure (dd := some 5) rfl rfl (op_call_pure (fun _ => awake_c) rfl (Opd.func _) Opds.nil) ?_
    refine Run.pure (dd := some 2) rfl rfl (op_assign rfl (Opd.tmp _ _ rfl)) ?_
    refine Run.nil (FinR.mk ?_)
    refine nK ?_
    (first | exact s_o1 hC rfl tV | exact s_o2 hC rfl tV tV | exact s_o3 hC rfl tV tV tV | exact s_o4 hC rfl tV tV tV tV | exact s_out0 hC rfl | exact s_outO hC rfl rfl rfl)
  · refine nK ?_
    refine s_reg rfl ?_
    refine Run.pure (dd := some 6) rfl rfl (op_move rfl (Opd.tmp _ _ rfl)) ?_
    refine Run.pure (dd := some 7) rfl rfl (op_call_pure (fun _ => k2) rfl (Opd.func _) (Opds.cons _ _ _ _ (Opd.tmp _ _ rfl) Opds.nil)) ?_
    refine Run.pure (dd := some 8) rfl rfl (op_move rfl (Opd.tmp _ _ rfl)) ?_
    refine Run.pure (dd := some 9) rfl rfl (op_call_pure (fun _ => k3) rfl (Opd.func _) (Opds.cons _ _ _ _ (Opd.tmp _ _ rfl) Opds.nil)) ?_
    refine Run.pure (dd := some 10) rfl rfl (op_eql rfl (Opd.tmp _ _ rfl) (Opd.tmp _ _ rfl)) ?_
    refine Run.pure (dd := some 11) rfl rfl (op_move rfl (Opd.tmp _ _ rfl)) ?_
    refine Run.pureG (dd := some 12) rfl rfl rfl tG (op_call_pure (fun _ => awake_c) rfl (Opd.func _) Opds.nil) ?_
    refine Run.pure (dd := some 13) rfl rfl (op_pick_and rfl (Opd.tmp _ _ rfl) (Opd.topt _ _ _ rfl tO)) ?_
    refine Run.pure (dd := some 2) rfl rfl (op_assign rfl (Opd.tmp _ _ rfl)) ?_
    refine Run.nil (FinR.mk ?_)
    refine nK ?_
    refine s_oB hC rfl rfl ?_
    simp
end Go.Proofs.Ytfkcbglnadjnnaa
/- What the operations make of ascending lists. No program in sight. -/
namespace Go.Pl
open Go Go.RT
set_option linter.all false
abbrev ascL (l : List Pvr) : Prop := l.Pairwise ltV
theorem ascV_asc {l : List Pvr} (h : ascV none l = true) : ascL l := ((ascV_iff l none).1 h).1
theorem asc_ascV {l : List Pvr} (h : ascL l) : ascV none l = true := (ascV_iff l none).2 ⟨h, fun q hq => by cases hq⟩
theorem ltV_neq {x r : Pvr} (h : ltV x r) : ordV r x ≠ 0 := by
  intro k
  obtain ⟨k1, k2⟩ := (ordV_zero r x).1 k
  rcases h with h | ⟨_, h⟩
  · rw [k1] at h; exact h.irr.elim
  · omega
theorem ordV_pos {x r : Pvr} (h1 : ¬ ordV x r < 0) (h2 : ordV x r ≠ 0) : ltV r x := by
  rw [ordV_neg] at h1
  rw [ne_eq, ordV_zero] at h2
  unfold ltV at *
  by_cases e : x.px = r.px
  · refine .inr ⟨e.symm, ?_⟩
    have : ¬ x.pe < r.pe := fun k => h1 (.inr ⟨e, k⟩)
    have : x.pe ≠ r.pe := fun k => h2 ⟨e, k⟩
    omega
  · refine .inl ?_
    have k1 : ¬ ltPf x.px r.px := fun k => h1 (.inl k)
    have k2 : ¬ (x.px.addr = r.px.addr ∧ x.px.len = r.px.len) := fun k => e (by
      generalize x.px = p at *
      generalize r.px = q at *
      cases p; cases q; simp at k; simp [k])
    unfold ltPf at *
    omega
def insV (r : Pvr) : List Pvr → List Pvr
  | [] => [r]
  | x :: t => if ordV x r < 0 then x :: insV r t else if ordV x r = 0 then r :: t else r :: x :: t
theorem putG_done (r : Pvr) : ∀ (l o : List Pvr) (c : Bool), (∀ x ∈ l, ltV r x) → l.foldl (putS r) (o, c, true) = (o ++ l, c, true)
  | [], o, c, _ => by simp
  | x :: t, o, c, h => by
    have h1 := ltV_neq (h x (List.mem_cons_self ..))
    rw [List.foldl_cons, show putS r (o, c, true) x = (o ++ [x], c, true) by simp [putS, h1], putG_done r t _ c fun y hy => h y (List.mem_cons_of_mem _ hy)]
    simp
theorem putG_ins (r : Pvr) : ∀ (l o : List Pvr) (c : Bool), ascL l → (if (l.foldl (putS r) (o, c, false)).2.2 = true then (l.foldl (putS r) (o, c, false)).1 else (l.foldl (putS r) (o, c, false)).1 ++ [r]) = o ++ insV r l
  | [], o, c, _ => by simp [insV]
  | x :: t, o, c, h => by
    obtain ⟨h1, h2⟩ := List.pairwise_cons.1 h
    rw [List.foldl_cons]
    by_cases k1 : ordV x r < 0
    · have e : putS r (o, c, false) x = (o ++ [x], c, false) := by
        have a : ¬ (0 ≤ ordV x r) := by omega
        have b : ordV x r ≠ 0 := by omega
        simp [putS, a, b]
      rw [e, putG_ins r t _ c h2]
      simp [insV, k1]
    · have a : 0 ≤ ordV x r := by omega
      by_cases k2 : ordV x r = 0
      · have hg : ∀ y ∈ t, ltV r y := fun y hy => by
          have := h1 y hy
          obtain ⟨e1, e2⟩ := (ordV_zero x r).1 k2
          unfold ltV at *
          rw [← e1, ← e2]; exact this
        have e : putS r (o, c, false) x = (o ++ [r], chgV x r, true) := by simp [putS, a, k2]
        rw [e, putG_done r t _ _ hg]
        simp [insV, k1, k2]
      · have hr := ordV_pos k1 k2
        have e : putS r (o, c, false) x = (o ++ [r] ++ [x], c, true) := by simp [putS, a, k2]
        rw [e, putG_done r t _ _ fun y hy => hr.trans (h1 y hy)]
        simp [insV, k1, k2]
theorem putF_ins {l : List Pvr} (r : Pvr) (h : ascL l) : (putF l r).1 = insV r l := by
  have := putG_ins r l [] true h
  rw [List.nil_append] at this
  exact this
theorem insV_mem {r x : Pvr} : ∀ {l : List Pvr}, x ∈ insV r l → x = r ∨ x ∈ l
  | [], h => by simp [insV] at h; exact .inl h
  | y :: t, h => by
    simp only [insV] at h
    split at h
    · rcases List.mem_cons.1 h with rfl | h
      · exact .inr (List.mem_cons_self ..)
      · exact (insV_mem h).imp id (List.mem_cons_of_mem _)
    · split at h
      · rcases List.mem_cons.1 h with rfl | h
        · exact .inl rfl
        · exact .inr (List.mem_cons_of_mem _ h)
      · rcases List.mem_cons.1 h with rfl | h
        · exact .inl rfl
        · exact .inr h
theorem insV_len (r : Pvr) : ∀ l : List Pvr, (insV r l).length ≤ l.length + 1
  | [] => by simp [insV]
  | y :: t => by
    have := insV_len r t
    simp only [insV]
    split
    · simp; omega
    · split <;> simp
theorem insV_asc {r : Pvr} : ∀ {l : List Pvr}, ascL l → ascL (insV r l)
  | [], _ => by simp [insV, ascL]
  | y :: t, h => by
    obtain ⟨h1, h2⟩ := List.pairwise_cons.1 h
    simp only [insV]
    split
    · next k =>
      refine List.pairwise_cons.2 ⟨fun z hz => ?_, insV_asc h2⟩
      rcases insV_mem hz with rfl | hz
      · exact (ordV_neg _ _).1 k
      · exact h1 z hz
    · next k =>
      split
      · next k2 =>
        obtain ⟨e1, e2⟩ := (ordV_zero y r).1 k2
        refine List.pairwise_cons.2 ⟨fun z hz => ?_, h2⟩
        have := h1 z hz
        unfold ltV at *
        rw [← e1, ← e2]; exact this
      · next k2 =>
        have hr := ordV_pos k k2
        refine List.pairwise_cons.2 ⟨fun z hz => ?_, h⟩
        rcases List.mem_cons.1 hz with rfl | hz
        · exact hr
        · exact hr.trans (h1 z hz)
theorem insV_oth {r : Pvr} : ∀ {l : List Pvr}, (insV r l).filter (fun x => decide (x.pe ≠ r.pe)) = l.filter fun x => decide (x.pe ≠ r.pe)
  | [] => by simp [insV]
  | y :: t => by
    simp only [insV]
    split
    · rw [List.filter_cons, List.filter_cons, insV_oth]
    · split
      · next k2 =>
        obtain ⟨e1, e2⟩ := (ordV_zero y r).1 k2
        rw [List.filter_cons, List.filter_cons]; simp [e2]
      · rw [List.filter_cons]; simp
theorem insV_own {r : Pvr} (hr : r.st = false) : ∀ {l : List Pvr}, (∀ x ∈ l, x.pe = r.pe → x.st = true) → (insV r l).filter (fun x => decide (x.pe = r.pe) && !x.st) = [r]
  | [], _ => by simp [insV, hr]
  | y :: t, h => by
    have h1 : ∀ x ∈ y :: t, (decide (x.pe = r.pe) && !x.st) = false := fun x hx => by
      by_cases k : x.pe = r.pe
      · simp [h x hx k]
      · simp [k]
    have h2 : t.filter (fun x => decide (x.pe = r.pe) && !x.st) = [] := List.filter_eq_nil_iff.2 fun x hx => by rw [h1 x (List.mem_cons_of_mem _ hx)]; decide
    simp only [insV]
    split
    · rw [List.filter_cons, if_neg (by rw [h1 y (List.mem_cons_self ..)]; decide)]
      exact insV_own hr fun x hx => h x (List.mem_cons_of_mem _ hx)
    · split
      · rw [List.filter_cons, if_pos (by simp [hr]), h2]
      · rw [List.filter_cons, if_pos (by simp [hr]), List.filter_cons, if_neg (by rw [h1 y (List.mem_cons_self ..)]; decide), h2]
/-! marks -/
theorem mkSt_px (n : Int) (x : Pvr) : (mkSt n x).px = x.px := by unfold mkSt; split <;> rfl
theorem mkSt_pe (n : Int) (x : Pvr) : (mkSt n x).pe = x.pe := by unfold mkSt; split <;> rfl
theorem mkSt_ok {n : Int} {x : Pvr} (h : okPv x) : okPv (mkSt n x) := by unfold mkSt; split; exact ⟨h.px, h.t, h.pe, h.kd, h.ro⟩; exact h
theorem mkSt_asc (n : Int) {l : List Pvr} (h : ascL l) : ascL (l.map (mkSt n)) := by
  refine List.pairwise_map.2 (h.imp fun {a b} k => ?_)
  unfold ltV at *
  rw [mkSt_px, mkSt_px, mkSt_pe, mkSt_pe]; exact k
theorem mkSt_oth (n : Int) : ∀ l : List Pvr, (l.map (mkSt n)).filter (fun x => decide (x.pe ≠ n)) = l.filter fun x => decide (x.pe ≠ n)
  | [] => rfl
  | y :: t => by
    rw [List.map_cons, List.filter_cons, List.filter_cons, mkSt_oth, mkSt_pe]
    by_cases k : y.pe = n
    · simp [k]
    · simp [k, mkSt]
theorem mkSt_st {n : Int} {l : List Pvr} : ∀ x ∈ l.map (mkSt n), x.pe = n → x.st = true := fun x hx hn => by
  obtain ⟨y, hy, rfl⟩ := List.mem_map.1 hx
  rw [mkSt_pe] at hn
  simp [mkSt, hn]
/-! filters -/
theorem filt_oth {n : Int} {p : Pvr → Bool} (hp : ∀ x, x.pe ≠ n → p x = true) : ∀ l : List Pvr, (l.filter p).filter (fun x => decide (x.pe ≠ n)) = l.filter fun x => decide (x.pe ≠ n)
  | [] => rfl
  | y :: t => by
    have ih := filt_oth hp t
    by_cases k : y.pe = n
    · rw [show (y :: t).filter (fun x => decide (x.pe ≠ n)) = t.filter fun x => decide (x.pe ≠ n) from List.filter_cons_of_neg (by simp [k]), ← ih]
      rw [List.filter_cons]
      split
      · rw [List.filter_cons, if_neg (by simp [k])]
      · rfl
    · rw [List.filter_cons, if_pos (hp y k), List.filter_cons, List.filter_cons, if_pos (by simp [k]), if_pos (by simp [k]), ih]
def rsF (l : List Pvr) (r : Pvr) : List Pvr := (insV r ((l.filter fun x => !(decide (x.pe = r.pe) && x.st)).map (mkSt r.pe))).filter fun x => !(decide (x.pe = r.pe) && x.st)
theorem rs_own (l : List Pvr) {r : Pvr} (hr : r.st = false) : (rsF l r).filter (fun x => decide (x.pe = r.pe)) = [r] := by
  unfold rsF
  rw [List.filter_filter, List.filter_congr (q := fun x => decide (x.pe = r.pe) && !x.st)]
  · exact insV_own hr fun x hx hn => mkSt_st x hx hn
  · intro x _
    by_cases k : x.pe = r.pe <;> simp [k]
theorem rs_oth (l : List Pvr) (r : Pvr) : (rsF l r).filter (fun x => decide (x.pe ≠ r.pe)) = l.filter fun x => decide (x.pe ≠ r.pe) := by
  unfold rsF
  rw [filt_oth (fun x hx => by simp [hx]), insV_oth, mkSt_oth, filt_oth (fun x hx => by simp [hx])]
structure goodV (l : List Pvr) (n : Int) (x : List Pvr) : Prop where
  ok : ∀ r ∈ x, okPv r
  len : x.length ≤ l.length + 1
  asc : ascL x
  oth : x.filter (fun x => decide (x.pe ≠ n)) = l.filter fun x => decide (x.pe ≠ n)
theorem good_filt {l : List Pvr} {n : Int} {p : Pvr → Bool} (h : ∀ r ∈ l, okPv r) (ha : ascL l) (hp : ∀ x, x.pe ≠ n → p x = true) : goodV l n (l.filter p) :=
  ⟨fun r hr => h r (List.mem_filter.1 hr).1, Nat.le_succ_of_le (List.length_filter_le _ _), ha.filter p, filt_oth hp l⟩
theorem good_st {l : List Pvr} {n : Int} {x : List Pvr} (h : goodV l n x) : goodV l n (x.map (mkSt n)) :=
  ⟨fun r hr => by obtain ⟨y, hy, rfl⟩ := List.mem_map.1 hr; exact mkSt_ok (h.ok y hy), by rw [List.length_map]; exact h.len, mkSt_asc n h.asc, by rw [mkSt_oth]; exact h.oth⟩
theorem good_put {l : List Pvr} {r : Pvr} (h : ∀ r ∈ l, okPv r) (hr : okPv r) (ha : ascL l) : goodV l r.pe (insV r l) :=
  ⟨fun x hx => by rcases insV_mem hx with rfl | hx; exact hr; exact h x hx, insV_len r l, insV_asc ha, insV_oth⟩
theorem pfs_own {n : Int} {p : Pvr → Bool} (hp : ∀ x, p x = true → x.pe = n) {l : List Pvr} (h : ascL l) : pfsF (l.filter p) = (l.filter p).map (·.px) := by
  unfold pfsF
  refine (sortPf_uniq ?_ fun x => Iff.rfl).symm
  refine List.pairwise_map.2 ?_
  refine List.Pairwise.imp_of_mem ?_ (h.filter p)
  intro a b ha hb k
  have h1 := hp a (List.mem_filter.1 ha).2
  have h2 := hp b (List.mem_filter.1 hb).2
  rcases k with k | ⟨_, k⟩
  · exact k
  · omega
theorem pfs_any (p : Pvr → Bool) (l : List Pvr) : decide (0 < ((pfsF (l.filter p)).length : Int)) = l.any p := by
  rw [Bool.eq_iff_iff, decide_eq_true_eq, List.any_eq_true]
  constructor
  · intro h
    have h0 : 0 < (pfsF (l.filter p)).length := by omega
    obtain ⟨x, hx⟩ := List.exists_mem_of_length_pos h0
    unfold pfsF at hx
    rw [sortPf_mem] at hx
    obtain ⟨y, hy, _⟩ := List.mem_map.1 hx
    exact ⟨y, List.mem_filter.1 hy⟩
  · rintro ⟨y, hy⟩
    have : y.px ∈ pfsF (l.filter p) := by
      unfold pfsF
      rw [sortPf_mem]
      exact List.mem_map.2 ⟨y, List.mem_filter.2 hy, rfl⟩
    have := List.length_pos_of_mem this
    omega
theorem rprF_go : ∀ (l : List Pvr) (o : List Pfx), ascP o → ascL l → (∀ p, o.getLast? = some p → ∀ x ∈ l, ltPf p x.px ∨ p = x.px) → ascP (l.foldl (fun o x => if o.getLast? = some x.px then o else o ++ [x.px]) o) ∧ ∀ q, q ∈ l.foldl (fun o x => if o.getLast? = some x.px then o else o ++ [x.px]) o ↔ q ∈ o ∨ q ∈ l.map (·.px)
  | [], o, ho, _, _ => by simpa using ho
  | x :: t, o, ho, h, hl => by
    obtain ⟨h1, h2⟩ := List.pairwise_cons.1 h
    rw [List.foldl_cons]
    by_cases k : o.getLast? = some x.px
    · rw [if_pos k]
      obtain ⟨r1, r2⟩ := rprF_go t o ho h2 fun p hp y hy => hl p hp y (List.mem_cons_of_mem _ hy)
      refine ⟨r1, fun q => ?_⟩
      rw [r2, List.map_cons, List.mem_cons]
      have := List.mem_of_getLast? k
      constructor
      · rintro (a | a)
        · exact .inl a
        · exact .inr (.inr a)
      · rintro (a | a | a)
        · exact .inl a
        · exact .inl (a ▸ this)
        · exact .inr a
    · rw [if_neg k]
      have hlt : ∀ p ∈ o, ltPf p x.px := fun p hp => by
        have hne : o ≠ [] := List.ne_nil_of_mem hp
        have hg : o.getLast? = some (o.getLast hne) := List.getLast?_eq_some_getLast hne
        have hx : ltPf (o.getLast hne) x.px := by
          rcases hl _ hg x (List.mem_cons_self ..) with a | a
          · exact a
          · rw [a] at hg; exact absurd hg k
        have ho' := ho
        rw [← List.dropLast_concat_getLast hne] at hp ho'
        rcases List.mem_append.1 hp with a | a
        · exact ((List.pairwise_append.1 ho').2.2 p a _ (List.mem_singleton.2 rfl)).trans hx
        · rw [List.mem_singleton.1 a]; exact hx
      have ho2 : ascP (o ++ [x.px]) := List.pairwise_append.2 ⟨ho, List.pairwise_singleton _ _, fun a ha b hb => by rw [List.mem_singleton.1 hb]; exact hlt a ha⟩
      obtain ⟨r1, r2⟩ := rprF_go t (o ++ [x.px]) ho2 h2 fun p hp y hy => by
        rw [List.getLast?_append] at hp
        simp at hp
        subst hp
        rcases h1 y hy with a | ⟨a, _⟩
        · exact .inl a
        · exact .inr a
      refine ⟨r1, fun q => ?_⟩
      rw [r2, List.map_cons, List.mem_cons, List.mem_append, List.mem_singleton, or_assoc]
theorem rprF_eq {l : List Pvr} (h : ascL l) : pfsF l = rprF l := by
  obtain ⟨r1, r2⟩ := rprF_go l [] List.Pairwise.nil h (by simp)
  unfold pfsF rprF
  exact (sortPf_uniq r1 fun x => by rw [r2]; simp).symm
end Go.Pl
namespace Go.Proofs.Ytfkcbglnadjnnaa
open Go Go.RT Go.Proofs Go.Pl
set_option linter.all false
set_option maxRecDepth 20000
set_option maxHeartbeats 4000000
theorem large_len {l : List Pvr} (h : largeV l = false) : l.length ≤ 2100 := by
  unfold largeV at h
  simp at h
  omega
theorem sls_r (a : List Pvr) (ha : a.length ≤ 2000000) (ka : ∀ r ∈ a, okPv r) : Pure Try.prog 17 [VPv a, VPv a] (Bf true) := by
  have k := sls_c a a ha ha ka ka
  rwa [show decide (a = a) = true by simp] at k
theorem samePf_r (a : List Pfx) (ha : a.length ≤ 2000000) : Pure Try.prog 22 [VP a, VP a] (Bf true) := by
  have k := samePf_c a a ha ha
  rwa [show decide (a = a) = true by simp] at k
theorem put_ok {l : List Pvr} {r : Pvr} (h : ∀ x ∈ l, okPv x) (hr : okPv r) : ∀ x ∈ insV r l, okPv x := fun x hx => by
  rcases insV_mem hx with rfl | hx
  · exact hr
  · exact h x hx
theorem put_law (l : List Pvr) (r : Pvr) (h : okV l) (hr : okPv r) (hf : (flatS r.t.pa).length ≤ 2000000000000) : Pure Try.prog 4 [VPv l, .agg (encPv r)] (Bf true) := by
  have k1 := large_c l h.ok h.fl h.len
  have k2 := large36_c r.t hr.t hf
  have k3 := asc_c l h.len
  refine Meets.intro Try.func4 rfl (Nat.le_of_ble_eq_true rfl) fun C hC => ?_
  simp only [List.map, argEnv, Nat.reduceAdd]
  refine nK ?_
  refine s_reg rfl ?_
  refine Run.eff (dd := some 3) rfl rfl (op_box_flat rfl (Opd.tmp _ _ rfl) tC rfl) ?_
  refine Run.pure (dd := some 4) rfl rfl (op_assign rfl (Opd.const _)) ?_
  refine Run.nil (FinR.mk ?_)
  refine nK ?_
  refine s_reg rfl ?_
  refine Run.pure (dd := some 9) rfl rfl (op_move rfl (Opd.tmp _ _ rfl)) ?_
  refine Run.pure (dd := some 10) rfl rfl (op_call_pure (fun _ => k1) rfl (Opd.func _) (Opds.cons _ _ _ _ (Opd.tmp _ _ rfl) Opds.nil)) ?_
  refine Run.pure (dd := some 11) rfl rfl (op_move rfl (Opd.tmp _ _ rfl)) ?_
  refine Run.pureG (dd := some 12) rfl rfl rfl tG (op_fld_ptr (by decide) rfl (Opd.tmp _ _ rfl)) ?_
  refine Run.loadG (dd := some 13) rfl rfl rfl tG (op_loadn_flat rfl (Opd.topt _ _ _ rfl tO) tH tR tR) ?_
  refine Run.pureG (dd := some 14) rfl rfl rfl tG (op_call_pure (fun _ => k2) rfl (Opd.func _) (Opds.cons _ _ _ _ (Opd.topt _ _ _ rfl tO) Opds.nil)) ?_
  refine Run.pure (dd := some 15) rfl rfl (op_pick_or rfl (Opd.tmp _ _ rfl) (Opd.topt _ _ _ rfl tO)) ?_
  refine Run.pure (dd := some 16) rfl rfl (op_move rfl (Opd.tmp _ _ rfl)) ?_
  refine Run.pureG (dd := some 17) rfl rfl rfl tG (op_move rfl (Opd.tmp _ _ rfl)) ?_
  refine Run.pureG (dd := some 18) rfl rfl rfl tG (op_call_pure (fun _ => k3) rfl (Opd.func _) (Opds.cons _ _ _ _ (Opd.topt _ _ _ rfl tO) Opds.nil)) ?_
  refine Run.pureG (dd := some 19) rfl rfl rfl tG (op_not rfl (Opd.topt _ _ _ rfl tO)) ?_
  refine Run.pure (dd := some 20) rfl rfl (op_pick_or rfl (Opd.tmp _ _ rfl) (Opd.topt _ _ _ rfl tO)) ?_
  refine Run.nil (FinR.mk ?_)
  refine nK ?_
  refine n_cond _ rfl (fun hb => ?_) (fun hb => ?_)
  · refine nK ?_
    refine s_reg rfl ?_
    refine Run.pure (dd := some 21) rfl rfl (op_call_pure (fun _ => awake_c) rfl (Opd.func _) Opds.nil) ?_
    refine Run.pure (dd := some 4) rfl rfl (op_assign rfl (Opd.tmp _ _ rfl)) ?_
    refine Run.nil (FinR.mk ?_)
    refine nK ?_
    (first | exact s_o1 hC rfl tV | exact s_o2 hC rfl tV tV | exact s_o3 hC rfl tV tV tV | exact s_o4 hC rfl tV tV tV tV | exact s_out0 hC rfl | exact s_outO hC rfl rfl rfl)
  · have hx : (largeV l = false ∧ ¬ (3000 : Int) < sizeN r.t) ∧ ascV none l = true := by simpa using hb
    have hl := large_len hx.1.1
    have ha := ascV_asc hx.2
    have k4 := put_c l r h.ok hr (by omega)
    have k5 := rput_c l r h.ok hr (by omega)
    have hlen : (insV r l).length ≤ l.length + 1 := insV_len r l
    rw [putF_ins r ha] at k4 k5
    have k6 := sls_r (insV r l) (by omega) (put_ok h.ok hr)
    generalize insV r l = o at *
    generalize (putF l r).2 = b at *
    refine nK ?_
    refine s_reg rfl ?_
    refine Run.pure (dd := some 23) rfl rfl (op_move rfl (Opd.tmp _ _ rfl)) ?_
    refine Run.load (dd := some 24) rfl rfl (op_loadw_flat rfl (Opd.tmp _ _ rfl) tH rfl) ?_
    refine Run.pure (dd := some 25) rfl rfl (op_call_pure (fun _ => k4) rfl (Opd.func _) (Opds.cons _ _ _ _ (Opd.tmp _ _ rfl) (Opds.cons _ _ _ _ (Opd.tmp _ _ rfl) Opds.nil))) ?_
    refine Run.pure (dd := some 22) rfl rfl (op_move rfl (Opd.tmp _ _ rfl)) ?_
    refine Run.pure (dd := some 26) rfl rfl (op_extract_fz rfl (Opd.tmp _ _ rfl) rfl) ?_
    refine Run.pure (dd := some 27) rfl rfl (op_extract_fz rfl (Opd.tmp _ _ rfl) rfl) ?_
    refine Run.pure (dd := some 5) rfl rfl (op_assign rfl (Opd.tmp _ _ rfl)) ?_
    refine Run.pure (dd := some 6) rfl rfl (op_assign rfl (Opd.tmp _ _ rfl)) ?_
    refine Run.nil (FinR.mk ?_)
    refine nK ?_
    refine s_reg rfl ?_
    refine Run.pure (dd := some 29) rfl rfl (op_move rfl (Opd.tmp _ _ rfl)) ?_
    refine Run.load (dd := some 30) rfl rfl (op_loadw_flat rfl (Opd.tmp _ _ rfl) tH rfl) ?_
    refine Run.pure (dd := some 31) rfl rfl (op_call_pure (fun _ => k5) rfl (Opd.func _) (Opds.cons _ _ _ _ (Opd.tmp _ _ rfl) (Opds.cons _ _ _ _ (Opd.tmp _ _ rfl) Opds.nil))) ?_
    refine Run.pure (dd := some 28) rfl rfl (op_move rfl (Opd.tmp _ _ rfl)) ?_
    refine Run.pure (dd := some 32) rfl rfl (op_extract_fz rfl (Opd.tmp _ _ rfl) rfl) ?_
    refine Run.pure (dd := some 33) rfl rfl (op_extract_fz rfl (Opd.tmp _ _ rfl) rfl) ?_
    refine Run.pure (dd := some 7) rfl rfl (op_assign rfl (Opd.tmp _ _ rfl)) ?_
    refine Run.pure (dd := some 8) rfl rfl (op_assign rfl (Opd.tmp _ _ rfl)) ?_
    refine Run.nil (FinR.mk ?_)
    refine nK ?_
    refine s_reg rfl ?_
    refine Run.pure (dd := some 34) rfl rfl (op_move rfl (Opd.tmp _ _ rfl)) ?_
    refine Run.pure (dd := some 35) rfl rfl (op_move rfl (Opd.tmp _ _ rfl)) ?_
    refine Run.pure (dd := some 36) rfl rfl (op_eqlB rfl (Opd.tmp _ _ rfl) (Opd.tmp _ _ rfl)) ?_
    refine Run.pure (dd := some 37) rfl rfl (op_move rfl (Opd.tmp _ _ rfl)) ?_
    refine Run.pureG (dd := some 38) rfl rfl rfl tG (op_move rfl (Opd.tmp _ _ rfl)) ?_
    refine Run.pureG (dd := some 39) rfl rfl rfl tG (op_move rfl (Opd.tmp _ _ rfl)) ?_
    refine Run.pureG (dd := some 40) rfl rfl rfl tG (op_call_pure (fun _ => k6) rfl (Opd.func _) (Opds.cons _ _ _ _ (Opd.topt _ _ _ rfl tO) (Opds.cons _ _ _ _ (Opd.topt _ _ _ rfl tO) Opds.nil))) ?_
    refine Run.pure (dd := some 41) rfl rfl (op_pick_and rfl (Opd.tmp _ _ rfl) (Opd.topt _ _ _ rfl tO)) ?_
    refine Run.pure (dd := some 42) rfl rfl (op_move rfl (Opd.tmp _ _ rfl)) ?_
    refine Run.pureG (dd := some 43) rfl rfl rfl tG (op_call_pure (fun _ => awake_c) rfl (Opd.func _) Opds.nil) ?_
    refine Run.pure (dd := some 44) rfl rfl (op_pick_and rfl (Opd.tmp _ _ rfl) (Opd.topt _ _ _ rfl tO)) ?_
    refine Run.pure (dd := some 4) rfl rfl (op_assign rfl (Opd.tmp _ _ rfl)) ?_
    refine Run.nil (FinR.mk ?_)
    refine nK ?_
    refine s_oB hC rfl rfl ?_
    simp
theorem of_law (l : List Pvr) (p : Pfx) (h : okV l) (hp : p.ok) : Pure Try.prog 6 [VPv l, .agg (encP p)] (Bf true) := by
  have k1 := large_c l h.ok h.fl h.len
  have k3 := asc_c l h.len
  refine Meets.intro Try.func6 rfl (Nat.le_of_ble_eq_true rfl) fun C hC => ?_
  simp only [List.map, argEnv, Nat.reduceAdd]
  refine nK ?_
  refine s_reg rfl ?_
  refine Run.eff (dd := some 3) rfl rfl (op_box_flat rfl (Opd.tmp _ _ rfl) tC rfl) ?_
  refine Run.pure (dd := some 4) rfl rfl (op_assign rfl (Opd.const _)) ?_
  refine Run.nil (FinR.mk ?_)
  refine nK ?_
  refine s_reg rfl ?_
  refine Run.pure (dd := some 5) rfl rfl (op_move rfl (Opd.tmp _ _ rfl)) ?_
  refine Run.pure (dd := some 6) rfl rfl (op_call_pure (fun _ => k1) rfl (Opd.func _) (Opds.cons _ _ _ _ (Opd.tmp _ _ rfl) Opds.nil)) ?_
  refine Run.pure (dd := some 7) rfl rfl (op_move rfl (Opd.tmp _ _ rfl)) ?_
  refine Run.pureG (dd := some 8) rfl rfl rfl tG (op_move rfl (Opd.tmp _ _ rfl)) ?_
  refine Run.pureG (dd := some 9) rfl rfl rfl tG (op_call_pure (fun _ => k3) rfl (Opd.func _) (Opds.cons _ _ _ _ (Opd.topt _ _ _ rfl tO) Opds.nil)) ?_
  refine Run.pureG (dd := some 10) rfl rfl rfl tG (op_not rfl (Opd.topt _ _ _ rfl tO)) ?_
  refine Run.pure (dd := some 11) rfl rfl (op_pick_or rfl (Opd.tmp _ _ rfl) (Opd.topt _ _ _ rfl tO)) ?_
  refine Run.nil (FinR.mk ?_)
  refine nK ?_
  refine n_cond _ rfl (fun hb => ?_) (fun hb => ?_)
  · refine nK ?_
    refine s_reg rfl ?_
    refine Run.pure (dd := some 12) rfl rfl (op_call_pure (fun _ => awake_c) rfl (Opd.func _) Opds.nil) ?_
    refine Run.pure (dd := some 4) rfl rfl (op_assign rfl (Opd.tmp _ _ rfl)) ?_
    refine Run.nil (FinR.mk ?_)
    refine nK ?_
    (first | exact s_o1 hC rfl tV | exact s_o2 hC rfl tV tV | exact s_o3 hC rfl tV tV tV | exact s_o4 hC rfl tV tV tV tV | exact s_out0 hC rfl | exact s_outO hC rfl rfl rfl)
  · have hx : largeV l = false ∧ ascV none l = true := by simpa using hb
    have hl := large_len hx.1
    have ha := ascV_asc hx.2
    have k4 := of_c l p h.ok (by omega)
    have k5 := rof_c l p h.ok (by omega)
    have hlen : (l.filter fun x => decide (x.px = p)).length ≤ l.length := List.length_filter_le _ _
    have k6 := sls_r (l.filter fun x => decide (x.px = p)) (by omega) (fun r hr => h.ok r (List.mem_filter.1 hr).1)
    have k7 := prefixesP_c l (by omega)
    have k8 := rprefixes_c l (by omega)
    have hpl : (pfsF l).length ≤ l.length := by
      have := sortPf_len (l.map (·.px))
      rwa [List.length_map] at this
    rw [← rprF_eq ha] at k8
    have k9 := samePf_r (pfsF l) (by omega)
    generalize (l.filter fun x => decide (x.px = p)) = o at *
    generalize pfsF l = q at *
    refine nK ?_
    refine s_draw mixed ?_
    refine Run.pure (dd := some 13) rfl rfl (op_move rfl (Opd.tmp _ _ rfl)) ?_
    refine Run.load (dd := some 14) rfl rfl (op_loadw_flat rfl (Opd.tmp _ _ rfl) tH rfl) ?_
    refine Run.pure (dd := some 15) rfl rfl (op_call_pure (fun _ => k4) rfl (Opd.func _) (Opds.cons _ _ _ _ (Opd.tmp _ _ rfl) (Opds.cons _ _ _ _ (Opd.tmp _ _ rfl) Opds.nil))) ?_
    refine Run.pure (dd := some 16) rfl rfl (op_move rfl (Opd.tmp _ _ rfl)) ?_
    refine Run.load (dd := some 17) rfl rfl (op_loadw_flat rfl (Opd.tmp _ _ rfl) tH rfl) ?_
    refine Run.pure (dd := some 18) rfl rfl (op_call_pure (fun _ => k5) rfl (Opd.func _) (Opds.cons _ _ _ _ (Opd.tmp _ _ rfl) (Opds.cons _ _ _ _ (Opd.tmp _ _ rfl) Opds.nil))) ?_
    refine Run.pure (dd := some 19) rfl rfl (op_call_pure (fun _ => k6) rfl (Opd.func _) (Opds.cons _ _ _ _ (Opd.tmp _ _ rfl) (Opds.cons _ _ _ _ (Opd.tmp _ _ rfl) Opds.nil))) ?_
    refine Run.pure (dd := some 20) rfl rfl (op_move rfl (Opd.tmp _ _ rfl)) ?_
    refine Run.pureG (dd := some 21) rfl rfl rfl tG (op_move rfl (Opd.tmp _ _ rfl)) ?_
    refine Run.pureG (dd := some 22) rfl rfl rfl tG (op_call_pure (fun _ => k7) rfl (Opd.func _) (Opds.cons _ _ _ _ (Opd.topt _ _ _ rfl tO) Opds.nil)) ?_
    refine Run.pureG (dd := some 23) rfl rfl rfl tG (op_move rfl (Opd.tmp _ _ rfl)) ?_
    refine Run.pureG (dd := some 24) rfl rfl rfl tG (op_call_pure (fun _ => k8) rfl (Opd.func _) (Opds.cons _ _ _ _ (Opd.topt _ _ _ rfl tO) Opds.nil)) ?_
    refine Run.pureG (dd := some 25) rfl rfl rfl tG (op_call_pure (fun _ => k9) rfl (Opd.func _) (Opds.cons _ _ _ _ (Opd.topt _ _ _ rfl tO) (Opds.cons _ _ _ _ (Opd.topt _ _ _ rfl tO) Opds.nil))) ?_
    refine Run.pure (dd := some 26) rfl rfl (op_pick_and rfl (Opd.tmp _ _ rfl) (Opd.topt _ _ _ rfl tO)) ?_
    refine Run.pure (dd := some 27) rfl rfl (op_move rfl (Opd.tmp _ _ rfl)) ?_
    refine Run.pureG (dd := some 28) rfl rfl rfl tG (op_call_pure (fun _ => awake_c) rfl (Opd.func _) Opds.nil) ?_
    refine Run.pure (dd := some 29) rfl rfl (op_pick_and rfl (Opd.tmp _ _ rfl) (Opd.topt _ _ _ rfl tO)) ?_
    refine Run.pure (dd := some 4) rfl rfl (op_assign rfl (Opd.tmp _ _ rfl)) ?_
    refine Run.nil (FinD.mk (by kernel_rfl) ?_)
    refine nK ?_
    refine s_oB hC rfl rfl ?_
    simp
theorem remove_law (l : List Pvr) (n : Int) (p : Pfx) (h : okV l) (hn : inr .i64 n) (hp : p.ok) : Pure Try.prog 5 [VPv l, If .i64 n, .agg (encP p)] (Bf true) := by
  have k1 := large_c l h.ok h.fl h.len
  have k3 := asc_c l h.len
  refine Meets.intro Try.func5 rfl (Nat.le_of_ble_eq_true rfl) fun C hC => ?_
  simp only [List.map, argEnv, Nat.reduceAdd]
  refine nK ?_
  refine s_reg rfl ?_
  refine Run.eff (dd := some 5) rfl rfl (op_box_flat rfl (Opd.tmp _ _ rfl) tC rfl) ?_
  refine Run.pure (dd := some 6) rfl rfl (op_assign rfl (Opd.const _)) ?_
  refine Run.nil (FinR.mk ?_)
  refine nK ?_
  refine s_reg rfl ?_
  refine Run.pure (dd := some 23) rfl rfl (op_move rfl (Opd.tmp _ _ rfl)) ?_
  refine Run.pure (dd := some 24) rfl rfl (op_call_pure (fun _ => k1) rfl (Opd.func _) (Opds.cons _ _ _ _ (Opd.tmp _ _ rfl) Opds.nil)) ?_
  refine Run.pure (dd := some 25) rfl rfl (op_move rfl (Opd.tmp _ _ rfl)) ?_
  refine Run.pureG (dd := some 26) rfl rfl rfl tG (op_move rfl (Opd.tmp _ _ rfl)) ?_
  refine Run.pureG (dd := some 27) rfl rfl rfl tG (op_call_pure (fun _ => k3) rfl (Opd.func _) (Opds.cons _ _ _ _ (Opd.topt _ _ _ rfl tO) Opds.nil)) ?_
  refine Run.pureG (dd := some 28) rfl rfl rfl tG (op_not rfl (Opd.topt _ _ _ rfl tO)) ?_
  refine Run.pure (dd := some 29) rfl rfl (op_pick_or rfl (Opd.tmp _ _ rfl) (Opd.topt _ _ _ rfl tO)) ?_
  refine Run.nil (FinR.mk ?_)
  refine nK ?_
  refine n_cond _ rfl (fun hb => ?_) (fun hb => ?_)
  · refine nK ?_
    refine s_reg rfl ?_
    refine Run.pure (dd := some 30) rfl rfl (op_call_pure (fun _ => awake_c) rfl (Opd.func _) Opds.nil) ?_
    refine Run.pure (dd := some 6) rfl rfl (op_assign rfl (Opd.tmp _ _ rfl)) ?_
    refine Run.nil (FinR.mk ?_)
    refine nK ?_
    (first | exact s_o1 hC rfl tV | exact s_o2 hC rfl tV tV | exact s_o3 hC rfl tV tV tV | exact s_o4 hC rfl tV tV tV tV | exact s_out0 hC rfl | exact s_outO hC rfl rfl rfl)
  · have hx : largeV l = false ∧ ascV none l = true := by simpa using hb
    have hl := large_len hx.1
    have ha := ascV_asc hx.2
    have fo : ∀ (q : Pvr → Bool), ∀ r ∈ l.filter q, okPv r := fun q r hr => h.ok r (List.mem_filter.1 hr).1
    have fl : ∀ (q : Pvr → Bool), (l.filter q).length ≤ l.length := fun q => List.length_filter_le _ _
    have e1 := drop_c l n p h.ok (by omega)
    have e2 := rdrop_c l n p h.ok (by omega)
    rw [pfs_any] at e1
    have e3 := sls_r (l.filter fun x => !(decide (x.pe = n) && decide (x.px = p))) (by have := fl fun x => !(decide (x.pe = n) && decide (x.px = p)); omega) (fo _)
    generalize (l.filter fun x => !(decide (x.pe = n) && decide (x.px = p))) = o1 at e1 e2 e3
    generalize (l.any fun x => decide (x.pe = n) && decide (x.px = p)) = b1 at e1 e2
    have c1 := clear_c l n h.ok (by omega)
    have c2 := rclear_c l n h.ok (by omega)
    rw [pfs_own (n := n) (fun x hx => by simpa using hx) ha] at c1
    have c3 := sls_r (l.filter fun x => !(decide (x.pe = n))) (by have := fl fun x => !(decide (x.pe = n)); omega) (fo _)
    have c4 := samePf_r ((l.filter fun x => decide (x.pe = n)).map (·.px)) (by rw [List.length_map]; have := fl fun x => (decide (x.pe = n)); omega)
    generalize (l.filter fun x => !(decide (x.pe = n))) = o2 at c1 c2 c3
    generalize (l.filter fun x => decide (x.pe = n)).map (·.px) = q2 at c1 c2 c4
    have s1 := stale_c l n h.ok (by omega)
    have s2 := rstale_c l n h.ok (by omega)
    have w1 := sweep_c l n h.ok (by omega)
    have w2 := rsweep_c l n h.ok (by omega)
    rw [pfs_own (n := n) (fun x hx => by simp at hx; exact hx.1) ha] at s1 w1
    have w3 := sls_r (l.filter fun x => !(decide (x.pe = n) && x.st)) (by have := fl fun x => !(decide (x.pe = n) && x.st); omega) (fo _)
    have w4 := samePf_r ((l.filter fun x => decide (x.pe = n) && x.st).map (·.px)) (by rw [List.length_map]; have := fl fun x => (decide (x.pe = n) && x.st); omega)
    have s3 := sls_r ((l.filter fun x => !(decide (x.pe = n) && x.st)).map (mkSt n)) (by rw [List.length_map]; have := fl fun x => !(decide (x.pe = n) && x.st); omega) (fun x hx => by obtain ⟨y, hy, rfl⟩ := List.mem_map.1 hx; exact mkSt_ok (fo _ y hy))
    generalize (l.filter fun x => !(decide (x.pe = n) && x.st)).map (mkSt n) = o3 at s1 s2 s3
    generalize (l.filter fun x => !(decide (x.pe = n) && x.st)) = o4 at w1 w2 w3
    generalize (l.filter fun x => decide (x.pe = n) && x.st).map (·.px) = q4 at s1 s2 w1 w2 w4
    clear fo fl
    refine nK ?_
    refine s_reg rfl ?_
    refine Run.pure (dd := some 32) rfl rfl (op_move rfl (Opd.tmp _ _ rfl)) ?_
    refine Run.pure (dd := some 33) rfl rfl (op_move rfl (Opd.tmp _ _ rfl)) ?_
    refine Run.load (dd := some 34) rfl rfl (op_loadw_flat rfl (Opd.tmp _ _ rfl) tH rfl) ?_
    refine Run.pure (dd := some 35) rfl rfl (op_call_pure (fun _ => e1) rfl (Opd.func _) (Opds.cons _ _ _ _ (Opd.tmp _ _ rfl) (Opds.cons _ _ _ _ (Opd.tmp _ _ rfl) (Opds.cons _ _ _ _ (Opd.tmp _ _ rfl) Opds.nil)))) ?_
    refine Run.pure (dd := some 31) rfl rfl (op_move rfl (Opd.tmp _ _ rfl)) ?_
    refine Run.pure (dd := some 36) rfl rfl (op_extract_fz rfl (Opd.tmp _ _ rfl) rfl) ?_
    refine Run.pure (dd := some 37) rfl rfl (op_extract_fz rfl (Opd.tmp _ _ rfl) rfl) ?_
    refine Run.pure (dd := some 7) rfl rfl (op_assign rfl (Opd.tmp _ _ rfl)) ?_
    refine Run.pure (dd := some 8) rfl rfl (op_assign rfl (Opd.tmp _ _ rfl)) ?_
    refine Run.nil (FinR.mk ?_)
    refine nK ?_
    refine s_reg rfl ?_
    refine Run.pure (dd := some 39) rfl rfl (op_move rfl (Opd.tmp _ _ rfl)) ?_
    refine Run.pure (dd := some 40) rfl rfl (op_move rfl (Opd.tmp _ _ rfl)) ?_
    refine Run.load (dd := some 41) rfl rfl (op_loadw_flat rfl (Opd.tmp _ _ rfl) tH rfl) ?_
    refine Run.pure (dd := some 42) rfl rfl (op_call_pure (fun _ => e2) rfl (Opd.func _) (Opds.cons _ _ _ _ (Opd.tmp _ _ rfl) (Opds.cons _ _ _ _ (Opd.tmp _ _ rfl) (Opds.cons _ _ _ _ (Opd.tmp _ _ rfl) Opds.nil)))) ?_
    refine Run.pure (dd := some 38) rfl rfl (op_move rfl (Opd.tmp _ _ rfl)) ?_
    refine Run.pure (dd := some 43) rfl rfl (op_extract_fz rfl (Opd.tmp _ _ rfl) rfl) ?_
    refine Run.pure (dd := some 44) rfl rfl (op_extract_fz rfl (Opd.tmp _ _ rfl) rfl) ?_
    refine Run.pure (dd := some 9) rfl rfl (op_assign rfl (Opd.tmp _ _ rfl)) ?_
    refine Run.pure (dd := some 10) rfl rfl (op_assign rfl (Opd.tmp _ _ rfl)) ?_
    refine Run.nil (FinR.mk ?_)
    refine nK ?_
    refine s_reg rfl ?_
    refine Run.pure (dd := some 45) rfl rfl (op_move rfl (Opd.tmp _ _ rfl)) ?_
    refine Run.pure (dd := some 46) rfl rfl (op_move rfl (Opd.tmp _ _ rfl)) ?_
    refine Run.pure (dd := some 47) rfl rfl (op_neqB rfl (Opd.tmp _ _ rfl) (Opd.tmp _ _ rfl)) ?_
    refine Run.pure (dd := some 48) rfl rfl (op_move rfl (Opd.tmp _ _ rfl)) ?_
    refine Run.pureG (dd := some 49) rfl rfl rfl tG (op_move rfl (Opd.tmp _ _ rfl)) ?_
    refine Run.pureG (dd := some 50) rfl rfl rfl tG (op_move rfl (Opd.tmp _ _ rfl)) ?_
    refine Run.pureG (dd := some 51) rfl rfl rfl tG (op_call_pure (fun _ => e3) rfl (Opd.func _) (Opds.cons _ _ _ _ (Opd.topt _ _ _ rfl tO) (Opds.cons _ _ _ _ (Opd.topt _ _ _ rfl tO) Opds.nil))) ?_
    refine Run.pureG (dd := some 52) rfl rfl rfl tG (op_not rfl (Opd.topt _ _ _ rfl tO)) ?_
    refine Run.pure (dd := some 53) rfl rfl (op_pick_or rfl (Opd.tmp _ _ rfl) (Opd.topt _ _ _ rfl tO)) ?_
    refine Run.nil (FinR.mk ?_)
    refine nK ?_
    refine n_cond _ rfl (fun hb => ?_) (fun hb => ?_)
    · exfalso; simp at hb
    · refine nK ?_
      refine s_reg rfl ?_
      refine Run.pure (dd := some 55) rfl rfl (op_move rfl (Opd.tmp _ _ rfl)) ?_
      refine Run.pure (dd := some 56) rfl rfl (op_move rfl (Opd.tmp _ _ rfl)) ?_
      refine Run.pure (dd := some 57) rfl rfl (op_call_pure (fun _ => c1) rfl (Opd.func _) (Opds.cons _ _ _ _ (Opd.tmp _ _ rfl) (Opds.cons _ _ _ _ (Opd.tmp _ _ rfl) Opds.nil))) ?_
      refine Run.pure (dd := some 54) rfl rfl (op_move rfl (Opd.tmp _ _ rfl)) ?_
      refine Run.pure (dd := some 58) rfl rfl (op_extract_fz rfl (Opd.tmp _ _ rfl) rfl) ?_
      refine Run.pure (dd := some 59) rfl rfl (op_extract_fz rfl (Opd.tmp _ _ rfl) rfl) ?_
      refine Run.pure (dd := some 11) rfl rfl (op_assign rfl (Opd.tmp _ _ rfl)) ?_
      refine Run.pure (dd := some 12) rfl rfl (op_assign rfl (Opd.tmp _ _ rfl)) ?_
      refine Run.nil (FinR.mk ?_)
      refine nK ?_
      refine s_reg rfl ?_
      refine Run.pure (dd := some 61) rfl rfl (op_move rfl (Opd.tmp _ _ rfl)) ?_
      refine Run.pure (dd := some 62) rfl rfl (op_move rfl (Opd.tmp _ _ rfl)) ?_
      refine Run.pure (dd := some 63) rfl rfl (op_call_pure (fun _ => c2) rfl (Opd.func _) (Opds.cons _ _ _ _ (Opd.tmp _ _ rfl) (Opds.cons _ _ _ _ (Opd.tmp _ _ rfl) Opds.nil))) ?_
      refine Run.pure (dd := some 60) rfl rfl (op_move rfl (Opd.tmp _ _ rfl)) ?_
      refine Run.pure (dd := some 64) rfl rfl (op_extract_fz rfl (Opd.tmp _ _ rfl) rfl) ?_
      refine Run.pure (dd := some 65) rfl rfl (op_extract_fz rfl (Opd.tmp _ _ rfl) rfl) ?_
      refine Run.pure (dd := some 13) rfl rfl (op_assign rfl (Opd.tmp _ _ rfl)) ?_
      refine Run.pure (dd := some 14) rfl rfl (op_assign rfl (Opd.tmp _ _ rfl)) ?_
      refine Run.nil (FinR.mk ?_)
      refine nK ?_
      refine s_reg rfl ?_
      refine Run.pure (dd := some 66) rfl rfl (op_move rfl (Opd.tmp _ _ rfl)) ?_
      refine Run.pure (dd := some 67) rfl rfl (op_move rfl (Opd.tmp _ _ rfl)) ?_
      refine Run.pure (dd := some 68) rfl rfl (op_call_pure (fun _ => c3) rfl (Opd.func _) (Opds.cons _ _ _ _ (Opd.tmp _ _ rfl) (Opds.cons _ _ _ _ (Opd.tmp _ _ rfl) Opds.nil))) ?_
      refine Run.pure (dd := some 69) rfl rfl (op_not rfl (Opd.tmp _ _ rfl)) ?_
      refine Run.pure (dd := some 70) rfl rfl (op_move rfl (Opd.tmp _ _ rfl)) ?_
      refine Run.pureG (dd := some 71) rfl rfl rfl tG (op_move rfl (Opd.tmp _ _ rfl)) ?_
      refine Run.pureG (dd := some 72) rfl rfl rfl tG (op_move rfl (Opd.tmp _ _ rfl)) ?_
      refine Run.pureG (dd := some 73) rfl rfl rfl tG (op_call_pure (fun _ => c4) rfl (Opd.func _) (Opds.cons _ _ _ _ (Opd.topt _ _ _ rfl tO) (Opds.cons _ _ _ _ (Opd.topt _ _ _ rfl tO) Opds.nil))) ?_
      refine Run.pureG (dd := some 74) rfl rfl rfl tG (op_not rfl (Opd.topt _ _ _ rfl tO)) ?_
      refine Run.pure (dd := some 75) rfl rfl (op_pick_or rfl (Opd.tmp _ _ rfl) (Opd.topt _ _ _ rfl tO)) ?_
      refine Run.nil (FinR.mk ?_)
      refine nK ?_
      refine n_cond _ rfl (fun hb => ?_) (fun hb => ?_)
      · exfalso; simp at hb
      · refine nK ?_
        refine s_reg rfl ?_
        refine Run.pure (dd := some 77) rfl rfl (op_move rfl (Opd.tmp _ _ rfl)) ?_
        refine Run.pure (dd := some 78) rfl rfl (op_move rfl (Opd.tmp _ _ rfl)) ?_
        refine Run.pure (dd := some 79) rfl rfl (op_call_pure (fun _ => s1) rfl (Opd.func _) (Opds.cons _ _ _ _ (Opd.tmp _ _ rfl) (Opds.cons _ _ _ _ (Opd.tmp _ _ rfl) Opds.nil))) ?_
        refine Run.pure (dd := some 76) rfl rfl (op_move rfl (Opd.tmp _ _ rfl)) ?_
        refine Run.pure (dd := some 80) rfl rfl (op_extract_fz rfl (Opd.tmp _ _ rfl) rfl) ?_
        refine Run.pure (dd := some 81) rfl rfl (op_extract_fz rfl (Opd.tmp _ _ rfl) rfl) ?_
        refine Run.pure (dd := some 15) rfl rfl (op_assign rfl (Opd.tmp _ _ rfl)) ?_
        refine Run.pure (dd := some 16) rfl rfl (op_assign rfl (Opd.tmp _ _ rfl)) ?_
        refine Run.nil (FinR.mk ?_)
        refine nK ?_
        refine s_reg rfl ?_
        refine Run.pure (dd := some 83) rfl rfl (op_move rfl (Opd.tmp _ _ rfl)) ?_
        refine Run.pure (dd := some 84) rfl rfl (op_move rfl (Opd.tmp _ _ rfl)) ?_
        refine Run.pure (dd := some 85) rfl rfl (op_call_pure (fun _ => s2) rfl (Opd.func _) (Opds.cons _ _ _ _ (Opd.tmp _ _ rfl) (Opds.cons _ _ _ _ (Opd.tmp _ _ rfl) Opds.nil))) ?_
        refine Run.pure (dd := some 82) rfl rfl (op_move rfl (Opd.tmp _ _ rfl)) ?_
        refine Run.pure (dd := some 86) rfl rfl (op_extract_fz rfl (Opd.tmp _ _ rfl) rfl) ?_
        refine Run.pure (dd := some 87) rfl rfl (op_extract_fz rfl (Opd.tmp _ _ rfl) rfl) ?_
        refine Run.pure (dd := some 17) rfl rfl (op_assign rfl (Opd.tmp _ _ rfl)) ?_
        refine Run.pure (dd := some 18) rfl rfl (op_assign rfl (Opd.tmp _ _ rfl)) ?_
        refine Run.nil (FinR.mk ?_)
        refine nK ?_
        refine s_reg rfl ?_
        refine Run.pure (dd := some 88) rfl rfl (op_move rfl (Opd.tmp _ _ rfl)) ?_
        refine Run.pure (dd := some 89) rfl rfl (op_move rfl (Opd.tmp _ _ rfl)) ?_
        refine Run.pure (dd := some 90) rfl rfl (op_call_pure (fun _ => s3) rfl (Opd.func _) (Opds.cons _ _ _ _ (Opd.tmp _ _ rfl) (Opds.cons _ _ _ _ (Opd.tmp _ _ rfl) Opds.nil))) ?_
        refine Run.pure (dd := some 91) rfl rfl (op_not rfl (Opd.tmp _ _ rfl)) ?_
        refine Run.pure (dd := some 92) rfl rfl (op_move rfl (Opd.tmp _ _ rfl)) ?_
        refine Run.pureG (dd := some 93) rfl rfl rfl tG (op_move rfl (Opd.tmp _ _ rfl)) ?_
        refine Run.pureG (dd := some 94) rfl rfl rfl tG (op_move rfl (Opd.tmp _ _ rfl)) ?_
        refine Run.pureG (dd := some 95) rfl rfl rfl tG (op_call_pure (fun _ => w4) rfl (Opd.func _) (Opds.cons _ _ _ _ (Opd.topt _ _ _ rfl tO) (Opds.cons _ _ _ _ (Opd.topt _ _ _ rfl tO) Opds.nil))) ?_
        refine Run.pureG (dd := some 96) rfl rfl rfl tG (op_not rfl (Opd.topt _ _ _ rfl tO)) ?_
        refine Run.pure (dd := some 97) rfl rfl (op_pick_or rfl (Opd.tmp _ _ rfl) (Opd.topt _ _ _ rfl tO)) ?_
        refine Run.nil (FinR.mk ?_)
        refine nK ?_
        refine n_cond _ rfl (fun hb => ?_) (fun hb => ?_)
        · exfalso; simp at hb
        · refine nK ?_
          refine s_reg rfl ?_
          refine Run.pure (dd := some 99) rfl rfl (op_move rfl (Opd.tmp _ _ rfl)) ?_
          refine Run.pure (dd := some 100) rfl rfl (op_move rfl (Opd.tmp _ _ rfl)) ?_
          refine Run.pure (dd := some 101) rfl rfl (op_call_pure (fun _ => w1) rfl (Opd.func _) (Opds.cons _ _ _ _ (Opd.tmp _ _ rfl) (Opds.cons _ _ _ _ (Opd.tmp _ _ rfl) Opds.nil))) ?_
          refine Run.pure (dd := some 98) rfl rfl (op_move rfl (Opd.tmp _ _ rfl)) ?_
          refine Run.pure (dd := some 102) rfl rfl (op_extract_fz rfl (Opd.tmp _ _ rfl) rfl) ?_
          refine Run.pure (dd := some 103) rfl rfl (op_extract_fz rfl (Opd.tmp _ _ rfl) rfl) ?_
          refine Run.pure (dd := some 19) rfl rfl (op_assign rfl (Opd.tmp _ _ rfl)) ?_
          refine Run.pure (dd := some 20) rfl rfl (op_assign rfl (Opd.tmp _ _ rfl)) ?_
          refine Run.nil (FinR.mk ?_)
          refine nK ?_
          refine s_reg rfl ?_
          refine Run.pure (dd := some 105) rfl rfl (op_move rfl (Opd.tmp _ _ rfl)) ?_
          refine Run.pure (dd := some 106) rfl rfl (op_move rfl (Opd.tmp _ _ rfl)) ?_
          refine Run.pure (dd := some 107) rfl rfl (op_call_pure (fun _ => w2) rfl (Opd.func _) (Opds.cons _ _ _ _ (Opd.tmp _ _ rfl) (Opds.cons _ _ _ _ (Opd.tmp _ _ rfl) Opds.nil))) ?_
          refine Run.pure (dd := some 104) rfl rfl (op_move rfl (Opd.tmp _ _ rfl)) ?_
          refine Run.pure (dd := some 108) rfl rfl (op_extract_fz rfl (Opd.tmp _ _ rfl) rfl) ?_
          refine Run.pure (dd := some 109) rfl rfl (op_extract_fz rfl (Opd.tmp _ _ rfl) rfl) ?_
          refine Run.pure (dd := some 21) rfl rfl (op_assign rfl (Opd.tmp _ _ rfl)) ?_
          refine Run.pure (dd := some 22) rfl rfl (op_assign rfl (Opd.tmp _ _ rfl)) ?_
          refine Run.nil (FinR.mk ?_)
          refine nK ?_
          refine s_reg rfl ?_
          refine Run.pure (dd := some 110) rfl rfl (op_move rfl (Opd.tmp _ _ rfl)) ?_
          refine Run.pure (dd := some 111) rfl rfl (op_move rfl (Opd.tmp _ _ rfl)) ?_
          refine Run.pure (dd := some 112) rfl rfl (op_call_pure (fun _ => w3) rfl (Opd.func _) (Opds.cons _ _ _ _ (Opd.tmp _ _ rfl) (Opds.cons _ _ _ _ (Opd.tmp _ _ rfl) Opds.nil))) ?_
          refine Run.pure (dd := some 113) rfl rfl (op_move rfl (Opd.tmp _ _ rfl)) ?_
          refine Run.pureG (dd := some 114) rfl rfl rfl tG (op_move rfl (Opd.tmp _ _ rfl)) ?_
          refine Run.pureG (dd := some 115) rfl rfl rfl tG (op_move rfl (Opd.tmp _ _ rfl)) ?_
          refine Run.pureG (dd := some 116) rfl rfl rfl tG (op_call_pure (fun _ => w4) rfl (Opd.func _) (Opds.cons _ _ _ _ (Opd.topt _ _ _ rfl tO) (Opds.cons _ _ _ _ (Opd.topt _ _ _ rfl tO) Opds.nil))) ?_
          refine Run.pure (dd := some 117) rfl rfl (op_pick_and rfl (Opd.tmp _ _ rfl) (Opd.topt _ _ _ rfl tO)) ?_
          refine Run.pure (dd := some 118) rfl rfl (op_move rfl (Opd.tmp _ _ rfl)) ?_
          refine Run.pureG (dd := some 119) rfl rfl rfl tG (op_call_pure (fun _ => awake_c) rfl (Opd.func _) Opds.nil) ?_
          refine Run.pure (dd := some 120) rfl rfl (op_pick_and rfl (Opd.tmp _ _ rfl) (Opd.topt _ _ _ rfl tO)) ?_
          refine Run.pure (dd := some 6) rfl rfl (op_assign rfl (Opd.tmp _ _ rfl)) ?_
          refine Run.nil (FinR.mk ?_)
          refine nK ?_
          refine s_oB hC rfl rfl ?_
          simp
open Go Go.RT Go.Proofs Go.Pl
set_option maxRecDepth 20000
set_option maxHeartbeats 4000000
theorem restart_law (l : List Pvr) (r : Pvr) (h : okV l) (hr : okPv r) (hf : (flatS r.t.pa).length ≤ 2000000000000) : Pure Try.prog 8 [VPv l, .agg (encPv r)] (Bf true) := by
  have k1 := large_c l h.ok h.fl h.len
  have k2 := large36_c r.t hr.t hf
  have k3 := asc_c l h.len
  refine Meets.intro Try.func8 rfl (Nat.le_of_ble_eq_true rfl) fun C hC => ?_
  simp only [List.map, argEnv, Nat.reduceAdd]
  refine nK ?_
  refine s_reg rfl ?_
  refine Run.eff (dd := some 3) rfl rfl (op_box_flat rfl (Opd.tmp _ _ rfl) tC rfl) ?_
  refine Run.pure (dd := some 4) rfl rfl (op_assign rfl (Opd.const _)) ?_
  refine Run.nil (FinR.mk ?_)
  refine nK ?_
  refine s_reg rfl ?_
  refine Run.pure (dd := some 10) rfl rfl (op_move rfl (Opd.tmp _ _ rfl)) ?_
  refine Run.pure (dd := some 11) rfl rfl (op_call_pure (fun _ => k1) rfl (Opd.func _) (Opds.cons _ _ _ _ (Opd.tmp _ _ rfl) Opds.nil)) ?_
  refine Run.pure (dd := some 12) rfl rfl (op_move rfl (Opd.tmp _ _ rfl)) ?_
  refine Run.pureG (dd := some 13) rfl rfl rfl tG (op_fld_ptr (by decide) rfl (Opd.tmp _ _ rfl)) ?_
  refine Run.loadG (dd := some 14) rfl rfl rfl tG (op_loadn_flat rfl (Opd.topt _ _ _ rfl tO) tH tR tR) ?_
  refine Run.pureG (dd := some 15) rfl rfl rfl tG (op_call_pure (fun _ => k2) rfl (Opd.func _) (Opds.cons _ _ _ _ (Opd.topt _ _ _ rfl tO) Opds.nil)) ?_
  refine Run.pure (dd := some 16) rfl rfl (op_pick_or rfl (Opd.tmp _ _ rfl) (Opd.topt _ _ _ rfl tO)) ?_
  refine Run.pure (dd := some 17) rfl rfl (op_move rfl (Opd.tmp _ _ rfl)) ?_
  refine Run.pureG (dd := some 18) rfl rfl rfl tG (op_move rfl (Opd.tmp _ _ rfl)) ?_
  refine Run.pureG (dd := some 19) rfl rfl rfl tG (op_call_pure (fun _ => k3) rfl (Opd.func _) (Opds.cons _ _ _ _ (Opd.topt _ _ _ rfl tO) Opds.nil)) ?_
  refine Run.pureG (dd := some 20) rfl rfl rfl tG (op_not rfl (Opd.topt _ _ _ rfl tO)) ?_
  refine Run.pure (dd := some 21) rfl rfl (op_pick_or rfl (Opd.tmp _ _ rfl) (Opd.topt _ _ _ rfl tO)) ?_
  refine Run.pure (dd := some 22) rfl rfl (op_move rfl (Opd.tmp _ _ rfl)) ?_
  refine Run.pureG (dd := some 23) rfl rfl rfl tG (op_fld_ptr (by decide) rfl (Opd.tmp _ _ rfl)) ?_
  refine Run.loadG (dd := some 24) rfl rfl rfl tG (op_load1_flat rfl (Opd.topt _ _ _ rfl tO) tH rfl) ?_
  refine Run.pure (dd := some 25) rfl rfl (op_pick_or rfl (Opd.tmp _ _ rfl) (Opd.topt _ _ _ rfl tO)) ?_
  refine Run.nil (FinR.mk ?_)
  refine nK ?_
  refine n_cond _ rfl (fun hb => ?_) (fun hb => ?_)
  · refine nK ?_
    refine s_reg rfl ?_
    refine Run.pure (dd := some 26) rfl rfl (op_call_pure (fun _ => awake_c) rfl (Opd.func _) Opds.nil) ?_
    refine Run.pure (dd := some 4) rfl rfl (op_assign rfl (Opd.tmp _ _ rfl)) ?_
    refine Run.nil (FinR.mk ?_)
    refine nK ?_
    (first | exact s_o1 hC rfl tV | exact s_o2 hC rfl tV tV | exact s_o3 hC rfl tV tV tV | exact s_o4 hC rfl tV tV tV tV | exact s_out0 hC rfl | exact s_outO hC rfl rfl rfl)
  · have hx : ((largeV l = false ∧ ¬ (3000 : Int) < sizeN r.t) ∧ ascV none l = true) ∧ r.st = false := by simpa using hb
    have hl := large_len hx.1.1.1
    have ha := ascV_asc hx.1.2
    have g5 := good_filt (n := r.pe) (p := fun x => !(decide (x.pe = r.pe) && x.st)) h.ok ha (fun x hx => by simp [hx])
    have g4 := good_st g5
    have hown := rs_own l hx.2
    have hoth := rs_oth l r
    unfold rsF at hown hoth
    have e1 := stale_c l r.pe h.ok (by omega)
    have hl4 := g4.len
    have e2 := put_c ((l.filter fun x => !(decide (x.pe = r.pe) && x.st)).map (mkSt r.pe)) r g4.ok hr (by omega)
    rw [putF_ins r g4.asc] at e2
    have g6 := good_put g4.ok hr g4.asc
    have hl6 := g6.len
    have e3 := sweep_c (insV r ((l.filter fun x => !(decide (x.pe = r.pe) && x.st)).map (mkSt r.pe))) r.pe g6.ok (by omega)
    have ko := oth_c l r.pe h.ok (by omega)
    have ks := sls_r (l.filter fun x => decide (x.pe ≠ r.pe)) (by have := List.length_filter_le (fun x => decide (x.pe ≠ r.pe)) l; omega) (fun x hx => h.ok x (List.mem_filter.1 hx).1)
    have hlx := List.length_filter_le (fun x => !(decide (x.pe = r.pe) && x.st)) (insV r ((l.filter fun x => !(decide (x.pe = r.pe) && x.st)).map (mkSt r.pe)))
    have hxo : ∀ x ∈ (insV r ((l.filter fun x => !(decide (x.pe = r.pe) && x.st)).map (mkSt r.pe))).filter (fun x => !(decide (x.pe = r.pe) && x.st)), okPv x := fun x hx => g6.ok x (List.mem_filter.1 hx).1
    generalize pfsF ((insV r ((l.filter fun x => !(decide (x.pe = r.pe) && x.st)).map (mkSt r.pe))).filter fun x => decide (x.pe = r.pe) && x.st) = u3 at e3
    generalize (insV r ((l.filter fun x => !(decide (x.pe = r.pe) && x.st)).map (mkSt r.pe))).filter (fun x => !(decide (x.pe = r.pe) && x.st)) = x at *
    generalize insV r ((l.filter fun x => !(decide (x.pe = r.pe) && x.st)).map (mkSt r.pe)) = y at *
    generalize (putF ((l.filter fun x => !(decide (x.pe = r.pe) && x.st)).map (mkSt r.pe)) r).2 = u2 at e2
    generalize pfsF (l.filter fun x => decide (x.pe = r.pe) && x.st) = u1 at e1
    generalize (l.filter fun x => !(decide (x.pe = r.pe) && x.st)).map (mkSt r.pe) = z at *
    clear g5
    have hxl : x.length ≤ 9000 := by omega
    have kx := oth_c x r.pe hxo hxl
    rw [hoth] at kx
    generalize (l.filter fun x => decide (x.pe ≠ r.pe)) = q at *
    refine nK ?_
    refine s_reg rfl ?_
    refine Run.pure (dd := some 28) rfl rfl (op_move rfl (Opd.tmp _ _ rfl)) ?_
    refine Run.pure (dd := some 29) rfl rfl (op_fld_ptr (by decide) rfl (Opd.tmp _ _ rfl)) ?_
    refine Run.load (dd := some 30) rfl rfl (op_load1_flat rfl (Opd.tmp _ _ rfl) tH rfl) ?_
    refine Run.pure (dd := some 31) rfl rfl (op_call_pure (fun _ => e1) rfl (Opd.func _) (Opds.cons _ _ _ _ (Opd.tmp _ _ rfl) (Opds.cons _ _ _ _ (Opd.tmp _ _ rfl) Opds.nil))) ?_
    refine Run.pure (dd := some 27) rfl rfl (op_move rfl (Opd.tmp _ _ rfl)) ?_
    refine Run.pure (dd := some 32) rfl rfl (op_extract_fz rfl (Opd.tmp _ _ rfl) rfl) ?_
    refine Run.pure (dd := some 33) rfl rfl (op_extract_fz rfl (Opd.tmp _ _ rfl) rfl) ?_
    refine Run.pure (dd := some 5) rfl rfl (op_assign rfl (Opd.tmp _ _ rfl)) ?_
    refine Run.pure (dd := some 6) rfl rfl (op_assign rfl (Opd.tmp _ _ rfl)) ?_
    refine Run.nil (FinR.mk ?_)
    refine nK ?_
    refine s_reg rfl ?_
    refine Run.pure (dd := some 35) rfl rfl (op_move rfl (Opd.tmp _ _ rfl)) ?_
    refine Run.load (dd := some 36) rfl rfl (op_loadw_flat rfl (Opd.tmp _ _ rfl) tH rfl) ?_
    refine Run.pure (dd := some 37) rfl rfl (op_call_pure (fun _ => e2) rfl (Opd.func _) (Opds.cons _ _ _ _ (Opd.tmp _ _ rfl) (Opds.cons _ _ _ _ (Opd.tmp _ _ rfl) Opds.nil))) ?_
    refine Run.pure (dd := some 34) rfl rfl (op_move rfl (Opd.tmp _ _ rfl)) ?_
    refine Run.pure (dd := some 38) rfl rfl (op_extract_fz rfl (Opd.tmp _ _ rfl) rfl) ?_
    refine Run.pure (dd := some 39) rfl rfl (op_extract_fz rfl (Opd.tmp _ _ rfl) rfl) ?_
    refine Run.pure (dd := some 5) rfl rfl (op_assign rfl (Opd.tmp _ _ rfl)) ?_
    refine Run.nil (FinR.mk ?_)
    refine nK ?_
    refine s_reg rfl ?_
    refine Run.pure (dd := some 41) rfl rfl (op_move rfl (Opd.tmp _ _ rfl)) ?_
    refine Run.pure (dd := some 42) rfl rfl (op_fld_ptr (by decide) rfl (Opd.tmp _ _ rfl)) ?_
    refine Run.load (dd := some 43) rfl rfl (op_load1_flat rfl (Opd.tmp _ _ rfl) tH rfl) ?_
    refine Run.pure (dd := some 44) rfl rfl (op_call_pure (fun _ => e3) rfl (Opd.func _) (Opds.cons _ _ _ _ (Opd.tmp _ _ rfl) (Opds.cons _ _ _ _ (Opd.tmp _ _ rfl) Opds.nil))) ?_
    refine Run.pure (dd := some 40) rfl rfl (op_move rfl (Opd.tmp _ _ rfl)) ?_
    refine Run.pure (dd := some 45) rfl rfl (op_extract_fz rfl (Opd.tmp _ _ rfl) rfl) ?_
    refine Run.pure (dd := some 46) rfl rfl (op_extract_fz rfl (Opd.tmp _ _ rfl) rfl) ?_
    refine Run.pure (dd := some 5) rfl rfl (op_assign rfl (Opd.tmp _ _ rfl)) ?_
    refine Run.nil (FinR.mk ?_)
    refine nK ?_
    refine s_reg rfl ?_
    refine Run.pure (dd := some 7) rfl rfl (op_assign rfl (Opd.const _)) ?_
    refine Run.nil (FinR.mk ?_)
    refine nK ?_
    refine s_reg rfl ?_
    refine Run.pure (dd := some 47) rfl rfl (op_move rfl (Opd.tmp _ _ rfl)) ?_
    refine Run.pure (dd := some 48) rfl rfl (op_len_fz rfl (by first | exact Opd.tmp _ _ rfl | exact Opd.nil _ _ (Opd.tmp _ _ rfl)) (by first | exact List.length_map _ | rfl)) ?_
    refine Run.pure (dd := some 49) rfl rfl (op_move rfl (Opd.const _)) ?_
    refine Run.nil (FinR.mk ?_)
    refine nK ?_
    refine n_loop (ι := Nat × Nat) (fun g => ([(0, .fz (VPv l)), (3, .ptr 0 22 0 0), (5, .fz (VPv x)), (7, IV .i64 g.2), (47, .fz (VPv x)), (48, IV .i64 x.length), (49, IV .i64 g.1)], [(0, OPv1 r)], 1)) (fun g => g.1 ≤ x.length ∧ g.2 = ((x.take g.1).filter fun y => decide (y.pe = r.pe)).length) (fun g => x.length - g.1) (0, 0) ⟨Nat.zero_le _, by simp⟩ ?_ ?_
    · refine Next.weakS [3] [] (by rfl) (by first | exact keeps0 hC _ | exact keepsN hC _ rfl) (by repeat (first | exact trivial | refine ⟨⟨_, rfl, .inl ⟨rfl, rfl⟩⟩, ?_⟩ | refine ⟨⟨_, rfl, .inl ⟨slEq rfl tN, rfl⟩⟩, ?_⟩ | refine ⟨⟨_, rfl, .inl ⟨ivEq tX, rfl⟩⟩, ?_⟩)) (by repeat (first | exact trivial | refine ⟨ent_same rfl rfl rfl tL, ?_⟩ | refine ⟨ent_same rfl rfl (rfEq rfl tU) tL, ?_⟩ | refine ⟨ent_same rfl rfl (flEq rfl (by first | (simp; done) | (simp; omega) | (simp [encP, encPv, encAt, encSg, encTl, encW, encN, encY]; done) | simp [maxC, minC])) trivial, ?_⟩)) rfl (rel_intro)
    · intro ⟨i, c⟩ ⟨hi, hS⟩ K hK
      dsimp only at hi hS ⊢
      have hcl : c ≤ x.length := by rw [hS]; exact filtV_le _ _ _
      refine nK ?_
      refine s_reg rfl ?_
      refine Run.pure (dd := some 50) rfl rfl (op_lss rfl (Opd.tmp _ _ rfl) (Opd.tmp _ _ rfl)) ?_
      refine Run.nil (FinR.mk ?_)
      refine nK ?_
      refine n_cond _ rfl (fun hb => ?_) (fun hb => ?_)
      · have hlt : i < x.length := by simp at hb; omega
        have hr1 := row_at' encPv x i hlt
        have hs := filtV_take (fun y => decide (y.pe = r.pe)) hlt
        have hK1 := fun a h => hK (i + 1, a) ⟨by dsimp only; omega, h⟩ (by dsimp only; omega)
        dsimp only at hK1
        have hmem : x[i].pe = r.pe → x[i] = r := fun k => by
          have : x[i] ∈ x.filter (fun x => decide (x.pe = r.pe)) := List.mem_filter.2 ⟨List.getElem_mem hlt, by simpa using k⟩
          rw [hown] at this
          exact List.mem_singleton.1 this
        have ox := hxo _ (List.getElem_mem hlt)
        generalize x[i] = y at *
        have kr := srt_c y r ox hr
        refine nK ?_
        refine s_reg rfl ?_
        refine Run.pure (dd := some 51) rfl rfl (op_idx_fz _ rfl (Opd.tmp _ _ rfl) (Opd.tmp _ _ rfl) tF) ?_
        refine Run.pure (dd := some 52) rfl rfl (op_loadw_fz rfl (Opd.tmp _ _ rfl) rfl) ?_
        refine Run.eff (dd := some 9) rfl rfl (op_alloc rfl rfl rfl rfl) ?_
        refine Run.eff (dd := none) rfl rfl (op_store_flat rfl (Opd.tmp _ _ rfl) (Opd.tmp _ _ rfl) tC rfl rfl (by first | rfl | assumption) tS) ?_
        refine Run.nil (FinR.mk ?_)
        refine nK ?_
        refine s_reg rfl ?_
        refine Run.pure (dd := some 53) rfl rfl (op_fld_ptr (by decide) rfl (Opd.tmp _ _ rfl)) ?_
        refine Run.load (dd := some 54) rfl rfl (op_load1_flat rfl (Opd.tmp _ _ rfl) tH rfl) ?_
        refine Run.pure (dd := some 55) rfl rfl (op_fld_ptr (by decide) rfl (Opd.tmp _ _ rfl)) ?_
        refine Run.load (dd := some 56) rfl rfl (op_load1_flat rfl (Opd.tmp _ _ rfl) tH rfl) ?_
        refine Run.pure (dd := some 57) rfl rfl (op_eql rfl (Opd.tmp _ _ rfl) (Opd.tmp _ _ rfl)) ?_
        refine Run.nil (FinR.mk ?_)
        refine nK ?_
        refine n_cond _ rfl (fun hb => ?_) (fun hb => ?_)
        · have hp : y.pe = r.pe := by simpa using hb
          have hy := hmem hp
          rw [if_pos (by simpa using hp)] at hs
          have hK2 := hK1 (c + 1) (by rw [hs, List.length_append, ← hS]; rfl)
          rw [show decide (y = r) = true by simpa using hy] at kr
          refine nK ?_
          refine s_reg rfl ?_
          refine Run.pure (dd := some 58) rfl rfl (op_move rfl (Opd.tmp _ _ rfl)) ?_
          refine Run.pure (dd := some 59) rfl rfl (op_add rfl (Opd.tmp _ _ rfl) (Opd.const _) tI) ?_
          refine Run.pure (dd := some 7) rfl rfl (op_assign rfl (Opd.tmp _ _ rfl)) ?_
          refine Run.nil (FinR.mk ?_)
          refine nK ?_
          refine s_reg rfl ?_
          refine Run.load (dd := some 60) rfl rfl (op_loadw_flat rfl (Opd.tmp _ _ rfl) tH rfl) ?_
          refine Run.load (dd := some 61) rfl rfl (op_loadw_flat rfl (Opd.tmp _ _ rfl) tH rfl) ?_
          refine Run.pure (dd := some 62) rfl rfl (op_call_pure (fun _ => kr) rfl (Opd.func _) (Opds.cons _ _ _ _ (Opd.tmp _ _ rfl) (Opds.cons _ _ _ _ (Opd.tmp _ _ rfl) Opds.nil))) ?_
          refine Run.pure (dd := some 63) rfl rfl (op_not rfl (Opd.tmp _ _ rfl)) ?_
          refine Run.nil (FinR.mk ?_)
          refine nK ?_
          refine n_cond _ rfl (fun hb => ?_) (fun hb => ?_)
          · exfalso; simp at hb
          · refine nK ?_
            refine s_reg rfl ?_
            refine Run.pure (dd := some 64) rfl rfl (op_add rfl (Opd.tmp _ _ rfl) (Opd.const _) tI) ?_
            refine Run.pure (dd := some 49) rfl rfl (op_move rfl (Opd.tmp _ _ rfl)) ?_
            refine Run.nil (FinR.mk ?_)
            refine nK ?_
            refine Next.weakS [3] [] (by rfl) (by first | exact keeps0 hC _ | exact keepsN hC _ rfl) (by repeat (first | exact trivial | refine ⟨⟨_, rfl, .inl ⟨rfl, rfl⟩⟩, ?_⟩ | refine ⟨⟨_, rfl, .inl ⟨slEq rfl tN, rfl⟩⟩, ?_⟩ | refine ⟨⟨_, rfl, .inl ⟨ivEq tX, rfl⟩⟩, ?_⟩)) (by repeat (first | exact trivial | refine ⟨ent_same rfl rfl rfl tL, ?_⟩ | refine ⟨ent_same rfl rfl (rfEq rfl tU) tL, ?_⟩ | refine ⟨ent_same rfl rfl (flEq rfl (by first | (simp; done) | (simp; omega) | (simp [encP, encPv, encAt, encSg, encTl, encW, encN, encY]; done) | simp [maxC, minC])) trivial, ?_⟩)) rfl (hK2)
        · have hp : ¬ y.pe = r.pe := by simpa using hb
          rw [if_neg (by simpa using hp), List.append_nil] at hs
          have hK2 := hK1 c (by rw [hs]; exact hS)
          refine nK ?_
          refine s_reg rfl ?_
          refine Run.pure (dd := some 64) rfl rfl (op_add rfl (Opd.tmp _ _ rfl) (Opd.const _) tI) ?_
          refine Run.pure (dd := some 49) rfl rfl (op_move rfl (Opd.tmp _ _ rfl)) ?_
          refine Run.nil (FinR.mk ?_)
          refine nK ?_
          refine Next.weakS [3] [] (by rfl) (by first | exact keeps0 hC _ | exact keepsN hC _ rfl) (by repeat (first | exact trivial | refine ⟨⟨_, rfl, .inl ⟨rfl, rfl⟩⟩, ?_⟩ | refine ⟨⟨_, rfl, .inl ⟨slEq rfl tN, rfl⟩⟩, ?_⟩ | refine ⟨⟨_, rfl, .inl ⟨ivEq tX, rfl⟩⟩, ?_⟩)) (by repeat (first | exact trivial | refine ⟨ent_same rfl rfl rfl tL, ?_⟩ | refine ⟨ent_same rfl rfl (rfEq rfl tU) tL, ?_⟩ | refine ⟨ent_same rfl rfl (flEq rfl (by first | (simp; done) | (simp; omega) | (simp [encP, encPv, encAt, encSg, encTl, encW, encN, encY]; done) | simp [maxC, minC])) trivial, ?_⟩)) rfl (hK2)
      · have hie : i = x.length := by simp at hb; omega
        rw [hie, List.take_length, hown] at hS
        have hc : c = 1 := hS
        subst hc
        refine nK ?_
        refine s_draw mixed ?_
        refine Run.pure (dd := some 65) rfl rfl (op_move rfl (Opd.tmp _ _ rfl)) ?_
        refine Run.pure (dd := some 66) rfl rfl (op_eql rfl (Opd.tmp _ _ rfl) (Opd.const _)) ?_
        refine Run.pure (dd := some 67) rfl rfl (op_move rfl (Opd.tmp _ _ rfl)) ?_
        refine Run.pureG (dd := some 68) rfl rfl rfl tG (op_move rfl (Opd.tmp _ _ rfl)) ?_
        refine Run.pureG (dd := some 69) rfl rfl rfl tG (op_fld_ptr (by decide) rfl (Opd.tmp _ _ rfl)) ?_
        refine Run.loadG (dd := some 70) rfl rfl rfl tG (op_load1_flat rfl (Opd.topt _ _ _ rfl tO) tH rfl) ?_
        refine Run.pureG (dd := some 71) rfl rfl rfl tG (op_call_pure (fun _ => kx) rfl (Opd.func _) (Opds.cons _ _ _ _ (Opd.topt _ _ _ rfl tO) (Opds.cons _ _ _ _ (Opd.topt _ _ _ rfl tO) Opds.nil))) ?_
        refine Run.pureG (dd := some 72) rfl rfl rfl tG (op_move rfl (Opd.tmp _ _ rfl)) ?_
        refine Run.pureG (dd := some 73) rfl rfl rfl tG (op_fld_ptr (by decide) rfl (Opd.tmp _ _ rfl)) ?_
        refine Run.loadG (dd := some 74) rfl rfl rfl tG (op_load1_flat rfl (Opd.topt _ _ _ rfl tO) tH rfl) ?_
        refine Run.pureG (dd := some 75) rfl rfl rfl tG (op_call_pure (fun _ => ko) rfl (Opd.func _) (Opds.cons _ _ _ _ (Opd.topt _ _ _ rfl tO) (Opds.cons _ _ _ _ (Opd.topt _ _ _ rfl tO) Opds.nil))) ?_
        refine Run.pureG (dd := some 76) rfl rfl rfl tG (op_call_pure (fun _ => ks) rfl (Opd.func _) (Opds.cons _ _ _ _ (Opd.topt _ _ _ rfl tO) (Opds.cons _ _ _ _ (Opd.topt _ _ _ rfl tO) Opds.nil))) ?_
        refine Run.pure (dd := some 77) rfl rfl (op_pick_and rfl (Opd.tmp _ _ rfl) (Opd.topt _ _ _ rfl tO)) ?_
        refine Run.pure (dd := some 78) rfl rfl (op_move rfl (Opd.tmp _ _ rfl)) ?_
        refine Run.pureG (dd := some 79) rfl rfl rfl tG (op_call_pure (fun _ => awake_c) rfl (Opd.func _) Opds.nil) ?_
        refine Run.pure (dd := some 80) rfl rfl (op_pick_and rfl (Opd.tmp _ _ rfl) (Opd.topt _ _ _ rfl tO)) ?_
        refine Run.pure (dd := some 4) rfl rfl (op_assign rfl (Opd.tmp _ _ rfl)) ?_
        refine Run.nil (FinD.mk (by kernel_rfl) ?_)
        refine nK ?_
        refine s_oB hC rfl rfl ?_
        simp
end Go.Proofs.Ytfkcbglnadjnnaa
/- How the arguments of the rows read. -/
namespace Go.Proofs.Ytfkcbglnadjnnaa
open Go Go.RT Go.Proofs Go.Pl
set_option linter.all false
variable {H : Type} {enc : TypeId × Value → H} {W : World} {ok : DataW H → Prop} {B : Nat}
theorem rdc_n : RdC ok enc Try.prog W 3 (fun fs => ∃ n, inr .i64 n ∧ fs = [If .i64 n]) := rdc_int (P := Try.prog) (t := 3) inferInstance
theorem rdc_u : RdC ok enc Try.prog W 27 (fun fs => ∃ n, inr .u32 n ∧ fs = [If .u32 n]) := rdc_int (P := Try.prog) (t := 27) inferInstance
theorem rdc_a : RdC ok enc Try.prog W 28 (fun fs => ∃ n, inr .u32 n ∧ fs = [If .u32 n]) := rdc_int (P := Try.prog) (t := 28) inferInstance
theorem rdc_y : RdC ok enc Try.prog W 5 (fun fs => ∃ n, inr .u8 n ∧ fs = [If .u8 n]) := rdc_int (P := Try.prog) (t := 5) inferInstance
theorem rdc_b : RdC ok enc Try.prog W 4 (fun fs => ∃ b, fs = [Bf b]) := rdc_bool (P := Try.prog) (t := 4) inferInstance
theorem rdc_pfx (dn : DnOk H ok B) : RdC ok enc Try.prog W 30 (fun fs => ∃ p : Pfx, p.ok ∧ fs = encP p) :=
  (rdc_struct (P := Try.prog) (t := 30) dn Try.underlying30 (by kernel_rfl) (.cons _ _ _ _ rdc_a (.cons _ _ _ _ rdc_n .nil))).imp fun fs h => by
    obtain ⟨_, _, rfl, ⟨a, ha, rfl⟩, _, _, rfl, ⟨b, hb, rfl⟩, rfl⟩ := h
    have ha' : 0 ≤ a ∧ a < 4294967296 := by simp only [inr] at ha; omega
    refine ⟨⟨a.toNat, b⟩, ⟨by show a.toNat < 2 ^ 32; omega, hb⟩, ?_⟩
    simp only [encP]
    rw [Int.toNat_of_nonneg ha'.1]; rfl
theorem rdc_ns (dn : DnOk H ok B) : RdC ok enc Try.prog W 91 (fun fs => ∃ l : List Int, (∀ x ∈ l, inr .i64 x) ∧ l.length ≤ B ∧ fs = [VI l]) :=
  (rdc_slice (P := Try.prog) (t := 91) (e := 3) dn inferInstance inferInstance (by decide) rdc_n).imp fun fs h => by
    obtain ⟨rows, hr, hl, rfl⟩ := h
    obtain ⟨l, rfl, ho⟩ := rows_of (enc := encN) (ok := inr .i64) (fun fs h => h) hr
    exact ⟨l, ho, by simpa using hl, rfl⟩
theorem rdc_ws (dn : DnOk H ok B) : RdC ok enc Try.prog W 32 (fun fs => ∃ l : List Int, (∀ x ∈ l, inr .u32 x) ∧ l.length ≤ B ∧ fs = [VW l]) :=
  (rdc_slice (P := Try.prog) (t := 32) (e := 27) dn inferInstance inferInstance (by decide) rdc_u).imp fun fs h => by
    obtain ⟨rows, hr, hl, rfl⟩ := h
    obtain ⟨l, rfl, ho⟩ := rows_of (enc := encW) (ok := inr .u32) (fun fs h => h) hr
    exact ⟨l, ho, by simpa using hl, rfl⟩
theorem rdc_ys (dn : DnOk H ok B) : RdC ok enc Try.prog W 75 (fun fs => ∃ l : List Int, (∀ x ∈ l, inr .u8 x) ∧ l.length ≤ B ∧ fs = [VY l]) :=
  (rdc_slice (P := Try.prog) (t := 75) (e := 5) dn inferInstance inferInstance (by decide) rdc_y).imp fun fs h => by
    obtain ⟨rows, hr, hl, rfl⟩ := h
    obtain ⟨l, rfl, ho⟩ := rows_of (enc := encY) (ok := inr .u8) (fun fs h => h) hr
    exact ⟨l, ho, by simpa using hl, rfl⟩
theorem rdc_seg (dn : DnOk H ok B) (hB : B ≤ 2000000) : RdC ok enc Try.prog W 98 (fun fs => ∃ e : Seg, (okSg e ∧ e.as'.length ≤ B) ∧ fs = encSg e) :=
  (rdc_struct (P := Try.prog) (t := 98) dn Try.underlying98 (by kernel_rfl) (.cons _ _ _ _ rdc_n (.cons _ _ _ _ (rdc_ns dn) .nil))).imp fun fs h => by
    obtain ⟨_, _, rfl, ⟨a, ha, rfl⟩, _, _, rfl, ⟨l, hl, hb, rfl⟩, rfl⟩ := h
    exact ⟨⟨a, l⟩, ⟨⟨ha, hl, by show l.length ≤ _; omega⟩, hb⟩, rfl⟩
theorem rdc_segs (dn : DnOk H ok B) (hB : B ≤ 2000000) : RdC ok enc Try.prog W 31 (fun fs => ∃ l : List Seg, (∀ x ∈ l, okSg x ∧ x.as'.length ≤ B) ∧ l.length ≤ B ∧ fs = [VSg l]) :=
  (rdc_slice (P := Try.prog) (t := 31) (e := 98) dn inferInstance inferInstance (by decide) (rdc_seg dn hB)).imp fun fs h => by
    obtain ⟨rows, hr, hl, rfl⟩ := h
    obtain ⟨l, rfl, ho⟩ := rows_of (enc := encSg) (ok := fun x => okSg x ∧ x.as'.length ≤ B) (fun fs h => h) hr
    exact ⟨l, ho, by simpa using hl, rfl⟩
theorem rdc_tlv (dn : DnOk H ok B) (hB : B ≤ 2000000) : RdC ok enc Try.prog W 77 (fun fs => ∃ e : Tlv, okTl e ∧ fs = encTl e) :=
  (rdc_struct (P := Try.prog) (t := 77) dn Try.underlying77 (by kernel_rfl) (.cons _ _ _ _ rdc_n (.cons _ _ _ _ (rdc_ys dn) .nil))).imp fun fs h => by
    obtain ⟨_, _, rfl, ⟨a, ha, rfl⟩, _, _, rfl, ⟨l, hl, hb, rfl⟩, rfl⟩ := h
    exact ⟨⟨a, l⟩, ⟨ha, fun x hx => by have := hl x hx; simp only [inr] at this; omega, by show l.length ≤ _; omega⟩, rfl⟩
theorem rdc_tlvs (dn : DnOk H ok B) (hB : B ≤ 2000000) : RdC ok enc Try.prog W 33 (fun fs => ∃ l : List Tlv, (∀ x ∈ l, okTl x) ∧ l.length ≤ B ∧ fs = [VTl l]) :=
  (rdc_slice (P := Try.prog) (t := 33) (e := 77) dn inferInstance inferInstance (by decide) (rdc_tlv dn hB)).imp fun fs h => by
    obtain ⟨rows, hr, hl, rfl⟩ := h
    obtain ⟨l, rfl, ho⟩ := rows_of (enc := encTl) (ok := okTl) (fun fs h => h) hr
    exact ⟨l, ho, by simpa using hl, rfl⟩
theorem flatS_bd {p : List Seg} (h : ∀ s ∈ p, s.as'.length ≤ B) : (flatS p).length ≤ p.length * B := by
  induction p with
  | nil => simp [flatS]
  | cons s p ih =>
    have h1 := ih fun x hx => h x (List.mem_cons_of_mem _ hx)
    have h2 := h s (List.mem_cons_self ..)
    have : (flatS (s :: p)).length = s.as'.length + (flatS p).length := by unfold flatS; simp
    rw [this, List.length_cons, Nat.succ_mul]; omega
theorem rdc_att (dn : DnOk H ok B) (hB : B ≤ 1048576) : RdC ok enc Try.prog W 35 (fun fs => ∃ e : Att, (okAt e ∧ (flatS e.pa).length ≤ 2000000000000) ∧ fs = encAt e) :=
  (rdc_struct (P := Try.prog) (t := 35) dn Try.underlying35 (by kernel_rfl) (.cons _ _ _ _ rdc_n (.cons _ _ _ _ (rdc_segs dn (by omega)) (.cons _ _ _ _ rdc_a (.cons _ _ _ _ rdc_b (.cons _ _ _ _ rdc_n (.cons _ _ _ _ rdc_b (.cons _ _ _ _ rdc_n (.cons _ _ _ _ rdc_b (.cons _ _ _ _ rdc_b (.cons _ _ _ _ rdc_n (.cons _ _ _ _ rdc_a (.cons _ _ _ _ (rdc_ws dn) (.cons _ _ _ _ rdc_b (.cons _ _ _ _ rdc_u (.cons _ _ _ _ (rdc_ws dn) (.cons _ _ _ _ (rdc_tlvs dn (by omega)) .nil))))))))))))))))).imp fun fs h => by
    obtain ⟨_, _, rfl, ⟨a1, h1, rfl⟩, _, _, rfl, ⟨a2, h2, b2, rfl⟩, _, _, rfl, ⟨a3, h3, rfl⟩, _, _, rfl, ⟨a4, rfl⟩, _, _, rfl, ⟨a5, h5, rfl⟩, _, _, rfl, ⟨a6, rfl⟩, _, _, rfl, ⟨a7, h7, rfl⟩, _, _, rfl, ⟨a8, rfl⟩, _, _, rfl, ⟨a9, rfl⟩, _, _, rfl, ⟨a10, h10, rfl⟩, _, _, rfl, ⟨a11, h11, rfl⟩, _, _, rfl, ⟨a12, h12, b12, rfl⟩, _, _, rfl, ⟨a13, rfl⟩, _, _, rfl, ⟨a14, h14, rfl⟩, _, _, rfl, ⟨a15, h15, b15, rfl⟩, _, _, rfl, ⟨a16, h16, b16, rfl⟩, rfl⟩ := h
    refine ⟨⟨a1, a2, a3, a4, a5, a6, a7, a8, a9, a10, a11, a12, a13, a14, a15, a16⟩, ⟨⟨h1, fun s hs => (h2 s hs).1, h3, h5, h7, h10, h11, h12, h14, h15, h16, by show a2.length ≤ _; omega, by show a12.length ≤ _; omega, by show a15.length ≤ _; omega, by show a16.length ≤ _; omega⟩, ?_⟩, rfl⟩
    have q := flatS_bd (p := a2) (B := B) fun s hs => (h2 s hs).2
    have q2 : a2.length * B ≤ 1048576 * 1048576 := Nat.mul_le_mul (by omega) (by omega)
    show (flatS a2).length ≤ _
    omega
theorem rdc_pv (dn : DnOk H ok B) (hB : B ≤ 1048576) : RdC ok enc Try.prog W 37 (fun fs => ∃ e : Pvr, (okPv e ∧ (flatS e.t.pa).length ≤ 2000000000000) ∧ fs = encPv e) :=
  (rdc_struct (P := Try.prog) (t := 37) dn Try.underlying37 (by kernel_rfl) (.cons _ _ _ _ (rdc_pfx dn) (.cons _ _ _ _ (rdc_att dn hB) (.cons _ _ _ _ rdc_n (.cons _ _ _ _ rdc_n (.cons _ _ _ _ rdc_u (.cons _ _ _ _ rdc_b .nil))))))).imp fun fs h => by
    obtain ⟨_, _, rfl, ⟨a1, h1, rfl⟩, _, _, rfl, ⟨a2, h2, rfl⟩, _, _, rfl, ⟨a3, h3, rfl⟩, _, _, rfl, ⟨a4, h4, rfl⟩, _, _, rfl, ⟨a5, h5, rfl⟩, _, _, rfl, ⟨a6, rfl⟩, rfl⟩ := h
    exact ⟨⟨a1, a2, a3, a4, a5, a6⟩, ⟨⟨h1, h2.1, h3, h4, h5⟩, h2.2⟩, rfl⟩
theorem rdc_pvs (dn : DnOk H ok B) (hB : B ≤ 1048576) : RdC ok enc Try.prog W 22 (fun fs => ∃ l : List Pvr, okV l ∧ fs = [VPv l]) :=
  (rdc_slice (P := Try.prog) (t := 22) (e := 37) dn inferInstance inferInstance (by decide) (rdc_pv dn hB)).imp fun fs h => by
    obtain ⟨rows, hr, hl, rfl⟩ := h
    obtain ⟨l, rfl, ho⟩ := rows_of (enc := encPv) (ok := fun x => okPv x ∧ (flatS x.t.pa).length ≤ 2000000000000) (fun fs h => h) hr
    have hl' : l.length ≤ B := by simpa using hl
    exact ⟨l, ⟨fun x hx => (ho x hx).1, fun x hx => (ho x hx).2, by omega⟩, rfl⟩
end Go.Proofs.Ytfkcbglnadjnnaa
