/- A part of the proof: P23, P24, HP15, HP16, P25, GP11, HP17, P26, LS. -/
import Derived.Test.YtgbfkpcigipniaaZF
set_option linter.all false
namespace Go.Proofs.Ytgbfkpcigipniaa
open Go Go.RT Go.Proofs Go.Pl
set_option linter.all false
set_option maxRecDepth 20000
set_option maxHeartbeats 4000000
theorem ring_c : Pure Try.prog 33 [] (.agg (encG gr1)) := by
  refine Meets.intro Try.func33 rfl (Nat.le_of_ble_eq_true rfl) fun C hC => ?_
  simp only [List.map, argEnv, Nat.reduceAdd]
  refine nK ?_
  refine s_reg rfl ?_
  refine Run.eff (dd := some 0) rfl rfl (op_alloc rfl rfl rfl rfl) ?_
  refine Run.nil (FinR.mk ?_)
  refine nK ?_
  refine s_reg rfl ?_
  first | refine Run.pure (dd := some 1) rfl rfl (op_build rfl rfl rfl (FillF.cons _ _ _ _ _ _ _ _ _ _ (by rfl) (Opd.const _) tC (by rfl) tR (FillF.cons _ _ _ _ _ _ _ _ _ _ (by rfl) (Opd.const _) tC (by rfl) tR (FillF.cons _ _ _ _ _ _ _ _ _ _ (by rfl) (Opd.const _) tC (by rfl) tR (FillF.nil _))))) ?_ | refine Run.pure (dd := some 1) rfl rfl (op_buildP rfl rfl rfl rfl (FillP.cons _ _ _ _ _ _ _ _ _ _ (by rfl) (Opd.const _) tP (by rfl) tR (FillP.cons _ _ _ _ _ _ _ _ _ _ (by rfl) (Opd.const _) tP (by rfl) tR (FillP.cons _ _ _ _ _ _ _ _ _ _ (by rfl) (Opd.const _) tP (by rfl) tR (FillP.nil _))))) ?_
  first | refine Run.pure (dd := some 2) rfl rfl (op_build rfl rfl rfl (FillF.cons _ _ _ _ _ _ _ _ _ _ (by rfl) (Opd.const _) tC (by rfl) tR (FillF.cons _ _ _ _ _ _ _ _ _ _ (by rfl) (Opd.const _) tC (by rfl) tR (FillF.cons _ _ _ _ _ _ _ _ _ _ (by rfl) (Opd.const _) tC (by rfl) tR (FillF.nil _))))) ?_ | refine Run.pure (dd := some 2) rfl rfl (op_buildP rfl rfl rfl rfl (FillP.cons _ _ _ _ _ _ _ _ _ _ (by rfl) (Opd.const _) tP (by rfl) tR (FillP.cons _ _ _ _ _ _ _ _ _ _ (by rfl) (Opd.const _) tP (by rfl) tR (FillP.cons _ _ _ _ _ _ _ _ _ _ (by rfl) (Opd.const _) tP (by rfl) tR (FillP.nil _))))) ?_
  first | refine Run.pure (dd := some 3) rfl rfl (op_build rfl rfl rfl (FillF.cons _ _ _ _ _ _ _ _ _ _ (by rfl) (Opd.const _) tC (by rfl) tR (FillF.cons _ _ _ _ _ _ _ _ _ _ (by rfl) (Opd.const _) tC (by rfl) tR (FillF.cons _ _ _ _ _ _ _ _ _ _ (by rfl) (Opd.const _) tC (by rfl) tR (FillF.nil _))))) ?_ | refine Run.pure (dd := some 3) rfl rfl (op_buildP rfl rfl rfl rfl (FillP.cons _ _ _ _ _ _ _ _ _ _ (by rfl) (Opd.const _) tP (by rfl) tR (FillP.cons _ _ _ _ _ _ _ _ _ _ (by rfl) (Opd.const _) tP (by rfl) tR (FillP.cons _ _ _ _ _ _ _ _ _ _ (by rfl) (Opd.const _) tP (by rfl) tR (FillP.nil _))))) ?_
  first | refine Run.pure (dd := some 4) rfl rfl (op_build rfl rfl rfl (FillF.cons _ _ _ _ _ _ _ _ _ _ (by rfl) (Opd.const _) tC (by rfl) tR (FillF.cons _ _ _ _ _ _ _ _ _ _ (by rfl) (Opd.const _) tC (by rfl) tR (FillF.cons _ _ _ _ _ _ _ _ _ _ (by rfl) (Opd.const _) tC (by rfl) tR (FillF.nil _))))) ?_ | refine Run.pure (dd := some 4) rfl rfl (op_buildP rfl rfl rfl rfl (FillP.cons _ _ _ _ _ _ _ _ _ _ (by rfl) (Opd.const _) tP (by rfl) tR (FillP.cons _ _ _ _ _ _ _ _ _ _ (by rfl) (Opd.const _) tP (by rfl) tR (FillP.cons _ _ _ _ _ _ _ _ _ _ (by rfl) (Opd.const _) tP (by rfl) tR (FillP.nil _))))) ?_
  first | refine Run.pure (dd := some 5) rfl rfl (op_build rfl rfl rfl (FillF.cons _ _ _ _ _ _ _ _ _ _ (by rfl) (Opd.const _) tC (by rfl) tR (FillF.cons _ _ _ _ _ _ _ _ _ _ (by rfl) (Opd.const _) tC (by rfl) tR (FillF.cons _ _ _ _ _ _ _ _ _ _ (by rfl) (Opd.const _) tC (by rfl) tR (FillF.nil _))))) ?_ | refine Run.pure (dd := some 5) rfl rfl (op_buildP rfl rfl rfl rfl (FillP.cons _ _ _ _ _ _ _ _ _ _ (by rfl) (Opd.const _) tP (by rfl) tR (FillP.cons _ _ _ _ _ _ _ _ _ _ (by rfl) (Opd.const _) tP (by rfl) tR (FillP.cons _ _ _ _ _ _ _ _ _ _ (by rfl) (Opd.const _) tP (by rfl) tR (FillP.nil _))))) ?_
  first | refine Run.pure (dd := some 6) rfl rfl (op_build rfl rfl rfl (FillF.cons _ _ _ _ _ _ _ _ _ _ (by rfl) (Opd.const _) tC (by rfl) tR (FillF.cons _ _ _ _ _ _ _ _ _ _ (by rfl) (Opd.const _) tC (by rfl) tR (FillF.cons _ _ _ _ _ _ _ _ _ _ (by rfl) (Opd.const _) tC (by rfl) tR (FillF.nil _))))) ?_ | refine Run.pure (dd := some 6) rfl rfl (op_buildP rfl rfl rfl rfl (FillP.cons _ _ _ _ _ _ _ _ _ _ (by rfl) (Opd.const _) tP (by rfl) tR (FillP.cons _ _ _ _ _ _ _ _ _ _ (by rfl) (Opd.const _) tP (by rfl) tR (FillP.cons _ _ _ _ _ _ _ _ _ _ (by rfl) (Opd.const _) tP (by rfl) tR (FillP.nil _))))) ?_
  first | refine Run.pure (dd := some 7) rfl rfl (op_build rfl rfl rfl (FillF.cons _ _ _ _ _ _ _ _ _ _ (by rfl) (Opd.const _) tC (by rfl) tR (FillF.cons _ _ _ _ _ _ _ _ _ _ (by rfl) (Opd.const _) tC (by rfl) tR (FillF.cons _ _ _ _ _ _ _ _ _ _ (by rfl) (Opd.const _) tC (by rfl) tR (FillF.nil _))))) ?_ | refine Run.pure (dd := some 7) rfl rfl (op_buildP rfl rfl rfl rfl (FillP.cons _ _ _ _ _ _ _ _ _ _ (by rfl) (Opd.const _) tP (by rfl) tR (FillP.cons _ _ _ _ _ _ _ _ _ _ (by rfl) (Opd.const _) tP (by rfl) tR (FillP.cons _ _ _ _ _ _ _ _ _ _ (by rfl) (Opd.const _) tP (by rfl) tR (FillP.nil _))))) ?_
  first | refine Run.pure (dd := some 8) rfl rfl (op_build rfl rfl rfl (FillF.cons _ _ _ _ _ _ _ _ _ _ (by rfl) (Opd.const _) tC (by rfl) tR (FillF.cons _ _ _ _ _ _ _ _ _ _ (by rfl) (Opd.const _) tC (by rfl) tR (FillF.cons _ _ _ _ _ _ _ _ _ _ (by rfl) (Opd.const _) tC (by rfl) tR (FillF.nil _))))) ?_ | refine Run.pure (dd := some 8) rfl rfl (op_buildP rfl rfl rfl rfl (FillP.cons _ _ _ _ _ _ _ _ _ _ (by rfl) (Opd.const _) tP (by rfl) tR (FillP.cons _ _ _ _ _ _ _ _ _ _ (by rfl) (Opd.const _) tP (by rfl) tR (FillP.cons _ _ _ _ _ _ _ _ _ _ (by rfl) (Opd.const _) tP (by rfl) tR (FillP.nil _))))) ?_
  refine Run.pure (dd := some 9) rfl rfl (op_buildSlice_fz rfl (RowsF.cons _ _ _ _ _ _ (Opd.tmp _ _ rfl) tC (by rfl) (RowsF.cons _ _ _ _ _ _ (Opd.tmp _ _ rfl) tC (by rfl) (RowsF.cons _ _ _ _ _ _ (Opd.tmp _ _ rfl) tC (by rfl) (RowsF.cons _ _ _ _ _ _ (Opd.tmp _ _ rfl) tC (by rfl) (RowsF.cons _ _ _ _ _ _ (Opd.tmp _ _ rfl) tC (by rfl) (RowsF.cons _ _ _ _ _ _ (Opd.tmp _ _ rfl) tC (by rfl) (RowsF.cons _ _ _ _ _ _ (Opd.tmp _ _ rfl) tC (by rfl) (RowsF.cons _ _ _ _ _ _ (Opd.tmp _ _ rfl) tC (by rfl) (RowsF.nil _))))))))) rfl rfl) ?_
  first | refine Run.pure (dd := some 10) rfl rfl (op_build rfl rfl rfl (FillF.cons _ _ _ _ _ _ _ _ _ _ (by rfl) (Opd.const _) tC (by rfl) tR (FillF.cons _ _ _ _ _ _ _ _ _ _ (by rfl) (Opd.tmp _ _ rfl) tC (by rfl) tR (FillF.nil _)))) ?_ | refine Run.pure (dd := some 10) rfl rfl (op_buildP rfl rfl rfl rfl (FillP.cons _ _ _ _ _ _ _ _ _ _ (by rfl) (Opd.const _) tP (by rfl) tR (FillP.cons _ _ _ _ _ _ _ _ _ _ (by rfl) (Opd.tmp _ _ rfl) tP (by rfl) tR (FillP.nil _)))) ?_
  first | refine Run.eff (dd := none) rfl rfl (op_store_flat rfl (Opd.tmp _ _ rfl) (Opd.tmp _ _ rfl) tC rfl rfl (by first | rfl | assumption) tS) ?_ | refine Run.eff (dd := none) rfl rfl (op_store_refs rfl (Opd.tmp _ _ rfl) (Opd.tmp _ _ rfl) tP rfl rfl rfl tS) ?_
  refine Run.nil (FinR.mk ?_)
  refine nK ?_
  (first | exact s_o1 hC rfl tV | exact s_o2 hC rfl tV tV | exact s_o3 hC rfl tV tV tV | exact s_out0 hC rfl | exact s_outO hC rfl rfl rfl)
theorem lives_c : Pure Try.prog 15 [] (Bf true) := by
  have k1 := run_c gr1 0 tr1 gr1_ok run1
  have k2 := run_c gr2 0 tr2 gr2_ok run2
  have k3 := path_c tr1 2 4 (by decide) rfl (by decide) (by have := parL_ok (checkI_vg run1.ok).1 0 tr1.dist; rw [run1.par]; exact this)
  rw [path1] at k3
  have s := fun a b ha hb => sameints_c a b ha hb
  refine Meets.intro Try.func15 rfl (Nat.le_of_ble_eq_true rfl) fun C hC => ?_
  simp only [List.map, argEnv, Nat.reduceAdd]
  refine nK ?_
  refine s_reg rfl ?_
  first | refine Run.pure (dd := some 0) rfl rfl (op_assign rfl (Opd.const _)) ?_ | refine Run.pure (dd := some 0) rfl rfl (op_junk (.inr rfl)) ?_
  refine Run.nil (FinR.mk ?_)
  refine nK ?_
  refine s_reg rfl ?_
  refine Run.pure (dd := some 6) rfl rfl (op_call_pure (fun _ => ring_c) rfl (Opd.func _) Opds.nil) ?_
  refine Run.pure (dd := some 7) rfl rfl (op_call_pure (fun _ => k1) rfl (Opd.func _) (Opds.cons _ _ _ _ (Opd.tmp _ _ rfl) (Opds.cons _ _ _ _ (Opd.const _) Opds.nil))) ?_
  first | refine Run.pure (dd := some 5) rfl rfl (op_move rfl (Opd.tmp _ _ rfl)) ?_ | refine Run.pure (dd := some 5) rfl rfl (op_junk (.inl rfl)) ?_
  first | refine Run.pure (dd := some 8) rfl rfl (op_extract_fz rfl (Opd.tmp _ _ rfl) rfl) ?_ | refine Run.pure (dd := some 8) rfl rfl (op_extract rfl (Opd.tmp _ _ rfl) rfl) ?_
  first | refine Run.pure (dd := some 9) rfl rfl (op_extract_fz rfl (Opd.tmp _ _ rfl) rfl) ?_ | refine Run.pure (dd := some 9) rfl rfl (op_extract rfl (Opd.tmp _ _ rfl) rfl) ?_
  refine Run.eff (dd := some 1) rfl rfl (op_alloc rfl rfl rfl rfl) ?_
  first | refine Run.eff (dd := none) rfl rfl (op_store_flat rfl (Opd.tmp _ _ rfl) (Opd.tmp _ _ rfl) tC rfl rfl (by first | rfl | assumption) tS) ?_ | refine Run.eff (dd := none) rfl rfl (op_store_refs rfl (Opd.tmp _ _ rfl) (Opd.tmp _ _ rfl) tP rfl rfl rfl tS) ?_
  first | refine Run.pure (dd := some 2) rfl rfl (op_assign rfl (Opd.tmp _ _ rfl)) ?_ | refine Run.pure (dd := some 2) rfl rfl (op_junk (.inr rfl)) ?_
  refine Run.nil (FinR.mk ?_)
  refine nK ?_
  refine s_reg rfl ?_
  first | refine Run.pure (dd := some 11) rfl rfl (op_build rfl rfl rfl (FillF.cons _ _ _ _ _ _ _ _ _ _ (by rfl) (Opd.const _) tC (by rfl) tR (FillF.cons _ _ _ _ _ _ _ _ _ _ (by rfl) (Opd.const _) tC (by rfl) tR (FillF.cons _ _ _ _ _ _ _ _ _ _ (by rfl) (Opd.const _) tC (by rfl) tR (FillF.nil _))))) ?_ | refine Run.pure (dd := some 11) rfl rfl (op_buildP rfl rfl rfl rfl (FillP.cons _ _ _ _ _ _ _ _ _ _ (by rfl) (Opd.const _) tP (by rfl) tR (FillP.cons _ _ _ _ _ _ _ _ _ _ (by rfl) (Opd.const _) tP (by rfl) tR (FillP.cons _ _ _ _ _ _ _ _ _ _ (by rfl) (Opd.const _) tP (by rfl) tR (FillP.nil _))))) ?_
  first | refine Run.pure (dd := some 12) rfl rfl (op_build rfl rfl rfl (FillF.cons _ _ _ _ _ _ _ _ _ _ (by rfl) (Opd.const _) tC (by rfl) tR (FillF.cons _ _ _ _ _ _ _ _ _ _ (by rfl) (Opd.const _) tC (by rfl) tR (FillF.cons _ _ _ _ _ _ _ _ _ _ (by rfl) (Opd.const _) tC (by rfl) tR (FillF.nil _))))) ?_ | refine Run.pure (dd := some 12) rfl rfl (op_buildP rfl rfl rfl rfl (FillP.cons _ _ _ _ _ _ _ _ _ _ (by rfl) (Opd.const _) tP (by rfl) tR (FillP.cons _ _ _ _ _ _ _ _ _ _ (by rfl) (Opd.const _) tP (by rfl) tR (FillP.cons _ _ _ _ _ _ _ _ _ _ (by rfl) (Opd.const _) tP (by rfl) tR (FillP.nil _))))) ?_
  first | refine Run.pure (dd := some 13) rfl rfl (op_build rfl rfl rfl (FillF.cons _ _ _ _ _ _ _ _ _ _ (by rfl) (Opd.const _) tC (by rfl) tR (FillF.cons _ _ _ _ _ _ _ _ _ _ (by rfl) (Opd.const _) tC (by rfl) tR (FillF.nil _)))) ?_ | refine Run.pure (dd := some 13) rfl rfl (op_buildP rfl rfl rfl rfl (FillP.cons _ _ _ _ _ _ _ _ _ _ (by rfl) (Opd.const _) tP (by rfl) tR (FillP.cons _ _ _ _ _ _ _ _ _ _ (by rfl) (Opd.const _) tP (by rfl) tR (FillP.nil _)))) ?_
  first | refine Run.pure (dd := some 14) rfl rfl (op_build rfl rfl rfl (FillF.cons _ _ _ _ _ _ _ _ _ _ (by rfl) (Opd.const _) tC (by rfl) tR (FillF.cons _ _ _ _ _ _ _ _ _ _ (by rfl) (Opd.const _) tC (by rfl) tR (FillF.nil _)))) ?_ | refine Run.pure (dd := some 14) rfl rfl (op_buildP rfl rfl rfl rfl (FillP.cons _ _ _ _ _ _ _ _ _ _ (by rfl) (Opd.const _) tP (by rfl) tR (FillP.cons _ _ _ _ _ _ _ _ _ _ (by rfl) (Opd.const _) tP (by rfl) tR (FillP.nil _)))) ?_
  refine Run.pure (dd := some 15) rfl rfl (op_buildSlice_fz rfl (RowsF.cons _ _ _ _ _ _ (Opd.tmp _ _ rfl) tC (by rfl) (RowsF.cons _ _ _ _ _ _ (Opd.tmp _ _ rfl) tC (by rfl) (RowsF.cons _ _ _ _ _ _ (Opd.tmp _ _ rfl) tC (by rfl) (RowsF.cons _ _ _ _ _ _ (Opd.tmp _ _ rfl) tC (by rfl) (RowsF.nil _))))) rfl rfl) ?_
  first | refine Run.pure (dd := some 16) rfl rfl (op_build rfl rfl rfl (FillF.cons _ _ _ _ _ _ _ _ _ _ (by rfl) (Opd.const _) tC (by rfl) tR (FillF.cons _ _ _ _ _ _ _ _ _ _ (by rfl) (Opd.const _) tC (by rfl) tR (FillF.cons _ _ _ _ _ _ _ _ _ _ (by rfl) (Opd.tmp _ _ rfl) tC (by rfl) tR (FillF.nil _))))) ?_ | refine Run.pure (dd := some 16) rfl rfl (op_buildP rfl rfl rfl rfl (FillP.cons _ _ _ _ _ _ _ _ _ _ (by rfl) (Opd.const _) tP (by rfl) tR (FillP.cons _ _ _ _ _ _ _ _ _ _ (by rfl) (Opd.const _) tP (by rfl) tR (FillP.cons _ _ _ _ _ _ _ _ _ _ (by rfl) (Opd.tmp _ _ rfl) tP (by rfl) tR (FillP.nil _))))) ?_
  refine Run.pure (dd := some 17) rfl rfl (op_call_pure (fun _ => k2) rfl (Opd.func _) (Opds.cons _ _ _ _ (Opd.tmp _ _ rfl) (Opds.cons _ _ _ _ (Opd.const _) Opds.nil))) ?_
  first | refine Run.pure (dd := some 10) rfl rfl (op_move rfl (Opd.tmp _ _ rfl)) ?_ | refine Run.pure (dd := some 10) rfl rfl (op_junk (.inl rfl)) ?_
  first | refine Run.pure (dd := some 18) rfl rfl (op_extract_fz rfl (Opd.tmp _ _ rfl) rfl) ?_ | refine Run.pure (dd := some 18) rfl rfl (op_extract rfl (Opd.tmp _ _ rfl) rfl) ?_
  first | refine Run.pure (dd := some 19) rfl rfl (op_extract_fz rfl (Opd.tmp _ _ rfl) rfl) ?_ | refine Run.pure (dd := some 19) rfl rfl (op_extract rfl (Opd.tmp _ _ rfl) rfl) ?_
  refine Run.eff (dd := some 3) rfl rfl (op_alloc rfl rfl rfl rfl) ?_
  first | refine Run.eff (dd := none) rfl rfl (op_store_flat rfl (Opd.tmp _ _ rfl) (Opd.tmp _ _ rfl) tC rfl rfl (by first | rfl | assumption) tS) ?_ | refine Run.eff (dd := none) rfl rfl (op_store_refs rfl (Opd.tmp _ _ rfl) (Opd.tmp _ _ rfl) tP rfl rfl rfl tS) ?_
  first | refine Run.pure (dd := some 4) rfl rfl (op_assign rfl (Opd.tmp _ _ rfl)) ?_ | refine Run.pure (dd := some 4) rfl rfl (op_junk (.inr rfl)) ?_
  refine Run.nil (FinR.mk ?_)
  refine nK ?_
  refine s_reg rfl ?_
  first | refine Run.pure (dd := some 20) rfl rfl (op_move rfl (Opd.tmp _ _ rfl)) ?_ | refine Run.pure (dd := some 20) rfl rfl (op_junk (.inl rfl)) ?_
  refine Run.pure (dd := some 21) rfl rfl (op_neq rfl (Opd.tmp _ _ rfl) (Opd.const _)) ?_
  first | refine Run.pure (dd := some 22) rfl rfl (op_move rfl (Opd.tmp _ _ rfl)) ?_ | refine Run.pure (dd := some 22) rfl rfl (op_junk (.inl rfl)) ?_
  first | refine Run.pureG (dd := some 23) rfl rfl rfl tG (op_move rfl (Opd.tmp _ _ rfl)) ?_ | refine Run.pureG (dd := some 23) rfl rfl rfl tG (op_junk (.inl rfl)) ?_
  refine Run.pureG (dd := some 24) rfl rfl rfl tG (op_neq rfl (Opd.topt _ _ _ rfl tO) (Opd.const _)) ?_
  refine Run.pure (dd := some 25) rfl rfl (op_pick_or rfl (Opd.tmp _ _ rfl) (Opd.topt _ _ _ rfl tO)) ?_
  first | refine Run.pure (dd := some 26) rfl rfl (op_move rfl (Opd.tmp _ _ rfl)) ?_ | refine Run.pure (dd := some 26) rfl rfl (op_junk (.inl rfl)) ?_
  first | refine Run.pureG (dd := some 27) rfl rfl rfl tG (op_fld_ptr (by decide) rfl (Opd.tmp _ _ rfl)) ?_ | refine Run.pureG (dd := some 27) rfl rfl rfl tG (op_fld_fz (by decide) rfl (Opd.tmp _ _ rfl) tR) ?_
  first | refine Run.loadG (dd := some 28) rfl rfl rfl tG (op_load1_flat rfl (Opd.topt _ _ _ rfl tO) tH rfl) ?_ | refine Run.pureG (dd := some 28) rfl rfl rfl tG (op_load1_fz rfl (Opd.topt _ _ _ rfl tO) rfl) ?_ | refine Run.loadG (dd := some 28) rfl rfl rfl tG (op_load1_refs rfl (Opd.topt _ _ _ rfl tO) tH rfl) ?_
  first | refine Run.pureG (dd := some 29) rfl rfl rfl tG (op_len_fz rfl (by first | exact Opd.topt _ _ _ rfl tO | exact Opd.nil _ _ (Opd.topt _ _ _ rfl tO)) (by first | exact List.length_map _ | rfl)) ?_ | refine Run.pureG (dd := some 29) rfl rfl rfl tG (op_len_sl rfl (Opd.topt _ _ _ rfl tO)) ?_
  refine Run.pureG (dd := some 30) rfl rfl rfl tG (op_neq rfl (Opd.topt _ _ _ rfl tO) (Opd.const _)) ?_
  refine Run.pure (dd := some 31) rfl rfl (op_pick_or rfl (Opd.tmp _ _ rfl) (Opd.topt _ _ _ rfl tO)) ?_
  first | refine Run.pure (dd := some 32) rfl rfl (op_move rfl (Opd.tmp _ _ rfl)) ?_ | refine Run.pure (dd := some 32) rfl rfl (op_junk (.inl rfl)) ?_
  first | refine Run.pureG (dd := some 33) rfl rfl rfl tG (op_fld_ptr (by decide) rfl (Opd.tmp _ _ rfl)) ?_ | refine Run.pureG (dd := some 33) rfl rfl rfl tG (op_fld_fz (by decide) rfl (Opd.tmp _ _ rfl) tR) ?_
  first | refine Run.loadG (dd := some 34) rfl rfl rfl tG (op_load1_flat rfl (Opd.topt _ _ _ rfl tO) tH rfl) ?_ | refine Run.pureG (dd := some 34) rfl rfl rfl tG (op_load1_fz rfl (Opd.topt _ _ _ rfl tO) rfl) ?_ | refine Run.loadG (dd := some 34) rfl rfl rfl tG (op_load1_refs rfl (Opd.topt _ _ _ rfl tO) tH rfl) ?_
  first | refine Run.pureG (dd := some 35) rfl rfl rfl tG (op_len_fz rfl (by first | exact Opd.topt _ _ _ rfl tO | exact Opd.nil _ _ (Opd.topt _ _ _ rfl tO)) (by first | exact List.length_map _ | rfl)) ?_ | refine Run.pureG (dd := some 35) rfl rfl rfl tG (op_len_sl rfl (Opd.topt _ _ _ rfl tO)) ?_
  refine Run.pureG (dd := some 36) rfl rfl rfl tG (op_neq rfl (Opd.topt _ _ _ rfl tO) (Opd.const _)) ?_
  refine Run.pure (dd := some 37) rfl rfl (op_pick_or rfl (Opd.tmp _ _ rfl) (Opd.topt _ _ _ rfl tO)) ?_
  first | refine Run.pure (dd := some 38) rfl rfl (op_move rfl (Opd.tmp _ _ rfl)) ?_ | refine Run.pure (dd := some 38) rfl rfl (op_junk (.inl rfl)) ?_
  first | refine Run.pureG (dd := some 39) rfl rfl rfl tG (op_fld_ptr (by decide) rfl (Opd.tmp _ _ rfl)) ?_ | refine Run.pureG (dd := some 39) rfl rfl rfl tG (op_fld_fz (by decide) rfl (Opd.tmp _ _ rfl) tR) ?_
  first | refine Run.loadG (dd := some 40) rfl rfl rfl tG (op_load1_flat rfl (Opd.topt _ _ _ rfl tO) tH rfl) ?_ | refine Run.pureG (dd := some 40) rfl rfl rfl tG (op_load1_fz rfl (Opd.topt _ _ _ rfl tO) rfl) ?_ | refine Run.loadG (dd := some 40) rfl rfl rfl tG (op_load1_refs rfl (Opd.topt _ _ _ rfl tO) tH rfl) ?_
  first | refine Run.pureG (dd := some 41) rfl rfl rfl tG (op_len_fz rfl (by first | exact Opd.topt _ _ _ rfl tO | exact Opd.nil _ _ (Opd.topt _ _ _ rfl tO)) (by first | exact List.length_map _ | rfl)) ?_ | refine Run.pureG (dd := some 41) rfl rfl rfl tG (op_len_sl rfl (Opd.topt _ _ _ rfl tO)) ?_
  refine Run.pureG (dd := some 42) rfl rfl rfl tG (op_neq rfl (Opd.topt _ _ _ rfl tO) (Opd.const _)) ?_
  refine Run.pure (dd := some 43) rfl rfl (op_pick_or rfl (Opd.tmp _ _ rfl) (Opd.topt _ _ _ rfl tO)) ?_
  first | refine Run.pure (dd := some 44) rfl rfl (op_move rfl (Opd.tmp _ _ rfl)) ?_ | refine Run.pure (dd := some 44) rfl rfl (op_junk (.inl rfl)) ?_
  first | refine Run.pureG (dd := some 45) rfl rfl rfl tG (op_fld_ptr (by decide) rfl (Opd.tmp _ _ rfl)) ?_ | refine Run.pureG (dd := some 45) rfl rfl rfl tG (op_fld_fz (by decide) rfl (Opd.tmp _ _ rfl) tR) ?_
  first | refine Run.loadG (dd := some 46) rfl rfl rfl tG (op_load1_flat rfl (Opd.topt _ _ _ rfl tO) tH rfl) ?_ | refine Run.pureG (dd := some 46) rfl rfl rfl tG (op_load1_fz rfl (Opd.topt _ _ _ rfl tO) rfl) ?_ | refine Run.loadG (dd := some 46) rfl rfl rfl tG (op_load1_refs rfl (Opd.topt _ _ _ rfl tO) tH rfl) ?_
  first | refine Run.pureG (dd := some 47) rfl rfl rfl tG (op_len_fz rfl (by first | exact Opd.topt _ _ _ rfl tO | exact Opd.nil _ _ (Opd.topt _ _ _ rfl tO)) (by first | exact List.length_map _ | rfl)) ?_ | refine Run.pureG (dd := some 47) rfl rfl rfl tG (op_len_sl rfl (Opd.topt _ _ _ rfl tO)) ?_
  refine Run.pureG (dd := some 48) rfl rfl rfl tG (op_neq rfl (Opd.topt _ _ _ rfl tO) (Opd.const _)) ?_
  refine Run.pure (dd := some 49) rfl rfl (op_pick_or rfl (Opd.tmp _ _ rfl) (Opd.topt _ _ _ rfl tO)) ?_
  first | refine Run.pure (dd := some 50) rfl rfl (op_move rfl (Opd.tmp _ _ rfl)) ?_ | refine Run.pure (dd := some 50) rfl rfl (op_junk (.inl rfl)) ?_
  first | refine Run.pureG (dd := some 51) rfl rfl rfl tG (op_fld_ptr (by decide) rfl (Opd.tmp _ _ rfl)) ?_ | refine Run.pureG (dd := some 51) rfl rfl rfl tG (op_fld_fz (by decide) rfl (Opd.tmp _ _ rfl) tR) ?_
  first | refine Run.loadG (dd := some 52) rfl rfl rfl tG (op_load1_flat rfl (Opd.topt _ _ _ rfl tO) tH rfl) ?_ | refine Run.pureG (dd := some 52) rfl rfl rfl tG (op_load1_fz rfl (Opd.topt _ _ _ rfl tO) rfl) ?_ | refine Run.loadG (dd := some 52) rfl rfl rfl tG (op_load1_refs rfl (Opd.topt _ _ _ rfl tO) tH rfl) ?_
  first | refine Run.pureG (dd := some 53) rfl rfl rfl tG (op_len_fz rfl (by first | exact Opd.topt _ _ _ rfl tO | exact Opd.nil _ _ (Opd.topt _ _ _ rfl tO)) (by first | exact List.length_map _ | rfl)) ?_ | refine Run.pureG (dd := some 53) rfl rfl rfl tG (op_len_sl rfl (Opd.topt _ _ _ rfl tO)) ?_
  refine Run.pureG (dd := some 54) rfl rfl rfl tG (op_neq rfl (Opd.topt _ _ _ rfl tO) (Opd.const _)) ?_
  refine Run.pure (dd := some 55) rfl rfl (op_pick_or rfl (Opd.tmp _ _ rfl) (Opd.topt _ _ _ rfl tO)) ?_
  refine Run.nil (FinR.mk ?_)
  refine nK ?_
  refine nK ?_
  refine n_cond _ rfl (fun hb => ?_) (fun hb => ?_)
  · exact absurd hb (by decide)
  · refine nK ?_
    refine s_reg rfl ?_
    first | refine Run.pure (dd := some 56) rfl rfl (op_fld_ptr (by decide) rfl (Opd.tmp _ _ rfl)) ?_ | refine Run.pure (dd := some 56) rfl rfl (op_fld_fz (by decide) rfl (Opd.tmp _ _ rfl) tR) ?_
    first | refine Run.load (dd := some 57) rfl rfl (op_load1_flat rfl (Opd.tmp _ _ rfl) tH rfl) ?_ | refine Run.pure (dd := some 57) rfl rfl (op_load1_fz rfl (Opd.tmp _ _ rfl) rfl) ?_ | refine Run.load (dd := some 57) rfl rfl (op_load1_refs rfl (Opd.tmp _ _ rfl) tH rfl) ?_
    refine Run.pure (dd := some 58) rfl rfl (op_buildSlice_fz rfl (RowsF.cons _ _ _ _ _ _ (Opd.const _) tC (by rfl) (RowsF.cons _ _ _ _ _ _ (Opd.const _) tC (by rfl) (RowsF.cons _ _ _ _ _ _ (Opd.const _) tC (by rfl) (RowsF.cons _ _ _ _ _ _ (Opd.const _) tC (by rfl) (RowsF.nil _))))) rfl rfl) ?_
    refine Run.pure (dd := some 59) rfl rfl (op_call_pure (fun _ => s [0, 1, 2, 1] [0, 1, 2, 1] (by decide) (by decide)) rfl (Opd.func _) (Opds.cons _ _ _ _ (Opd.tmp _ _ rfl) (Opds.cons _ _ _ _ (Opd.tmp _ _ rfl) Opds.nil))) ?_
    first | refine Run.pure (dd := some 60) rfl rfl (op_move rfl (Opd.tmp _ _ rfl)) ?_ | refine Run.pure (dd := some 60) rfl rfl (op_junk (.inl rfl)) ?_
    first | refine Run.pureG (dd := some 61) rfl rfl rfl tG (op_fld_ptr (by decide) rfl (Opd.tmp _ _ rfl)) ?_ | refine Run.pureG (dd := some 61) rfl rfl rfl tG (op_fld_fz (by decide) rfl (Opd.tmp _ _ rfl) tR) ?_
    first | refine Run.loadG (dd := some 62) rfl rfl rfl tG (op_load1_flat rfl (Opd.topt _ _ _ rfl tO) tH rfl) ?_ | refine Run.pureG (dd := some 62) rfl rfl rfl tG (op_load1_fz rfl (Opd.topt _ _ _ rfl tO) rfl) ?_ | refine Run.loadG (dd := some 62) rfl rfl rfl tG (op_load1_refs rfl (Opd.topt _ _ _ rfl tO) tH rfl) ?_
    refine Run.pureG (dd := some 63) rfl rfl rfl tG (op_idx_fz 2 rfl (Opd.topt _ _ _ rfl tO) (Opd.const _) (by intro _; exact ⟨rfl, rfl⟩)) ?_
    first | refine Run.loadG (dd := some 64) rfl rfl rfl tG (op_load1_flat rfl (Opd.topt _ _ _ rfl tO) tH rfl) ?_ | refine Run.pureG (dd := some 64) rfl rfl rfl tG (op_load1_fz rfl (Opd.topt _ _ _ rfl tO) rfl) ?_ | refine Run.loadG (dd := some 64) rfl rfl rfl tG (op_load1_refs rfl (Opd.topt _ _ _ rfl tO) tH rfl) ?_
    refine Run.pureG (dd := some 65) rfl rfl rfl tG (op_buildSlice_fz rfl (RowsF.cons _ _ _ _ _ _ (Opd.const _) tC (by rfl) (RowsF.cons _ _ _ _ _ _ (Opd.const _) tC (by rfl) (RowsF.nil _))) rfl rfl) ?_
    refine Run.pureG (dd := some 66) rfl rfl rfl tG (op_call_pure (fun _ => s [1, 3] [1, 3] (by decide) (by decide)) rfl (Opd.func _) (Opds.cons _ _ _ _ (Opd.topt _ _ _ rfl tO) (Opds.cons _ _ _ _ (Opd.topt _ _ _ rfl tO) Opds.nil))) ?_
    refine Run.pure (dd := some 67) rfl rfl (op_pick_and rfl (Opd.tmp _ _ rfl) (Opd.topt _ _ _ rfl tO)) ?_
    first | refine Run.pure (dd := some 68) rfl rfl (op_move rfl (Opd.tmp _ _ rfl)) ?_ | refine Run.pure (dd := some 68) rfl rfl (op_junk (.inl rfl)) ?_
    first | refine Run.pureG (dd := some 69) rfl rfl rfl tG (op_fld_ptr (by decide) rfl (Opd.tmp _ _ rfl)) ?_ | refine Run.pureG (dd := some 69) rfl rfl rfl tG (op_fld_fz (by decide) rfl (Opd.tmp _ _ rfl) tR) ?_
    first | refine Run.loadG (dd := some 70) rfl rfl rfl tG (op_load1_flat rfl (Opd.topt _ _ _ rfl tO) tH rfl) ?_ | refine Run.pureG (dd := some 70) rfl rfl rfl tG (op_load1_fz rfl (Opd.topt _ _ _ rfl tO) rfl) ?_ | refine Run.loadG (dd := some 70) rfl rfl rfl tG (op_load1_refs rfl (Opd.topt _ _ _ rfl tO) tH rfl) ?_
    refine Run.pureG (dd := some 71) rfl rfl rfl tG (op_idx_fz 2 rfl (Opd.topt _ _ _ rfl tO) (Opd.const _) (by intro _; exact ⟨rfl, rfl⟩)) ?_
    first | refine Run.loadG (dd := some 72) rfl rfl rfl tG (op_load1_flat rfl (Opd.topt _ _ _ rfl tO) tH rfl) ?_ | refine Run.pureG (dd := some 72) rfl rfl rfl tG (op_load1_fz rfl (Opd.topt _ _ _ rfl tO) rfl) ?_ | refine Run.loadG (dd := some 72) rfl rfl rfl tG (op_load1_refs rfl (Opd.topt _ _ _ rfl tO) tH rfl) ?_
    refine Run.pureG (dd := some 73) rfl rfl rfl tG (op_buildSlice_fz rfl (RowsF.cons _ _ _ _ _ _ (Opd.const _) tC (by rfl) (RowsF.cons _ _ _ _ _ _ (Opd.const _) tC (by rfl) (RowsF.nil _))) rfl rfl) ?_
    refine Run.pureG (dd := some 74) rfl rfl rfl tG (op_call_pure (fun _ => s [1, 3] [1, 3] (by decide) (by decide)) rfl (Opd.func _) (Opds.cons _ _ _ _ (Opd.topt _ _ _ rfl tO) (Opds.cons _ _ _ _ (Opd.topt _ _ _ rfl tO) Opds.nil))) ?_
    refine Run.pure (dd := some 75) rfl rfl (op_pick_and rfl (Opd.tmp _ _ rfl) (Opd.topt _ _ _ rfl tO)) ?_
    first | refine Run.pure (dd := some 76) rfl rfl (op_move rfl (Opd.tmp _ _ rfl)) ?_ | refine Run.pure (dd := some 76) rfl rfl (op_junk (.inl rfl)) ?_
    first | refine Run.loadG (dd := some 77) rfl rfl rfl tG (op_loadw_flat rfl (Opd.tmp _ _ rfl) tH rfl) ?_ | refine Run.pureG (dd := some 77) rfl rfl rfl tG (op_loadw_fz rfl (Opd.tmp _ _ rfl) rfl) ?_ | refine Run.loadG (dd := some 77) rfl rfl rfl tG (op_loadn_flat rfl (Opd.tmp _ _ rfl) tH tR tR) ?_ | refine Run.pureG (dd := some 77) rfl rfl rfl tG (op_loadn_fz rfl (Opd.tmp _ _ rfl) tR) ?_ | refine Run.loadG (dd := some 77) rfl rfl rfl tG (op_loadn_refs rfl (Opd.tmp _ _ rfl) tH tR tR) ?_
    refine Run.pureG (dd := some 78) rfl rfl rfl tG (op_call_pure (fun _ => k3) rfl (Opd.func _) (Opds.cons _ _ _ _ (Opd.topt _ _ _ rfl tO) (Opds.cons _ _ _ _ (Opd.const _) Opds.nil))) ?_
    refine Run.pureG (dd := some 79) rfl rfl rfl tG (op_buildSlice_fz rfl (RowsF.cons _ _ _ _ _ _ (Opd.const _) tC (by rfl) (RowsF.cons _ _ _ _ _ _ (Opd.const _) tC (by rfl) (RowsF.cons _ _ _ _ _ _ (Opd.const _) tC (by rfl) (RowsF.nil _)))) rfl rfl) ?_
    refine Run.pureG (dd := some 80) rfl rfl rfl tG (op_call_pure (fun _ => s [0, 1, 2] [0, 1, 2] (by decide) (by decide)) rfl (Opd.func _) (Opds.cons _ _ _ _ (Opd.topt _ _ _ rfl tO) (Opds.cons _ _ _ _ (Opd.topt _ _ _ rfl tO) Opds.nil))) ?_
    refine Run.pure (dd := some 81) rfl rfl (op_pick_and rfl (Opd.tmp _ _ rfl) (Opd.topt _ _ _ rfl tO)) ?_
    first | refine Run.pure (dd := some 82) rfl rfl (op_move rfl (Opd.tmp _ _ rfl)) ?_ | refine Run.pure (dd := some 82) rfl rfl (op_junk (.inl rfl)) ?_
    first | refine Run.pureG (dd := some 83) rfl rfl rfl tG (op_fld_ptr (by decide) rfl (Opd.tmp _ _ rfl)) ?_ | refine Run.pureG (dd := some 83) rfl rfl rfl tG (op_fld_fz (by decide) rfl (Opd.tmp _ _ rfl) tR) ?_
    first | refine Run.loadG (dd := some 84) rfl rfl rfl tG (op_load1_flat rfl (Opd.topt _ _ _ rfl tO) tH rfl) ?_ | refine Run.pureG (dd := some 84) rfl rfl rfl tG (op_load1_fz rfl (Opd.topt _ _ _ rfl tO) rfl) ?_ | refine Run.loadG (dd := some 84) rfl rfl rfl tG (op_load1_refs rfl (Opd.topt _ _ _ rfl tO) tH rfl) ?_
    refine Run.pureG (dd := some 85) rfl rfl rfl tG (op_buildSlice_fz rfl (RowsF.cons _ _ _ _ _ _ (Opd.const _) tC (by rfl) (RowsF.cons _ _ _ _ _ _ (Opd.const _) tC (by rfl) (RowsF.cons _ _ _ _ _ _ (Opd.const _) tC (by rfl) (RowsF.nil _)))) rfl rfl) ?_
    refine Run.pureG (dd := some 86) rfl rfl rfl tG (op_call_pure (fun _ => s [0, 3, 3] [0, 3, 3] (by decide) (by decide)) rfl (Opd.func _) (Opds.cons _ _ _ _ (Opd.topt _ _ _ rfl tO) (Opds.cons _ _ _ _ (Opd.topt _ _ _ rfl tO) Opds.nil))) ?_
    refine Run.pure (dd := some 87) rfl rfl (op_pick_and rfl (Opd.tmp _ _ rfl) (Opd.topt _ _ _ rfl tO)) ?_
    first | refine Run.pure (dd := some 88) rfl rfl (op_move rfl (Opd.tmp _ _ rfl)) ?_ | refine Run.pure (dd := some 88) rfl rfl (op_junk (.inl rfl)) ?_
    first | refine Run.pureG (dd := some 89) rfl rfl rfl tG (op_fld_ptr (by decide) rfl (Opd.tmp _ _ rfl)) ?_ | refine Run.pureG (dd := some 89) rfl rfl rfl tG (op_fld_fz (by decide) rfl (Opd.tmp _ _ rfl) tR) ?_
    first | refine Run.loadG (dd := some 90) rfl rfl rfl tG (op_load1_flat rfl (Opd.topt _ _ _ rfl tO) tH rfl) ?_ | refine Run.pureG (dd := some 90) rfl rfl rfl tG (op_load1_fz rfl (Opd.topt _ _ _ rfl tO) rfl) ?_ | refine Run.loadG (dd := some 90) rfl rfl rfl tG (op_load1_refs rfl (Opd.topt _ _ _ rfl tO) tH rfl) ?_
    refine Run.pureG (dd := some 91) rfl rfl rfl tG (op_idx_fz 1 rfl (Opd.topt _ _ _ rfl tO) (Opd.const _) (by intro _; exact ⟨rfl, rfl⟩)) ?_
    first | refine Run.loadG (dd := some 92) rfl rfl rfl tG (op_load1_flat rfl (Opd.topt _ _ _ rfl tO) tH rfl) ?_ | refine Run.pureG (dd := some 92) rfl rfl rfl tG (op_load1_fz rfl (Opd.topt _ _ _ rfl tO) rfl) ?_ | refine Run.loadG (dd := some 92) rfl rfl rfl tG (op_load1_refs rfl (Opd.topt _ _ _ rfl tO) tH rfl) ?_
    refine Run.pureG (dd := some 93) rfl rfl rfl tG (op_buildSlice_fz rfl (RowsF.cons _ _ _ _ _ _ (Opd.const _) tC (by rfl) (RowsF.nil _)) rfl rfl) ?_
    refine Run.pureG (dd := some 94) rfl rfl rfl tG (op_call_pure (fun _ => s [1] [1] (by decide) (by decide)) rfl (Opd.func _) (Opds.cons _ _ _ _ (Opd.topt _ _ _ rfl tO) (Opds.cons _ _ _ _ (Opd.topt _ _ _ rfl tO) Opds.nil))) ?_
    refine Run.pure (dd := some 95) rfl rfl (op_pick_and rfl (Opd.tmp _ _ rfl) (Opd.topt _ _ _ rfl tO)) ?_
    first | refine Run.pure (dd := some 96) rfl rfl (op_move rfl (Opd.tmp _ _ rfl)) ?_ | refine Run.pure (dd := some 96) rfl rfl (op_junk (.inl rfl)) ?_
    first | refine Run.pureG (dd := some 97) rfl rfl rfl tG (op_fld_ptr (by decide) rfl (Opd.tmp _ _ rfl)) ?_ | refine Run.pureG (dd := some 97) rfl rfl rfl tG (op_fld_fz (by decide) rfl (Opd.tmp _ _ rfl) tR) ?_
    first | refine Run.loadG (dd := some 98) rfl rfl rfl tG (op_load1_flat rfl (Opd.topt _ _ _ rfl tO) tH rfl) ?_ | refine Run.pureG (dd := some 98) rfl rfl rfl tG (op_load1_fz rfl (Opd.topt _ _ _ rfl tO) rfl) ?_ | refine Run.loadG (dd := some 98) rfl rfl rfl tG (op_load1_refs rfl (Opd.topt _ _ _ rfl tO) tH rfl) ?_
    refine Run.pureG (dd := some 99) rfl rfl rfl tG (op_idx_fz 2 rfl (Opd.topt _ _ _ rfl tO) (Opd.const _) (by intro _; exact ⟨rfl, rfl⟩)) ?_
    first | refine Run.loadG (dd := some 100) rfl rfl rfl tG (op_load1_flat rfl (Opd.topt _ _ _ rfl tO) tH rfl) ?_ | refine Run.pureG (dd := some 100) rfl rfl rfl tG (op_load1_fz rfl (Opd.topt _ _ _ rfl tO) rfl) ?_ | refine Run.loadG (dd := some 100) rfl rfl rfl tG (op_load1_refs rfl (Opd.topt _ _ _ rfl tO) tH rfl) ?_
    refine Run.pureG (dd := some 101) rfl rfl rfl tG (op_buildSlice_fz rfl (RowsF.cons _ _ _ _ _ _ (Opd.const _) tC (by rfl) (RowsF.nil _)) rfl rfl) ?_
    refine Run.pureG (dd := some 102) rfl rfl rfl tG (op_call_pure (fun _ => s [2] [2] (by decide) (by decide)) rfl (Opd.func _) (Opds.cons _ _ _ _ (Opd.topt _ _ _ rfl tO) (Opds.cons _ _ _ _ (Opd.topt _ _ _ rfl tO) Opds.nil))) ?_
    refine Run.pure (dd := some 103) rfl rfl (op_pick_and rfl (Opd.tmp _ _ rfl) (Opd.topt _ _ _ rfl tO)) ?_
    first | refine Run.pure (dd := some 0) rfl rfl (op_assign rfl (Opd.tmp _ _ rfl)) ?_ | refine Run.pure (dd := some 0) rfl rfl (op_junk (.inr rfl)) ?_
    refine Run.nil (FinR.mk ?_)
    refine nK ?_
    refine s_oB hC rfl rfl ?_
    decide
end Go.Proofs.Ytgbfkpcigipniaa
namespace Go.Proofs.Ytgbfkpcigipniaa
open Go Go.RT Go.Proofs Go.Pl
set_option linter.all false
set_option maxRecDepth 20000
set_option maxHeartbeats 4000000
theorem same_law (a b : Tr) (ha : smT a) (hb : smT b) : Pure Try.prog 10 [.agg (encTr a), .agg (encTr b)] (Bf true) := by
  refine Meets.intro Try.func10 rfl (Nat.le_of_ble_eq_true rfl) fun C hC => ?_
  simp only [List.map, argEnv, Nat.reduceAdd]
  refine nK ?_
  refine s_reg rfl ?_
  first | refine Run.eff (dd := some 2) rfl rfl (op_box_flat rfl (Opd.tmp _ _ rfl) tC rfl) ?_ | refine Run.eff (dd := some 2) rfl rfl (op_box_refs rfl (Opd.tmp _ _ rfl) tP rfl) ?_
  first | refine Run.eff (dd := some 3) rfl rfl (op_box_flat rfl (Opd.tmp _ _ rfl) tC rfl) ?_ | refine Run.eff (dd := some 3) rfl rfl (op_box_refs rfl (Opd.tmp _ _ rfl) tP rfl) ?_
  first | refine Run.pure (dd := some 4) rfl rfl (op_assign rfl (Opd.const _)) ?_ | refine Run.pure (dd := some 4) rfl rfl (op_junk (.inr rfl)) ?_
  refine Run.nil (FinR.mk ?_)
  refine nK ?_
  refine s_draw mixed ?_
  first | refine Run.load (dd := some 5) rfl rfl (op_loadw_flat rfl (Opd.tmp _ _ rfl) tH rfl) ?_ | refine Run.pure (dd := some 5) rfl rfl (op_loadw_fz rfl (Opd.tmp _ _ rfl) rfl) ?_ | refine Run.load (dd := some 5) rfl rfl (op_loadn_flat rfl (Opd.tmp _ _ rfl) tH tR tR) ?_ | refine Run.pure (dd := some 5) rfl rfl (op_loadn_fz rfl (Opd.tmp _ _ rfl) tR) ?_ | refine Run.load (dd := some 5) rfl rfl (op_loadn_refs rfl (Opd.tmp _ _ rfl) tH tR tR) ?_
  first | refine Run.load (dd := some 6) rfl rfl (op_loadw_flat rfl (Opd.tmp _ _ rfl) tH rfl) ?_ | refine Run.pure (dd := some 6) rfl rfl (op_loadw_fz rfl (Opd.tmp _ _ rfl) rfl) ?_ | refine Run.load (dd := some 6) rfl rfl (op_loadn_flat rfl (Opd.tmp _ _ rfl) tH tR tR) ?_ | refine Run.pure (dd := some 6) rfl rfl (op_loadn_fz rfl (Opd.tmp _ _ rfl) tR) ?_ | refine Run.load (dd := some 6) rfl rfl (op_loadn_refs rfl (Opd.tmp _ _ rfl) tH tR tR) ?_
  refine Run.pure (dd := some 7) rfl rfl (op_call_pure (fun _ => same_c _ _ (by assumption) (by assumption)) rfl (Opd.func _) (Opds.cons _ _ _ _ (Opd.tmp _ _ rfl) (Opds.cons _ _ _ _ (Opd.tmp _ _ rfl) Opds.nil))) ?_
  first | refine Run.load (dd := some 8) rfl rfl (op_loadw_flat rfl (Opd.tmp _ _ rfl) tH rfl) ?_ | refine Run.pure (dd := some 8) rfl rfl (op_loadw_fz rfl (Opd.tmp _ _ rfl) rfl) ?_ | refine Run.load (dd := some 8) rfl rfl (op_loadn_flat rfl (Opd.tmp _ _ rfl) tH tR tR) ?_ | refine Run.pure (dd := some 8) rfl rfl (op_loadn_fz rfl (Opd.tmp _ _ rfl) tR) ?_ | refine Run.load (dd := some 8) rfl rfl (op_loadn_refs rfl (Opd.tmp _ _ rfl) tH tR tR) ?_
  first | refine Run.load (dd := some 9) rfl rfl (op_loadw_flat rfl (Opd.tmp _ _ rfl) tH rfl) ?_ | refine Run.pure (dd := some 9) rfl rfl (op_loadw_fz rfl (Opd.tmp _ _ rfl) rfl) ?_ | refine Run.load (dd := some 9) rfl rfl (op_loadn_flat rfl (Opd.tmp _ _ rfl) tH tR tR) ?_ | refine Run.pure (dd := some 9) rfl rfl (op_loadn_fz rfl (Opd.tmp _ _ rfl) tR) ?_ | refine Run.load (dd := some 9) rfl rfl (op_loadn_refs rfl (Opd.tmp _ _ rfl) tH tR tR) ?_
  refine Run.pure (dd := some 10) rfl rfl (op_call_pure (fun _ => rsame_c _ _ (by assumption) (by assumption)) rfl (Opd.func _) (Opds.cons _ _ _ _ (Opd.tmp _ _ rfl) (Opds.cons _ _ _ _ (Opd.tmp _ _ rfl) Opds.nil))) ?_
  refine Run.pure (dd := some 11) rfl rfl (op_eqlB rfl (Opd.tmp _ _ rfl) (Opd.tmp _ _ rfl)) ?_
  first | refine Run.pure (dd := some 12) rfl rfl (op_move rfl (Opd.tmp _ _ rfl)) ?_ | refine Run.pure (dd := some 12) rfl rfl (op_junk (.inl rfl)) ?_
  first | refine Run.loadG (dd := some 13) rfl rfl rfl tG (op_loadw_flat rfl (Opd.tmp _ _ rfl) tH rfl) ?_ | refine Run.pureG (dd := some 13) rfl rfl rfl tG (op_loadw_fz rfl (Opd.tmp _ _ rfl) rfl) ?_ | refine Run.loadG (dd := some 13) rfl rfl rfl tG (op_loadn_flat rfl (Opd.tmp _ _ rfl) tH tR tR) ?_ | refine Run.pureG (dd := some 13) rfl rfl rfl tG (op_loadn_fz rfl (Opd.tmp _ _ rfl) tR) ?_ | refine Run.loadG (dd := some 13) rfl rfl rfl tG (op_loadn_refs rfl (Opd.tmp _ _ rfl) tH tR tR) ?_
  first | refine Run.loadG (dd := some 14) rfl rfl rfl tG (op_loadw_flat rfl (Opd.tmp _ _ rfl) tH rfl) ?_ | refine Run.pureG (dd := some 14) rfl rfl rfl tG (op_loadw_fz rfl (Opd.tmp _ _ rfl) rfl) ?_ | refine Run.loadG (dd := some 14) rfl rfl rfl tG (op_loadn_flat rfl (Opd.tmp _ _ rfl) tH tR tR) ?_ | refine Run.pureG (dd := some 14) rfl rfl rfl tG (op_loadn_fz rfl (Opd.tmp _ _ rfl) tR) ?_ | refine Run.loadG (dd := some 14) rfl rfl rfl tG (op_loadn_refs rfl (Opd.tmp _ _ rfl) tH tR tR) ?_
  refine Run.pureG (dd := some 15) rfl rfl rfl tG (op_call_pure (fun _ => same_c _ _ (by assumption) (by assumption)) rfl (Opd.func _) (Opds.cons _ _ _ _ (Opd.topt _ _ _ rfl tO) (Opds.cons _ _ _ _ (Opd.topt _ _ _ rfl tO) Opds.nil))) ?_
  refine Run.pure (dd := some 16) rfl rfl (op_pick_and rfl (Opd.tmp _ _ rfl) (Opd.topt _ _ _ rfl tO)) ?_
  first | refine Run.pure (dd := some 17) rfl rfl (op_move rfl (Opd.tmp _ _ rfl)) ?_ | refine Run.pure (dd := some 17) rfl rfl (op_junk (.inl rfl)) ?_
  refine Run.pureG (dd := some 18) rfl rfl rfl tG (op_call_pure (fun _ => lives_c) rfl (Opd.func _) Opds.nil) ?_
  refine Run.pure (dd := some 19) rfl rfl (op_pick_and rfl (Opd.tmp _ _ rfl) (Opd.topt _ _ _ rfl tO)) ?_
  first | refine Run.pure (dd := some 4) rfl rfl (op_assign rfl (Opd.tmp _ _ rfl)) ?_ | refine Run.pure (dd := some 4) rfl rfl (op_junk (.inr rfl)) ?_
  refine Run.nil (FinD.mk (by kernel_rfl) ?_)
  refine nK ?_
  refine s_oB hC rfl rfl ?_
  simp
end Go.Proofs.Ytgbfkpcigipniaa
namespace Go.Pl
open Go Go.RT
set_option linter.all false
theorem merge_mem {n : Nat} {ll : List (List Int)} (h : LLok n ll) (r : Int) {v : Nat} (hv : v < n) (y x : Int) : x ∈ rowAt' (mergeL r v ll y) v ↔ x = capV r v y ∨ x ∈ rowAt' ll v := by
  have e : rowAt' (mergeL r v ll y) v = insU (rowAt' ll v) (capV r v y) := by
    unfold mergeL
    show (ll.set v _).getD v [] = _
    rw [getD_set _ _ _ _ _ (by rw [h.len]; exact hv), if_pos rfl]
  rw [e]; exact (insU_spec (h.row v hv).1 _).2 x
theorem fold_mem {n : Nat} {r : Int} {v : Nat} (hv : v < n) : ∀ (l : List Int) {ll : List (List Int)}, LLok n ll → (∀ x ∈ l, 0 ≤ x ∧ x < n) → ∀ x, x ∈ rowAt' (l.foldl (mergeL r v) ll) v ↔ (∃ h ∈ l, x = capV r v h) ∨ x ∈ rowAt' ll v
  | [], _, _, _, x => by simp
  | y :: l, ll, h, hl, x => by
    have := fold_mem (r := r) hv l (h.merge r hv (hl y (by simp))) (fun z hz => hl z (by simp [hz])) x
    rw [List.foldl_cons, this, merge_mem h r hv]
    constructor
    · rintro (⟨z, hz, e⟩ | e | e)
      · exact .inl ⟨z, by simp [hz], e⟩
      · exact .inl ⟨y, by simp, e⟩
      · exact .inr e
    · rintro (⟨z, hz, e⟩ | e)
      · rcases List.mem_cons.1 hz with rfl | hz
        · exact .inr (.inl e)
        · exact .inl ⟨z, hz, e⟩
      · exact .inr (.inr e)
def Src (r : Int) (a v : Nat) (ll : List (List Int)) (u x : Int) : Prop := (u = (a : Int) ∧ x = capV r v (v : Int)) ∨ ∃ h ∈ rowAt' ll u.toNat, x = capV r v h
theorem step_mem {n : Nat} {r : Int} {a v : Nat} (hv : v < n) {ll : List (List Int)} (h : LLok n ll) {u : Int} (hu : 0 ≤ u ∧ u < n) (x : Int) : x ∈ rowAt' (stepU r a v ll u) v ↔ Src r a v ll u x ∨ x ∈ rowAt' ll v := by
  unfold stepU Src
  by_cases e : u = (a : Int)
  · rw [if_pos e, fold_mem hv _ (h.merge r hv (by omega)) (h.row u.toNat (by omega)).2, merge_mem h r hv]
    constructor
    · rintro (h1 | h1 | h1)
      · exact .inl (.inr h1)
      · exact .inl (.inl ⟨e, h1⟩)
      · exact .inr h1
    · rintro ((⟨_, h1⟩ | h1) | h1)
      · exact .inr (.inl h1)
      · exact .inl h1
      · exact .inr (.inr h1)
  · rw [if_neg e, fold_mem hv _ h (h.row u.toNat (by omega)).2]
    constructor
    · rintro (h1 | h1)
      · exact .inl (.inr h1)
      · exact .inr h1
    · rintro ((⟨h1, _⟩ | h1) | h1)
      · exact absurd h1 e
      · exact .inl h1
      · exact .inr h1
theorem step_other {r : Int} {a v : Nat} {ll : List (List Int)} {u : Int} {w : Nat} (hw : w ≠ v) : rowAt' (stepU r a v ll u) w = rowAt' ll w := by
  unfold stepU
  rw [fold_other hw]
  split
  · exact merge_other _ _ _ _ hw
  · rfl
theorem steps_mem {n : Nat} {r : Int} {a v : Nat} (hv : v < n) : ∀ (l : List Int) {ll : List (List Int)}, LLok n ll → (∀ u ∈ l, 0 ≤ u ∧ u < n ∧ u ≠ (v : Int)) → (∀ x, x ∈ rowAt' (l.foldl (stepU r a v) ll) v ↔ (∃ u ∈ l, Src r a v ll u x) ∨ x ∈ rowAt' ll v) ∧ ∀ w, w ≠ v → rowAt' (l.foldl (stepU r a v) ll) w = rowAt' ll w
  | [], _, _, _ => ⟨fun x => by simp, fun w _ => rfl⟩
  | y :: l, ll, h, hl => by
    have hy := hl y (by simp)
    obtain ⟨i1, i2⟩ := steps_mem (r := r) (a := a) hv l (h.step r hv (u := y) (a := a) (by omega)) (fun z hz => hl z (by simp [hz]))
    refine ⟨fun x => ?_, fun w hw => (i2 w hw).trans (step_other hw)⟩
    have hs : ∀ u ∈ l, ∀ x, Src r a v (stepU r a v ll y) u x ↔ Src r a v ll u x := fun u hu x => by
      unfold Src
      rw [step_other (by have := hl u (by simp [hu]); omega)]
    rw [List.foldl_cons, i1, step_mem hv h (by omega)]
    constructor
    · rintro (⟨z, hz, e⟩ | e | e)
      · exact .inl ⟨z, by simp [hz], (hs z hz x).1 e⟩
      · exact .inl ⟨y, by simp, e⟩
      · exact .inr e
    · rintro (⟨z, hz, e⟩ | e)
      · rcases List.mem_cons.1 hz with rfl | hz
        · exact .inr (.inl e)
        · exact .inl ⟨z, hz, (hs z hz x).2 e⟩
      · exact .inr (.inr e)
structure HopInv (r : Int) (a n : Nat) (up : List (List Int)) (done : List Nat) (ll : List (List Int)) : Prop where
  ok : LLok n ll
  off : ∀ v, v < n → v ∉ done → rowAt' ll v = []
  on : ∀ v ∈ done, ∀ x, x ∈ rowAt' ll v ↔ ∃ u ∈ rowAt' up v, Src r a v ll u x
theorem hops_inv {r : Int} {a n : Nat} {up : List (List Int)} (hup : UpOk n up) : ∀ (l done : List Nat) {ll : List (List Int)}, HopInv r a n up done ll → (∀ v ∈ done, ∀ u ∈ rowAt' up v, u = (a : Int) ∨ u.toNat ∈ done) → a ∉ done → a ∉ l → (∀ v ∈ l, v < n) → (done ++ l).Nodup →
    (∀ p v q, l = p ++ v :: q → ∀ u ∈ rowAt' up v, u = (a : Int) ∨ u.toNat ∈ done ++ p) → HopInv r a n up (done ++ l) (l.foldl (hopsV r a up) ll)
  | [], done, ll, h, _, _, _, _, _, _ => by simpa using h
  | v :: l, done, ll, h, hcl, had, hal, hlt, hnd, htop => by
    have hv := hlt v (by simp)
    have hvd : v ∉ done := fun e => (List.nodup_append.1 hnd).2.2 v e v (by simp) rfl
    have hva : a ≠ v := fun e => hal (by rw [e]; simp)
    obtain ⟨q1, q2⟩ := steps_mem (r := r) (a := a) hv (rowAt' up v) h.ok (fun u hu => (hup.row v hv).2 u hu)
    have hok : LLok n (hopsV r a up ll v) := LLok.steps hv _ h.ok fun x hx => by have := (hup.row v hv).2 x hx; omega
    have hnew : HopInv r a n up (done ++ [v]) (hopsV r a up ll v) := by
      refine ⟨hok, fun w hw hwd => ?_, fun w hw x => ?_⟩
      · have hne : w ≠ v := fun e => hwd (by simp [e])
        exact (q2 w hne).trans (h.off w hw fun e => hwd (by simp [e]))
      · rcases List.mem_append.1 hw with hw | hw
        · have hne : w ≠ v := fun e => hvd (by rw [← e]; exact hw)
          show x ∈ rowAt' (hopsV r a up ll v) w ↔ _
          rw [show rowAt' (hopsV r a up ll v) w = rowAt' ll w from q2 w hne, h.on w hw x]
          refine exists_congr fun u => and_congr_right fun hu => ?_
          unfold Src
          have hut : u.toNat ≠ v := by
            rcases hcl w hw u hu with e | e
            · omega
            · exact fun e2 => hvd (by rw [← e2]; exact e)
          rw [show rowAt' (hopsV r a up ll v) u.toNat = rowAt' ll u.toNat from q2 _ hut]
        · have : w = v := by simpa using hw
          subst this
          show x ∈ rowAt' ((rowAt' up w).foldl (stepU r a w) ll) w ↔ _
          rw [q1 x, h.off w hv hvd]
          simp only [List.not_mem_nil, or_false]
          refine exists_congr fun u => and_congr_right fun hu => ?_
          unfold Src
          have hut : u.toNat ≠ w := by have := (hup.row w hv).2 u hu; omega
          rw [show rowAt' (hopsV r a up ll w) u.toNat = rowAt' ll u.toNat from q2 _ hut]
    have := hops_inv hup l (done ++ [v]) hnew (fun w hw u hu => by
      rcases List.mem_append.1 hw with hw | hw
      · rcases hcl w hw u hu with e | e
        · exact .inl e
        · exact .inr (by simp [e])
      · have : w = v := by simpa using hw
        subst this
        rcases htop [] w l rfl u hu with e | e
        · exact .inl e
        · exact .inr (by simp at e; simp [e])) (by simp [had, hva]) (fun e => hal (by simp [e])) (fun w hw => hlt w (by simp [hw])) (by simpa using hnd) (fun p w q e u hu => by
        rcases htop (v :: p) w q (by rw [e]; rfl) u hu with e2 | e2
        · exact .inl e2
        · exact .inr (by simpa using e2))
    simpa using this
end Go.Pl
namespace Go.Pl
open Go Go.RT
set_option linter.all false
abbrev Gr.m (g : Gr) : Nat := (g.r + g.n).toNat
theorem RunOk.vg {g : Gr} {a : Nat} {t : Tr} (h : RunOk g a t) : VG g.es g.r.toNat g.m := (checkI_vg h.ok).1
theorem RunOk.am {g : Gr} {a : Nat} {t : Tr} (h : RunOk g a t) : a < g.m := by have := (checkI_vg h.ok).2; have := h.lt; unfold Gr.m; omega
theorem RunOk.parl {g : Gr} {a : Nat} {t : Tr} (h : RunOk g a t) : t.par.length = g.m := by rw [h.par, parL_len]
theorem RunOk.up {g : Gr} {a : Nat} {t : Tr} (h : RunOk g a t) : UpOk g.m t.par := by rw [h.par]; exact parL_ok h.vg _ _
theorem IsD.cases {es : List Edg} {r n a v : Nat} {d : Int} (vg : VG es r n) (h : IsD es a v d) : (d = -1 ∧ ∀ c, ¬ Wk es a v c) ∨ (0 ≤ d ∧ Wk es a v d ∧ ∀ c, Wk es a v c → d ≤ c) := by
  rcases h with h | h
  · exact .inl h
  · exact .inr ⟨h.1.nn vg, h⟩
theorem RunOk.edge {g : Gr} {a : Nat} {t : Tr} (h : RunOk g a t) {e : Edg} (he : e ∈ g.es) (h0 : 0 ≤ gt0 t.dist e.f.toNat) : 0 ≤ gt0 t.dist e.t.toNat ∧ gt0 t.dist e.t.toNat ≤ gt0 t.dist e.f.toNat + e.c := by
  have vg := h.vg
  have hf := vg.f e he; have ht := vg.t e he
  rcases (h.dist e.f.toNat (by show _ < g.m; omega)).cases vg with ⟨h1, _⟩ | ⟨_, h2, _⟩
  · omega
  · have w := Wk.snoc h2 he
    rcases (h.dist e.t.toNat (by show _ < g.m; omega)).cases vg with ⟨_, h4⟩ | ⟨h3, _, h5⟩
    · exact absurd w (h4 _)
    · exact ⟨h3, h5 _ w⟩
theorem RunOk.root0 {g : Gr} {a : Nat} {t : Tr} (h : RunOk g a t) : gt0 t.dist a = 0 := by
  have vg := h.vg
  rcases (h.dist a h.am).cases vg with ⟨_, h2⟩ | ⟨h1, _, h3⟩
  · exact absurd .nil (h2 0)
  · have := h3 0 .nil; omega
theorem RunOk.par_mem {g : Gr} {a : Nat} {t : Tr} (h : RunOk g a t) {v : Nat} (hv : v < g.m) (u : Int) : u ∈ rowAt' t.par v ↔ v ≠ a ∧ ∃ e ∈ g.es, e.f = u ∧ e.t = (v : Int) ∧ gt0 t.dist e.f.toNat ≠ -1 ∧ gt0 t.dist e.f.toNat + e.c = gt0 t.dist v := by
  have e0 : rowAt' t.par v = parE g.es a t.dist v := by rw [h.par]; exact parL_get _ _ _ hv
  rw [e0]
  unfold parE
  simp only [List.mem_map, List.mem_filter, Bool.and_eq_true, decide_eq_true_eq, parC]
  constructor
  · rintro ⟨e, ⟨he, ⟨⟨h1, h2⟩, h3⟩, h4⟩, h5⟩
    refine ⟨by omega, e, he, h5, h4, h2, ?_⟩
    rw [h4, Int.toNat_natCast] at h3; exact h3
  · rintro ⟨hne, e, he, h5, h4, h2, h3⟩
    refine ⟨e, ⟨he, ⟨⟨by omega, h2⟩, ?_⟩, h4⟩, h5⟩
    rw [h4, Int.toNat_natCast]; exact h3
theorem RunOk.dge {g : Gr} {a : Nat} {t : Tr} (h : RunOk g a t) {v : Nat} (hv : v < g.m) : -1 ≤ gt0 t.dist v := (h.dist v hv).ge h.vg
theorem RunOk.par_ex {g : Gr} {a : Nat} {t : Tr} (h : RunOk g a t) {v : Nat} (hv : v < g.m) (hne : v ≠ a) (h0 : 0 ≤ gt0 t.dist v) : ∃ u, u ∈ rowAt' t.par v := by
  have vg := h.vg
  rcases (h.dist v hv).cases vg with ⟨h1, _⟩ | ⟨_, w, hm⟩
  · omega
  · generalize hd : gt0 t.dist v = d at w hm
    have key : ∀ {v' : Nat} {d' : Int}, Wk g.es a v' d' → v' = v → d' = d → ∃ u, u ∈ rowAt' t.par v := fun {v' d'} w' hv' hd' => by
      cases w' with
      | nil => exact absurd hv'.symm hne
      | @snoc e c w2 he =>
        have hf := vg.f e he; have ht := vg.t e he
        rcases (h.dist e.f.toNat (by show _ < g.m; omega)).cases vg with ⟨_, h4⟩ | ⟨h3, _, h5⟩
        · exact absurd w2 (h4 _)
        · have h6 := h5 _ w2
          have h7 := (h.edge he h3).2
          rw [hv'] at h7
          exact ⟨e.f, (h.par_mem hv _).2 ⟨hne, e, he, rfl, by omega, by omega, by omega⟩⟩
    exact key w rfl rfl
theorem split_before {d : List Int} {l p q : List Nat} {v u : Nat} (hs : l.Pairwise (ltHd d)) (e : l = p ++ v :: q) (hu : u ∈ l) (hlt : ltHd d u v) : u ∈ p := by
  subst e
  rcases List.mem_append.1 hu with h | h
  · exact h
  · exfalso
    have h2 := (List.pairwise_append.1 hs).2.1
    rcases List.mem_cons.1 h with rfl | h
    · unfold ltHd at hlt; omega
    · have := (List.pairwise_cons.1 h2).1 u h
      unfold ltHd at *; omega
theorem ordA_mem {d : List Int} {a i v : Nat} : v ∈ ordA d a i ↔ v < i ∧ gt0 d v ≠ -1 ∧ v ≠ a := by
  unfold ordA ordP
  simp only [List.mem_filter, List.mem_range, Bool.and_eq_true, decide_eq_true_eq]
  omega
theorem RunOk.hopInv {g : Gr} {a : Nat} {t : Tr} (h : RunOk g a t) : HopInv g.r a g.m t.par (ordA t.dist a g.m) t.hops := by
  have vg := h.vg
  obtain ⟨l2, p, q, hh⟩ := h.hops
  have hmem : ∀ v, v ∈ l2 ↔ v < g.m ∧ gt0 t.dist v ≠ -1 ∧ v ≠ a := fun v => p.mem_iff.trans ordA_mem
  have hnd : l2.Nodup := p.nodup_iff.2 (List.nodup_range.filter _)
  have hbase : HopInv g.r a g.m t.par [] (List.replicate g.m []) := ⟨LLok.nil _, fun v hv _ => getD_rep _ _ _ _ hv, fun v hv => by cases hv⟩
  have := hops_inv (r := g.r) h.up l2 [] hbase (fun v hv => by cases hv) (by simp) (fun e => ((hmem a).1 e).2.2 rfl) (fun v hv => ((hmem v).1 hv).1) (by simpa using hnd) (fun pre v suf e u hu => by
    have hv : v ∈ l2 := by rw [e]; simp
    obtain ⟨hv1, hv2, hv3⟩ := (hmem v).1 hv
    obtain ⟨_, ed, he, hf, ht, h1, h2⟩ := (h.par_mem hv1 u).1 hu
    have hfn := vg.f ed he
    have hc := vg.c ed he
    by_cases hua : u = (a : Int)
    · exact .inl hua
    · refine .inr ?_
      rw [hf] at h1 h2 hfn
      simp only [List.nil_append]
      refine split_before q e ((hmem u.toNat).2 ⟨by omega, h1, by omega⟩) ?_
      unfold ltHd
      by_cases hc0 : ed.c = 0
      · refine .inr ⟨by omega, ?_⟩
        have hr : (g.r.toNat : Int) ≤ ed.f := by
          by_cases hlt : ed.f < (g.r.toNat : Int)
          · have := vg.rt ed he hlt; omega
          · omega
        have := (vg.net ed he hr).1
        omega
      · left; omega)
  rw [hh]
  refine ⟨this.ok, fun v hv hn => this.off v hv (fun e => hn (p.mem_iff.1 (by simpa using e))), fun v hv => this.on v (by simpa using p.mem_iff.2 hv)⟩
theorem RunOk.hop_ex {g : Gr} {a : Nat} {t : Tr} (h : RunOk g a t) {v : Nat} (hv : v < g.m) (hne : v ≠ a) (h0 : 0 ≤ gt0 t.dist v) : ∃ x, x ∈ rowAt' t.hops v := by
  have hi := h.hopInv
  obtain ⟨l2, p, q, hh⟩ := h.hops
  have vg := h.vg
  -- by the order
  have key : ∀ (k : Nat) (v : Nat), v < g.m → v ≠ a → 0 ≤ gt0 t.dist v → (gt0 t.dist v).toNat * 129 + (g.m - v) ≤ k → ∃ x, x ∈ rowAt' t.hops v := by
    intro k
    induction k with
    | zero => intro v hv _ _ hk; omega
    | succ k ih =>
      intro v hv hne h0 hk
      obtain ⟨u, hu⟩ := h.par_ex hv hne h0
      obtain ⟨_, ed, he, hf, ht, h1, h2⟩ := (h.par_mem hv u).1 hu
      have hfn := vg.f ed he
      have hc := vg.c ed he
      have hon := hi.on v (ordA_mem.2 ⟨hv, by omega, hne⟩)
      by_cases hua : u = (a : Int)
      · exact ⟨_, (hon _).2 ⟨u, hu, .inl ⟨hua, rfl⟩⟩⟩
      · rw [hf] at h1 h2 hfn
        have hdu := h.dge (v := u.toNat) (by omega)
        have hm := vg.n128
        obtain ⟨x, hx⟩ := ih u.toNat (by omega) (by omega) (by omega) (by
          by_cases hc0 : ed.c = 0
          · have hr : (g.r.toNat : Int) ≤ ed.f := by
              by_cases hlt : ed.f < (g.r.toNat : Int)
              · have := vg.rt ed he hlt; omega
              · omega
            have := (vg.net ed he hr).1
            have e1 : gt0 t.dist u.toNat = gt0 t.dist v := by omega
            rw [e1]; omega
          · have e1 : (gt0 t.dist u.toNat).toNat + 1 ≤ (gt0 t.dist v).toNat := by omega
            have e2 := Nat.mul_le_mul_right 129 e1
            omega)
        exact ⟨_, (hon _).2 ⟨u, hu, .inr ⟨x, hx, rfl⟩⟩⟩
  exact key _ v hv hne h0 (Nat.le_refl _)
theorem RunOk.par_len {g : Gr} {a : Nat} {t : Tr} (h : RunOk g a t) {v : Nat} (hv : v < g.m) : 0 < (rowAt' t.par v).length ↔ v ≠ a ∧ 0 ≤ gt0 t.dist v := by
  constructor
  · intro hl
    obtain ⟨u, hu⟩ := List.exists_mem_of_length_pos hl
    obtain ⟨h1, ed, he, hf, ht, h2, h3⟩ := (h.par_mem hv u).1 hu
    have := h.vg.f ed he; have := h.vg.c ed he
    have := h.dge (v := ed.f.toNat) (by omega)
    exact ⟨h1, by omega⟩
  · rintro ⟨h1, h2⟩
    obtain ⟨u, hu⟩ := h.par_ex hv h1 h2
    exact List.length_pos_of_mem hu
theorem RunOk.hop_len {g : Gr} {a : Nat} {t : Tr} (h : RunOk g a t) {v : Nat} (hv : v < g.m) : 0 < (rowAt' t.hops v).length ↔ v ≠ a ∧ 0 ≤ gt0 t.dist v := by
  have hd := h.dge hv
  constructor
  · intro hl
    refine Classical.byContradiction fun hn => ?_
    have := h.hopInv.off v hv (fun e => by have := ordA_mem.1 e; exact hn ⟨this.2.2, by omega⟩)
    rw [this] at hl; simp at hl
  · rintro ⟨h1, h2⟩
    obtain ⟨u, hu⟩ := h.hop_ex hv h1 h2
    exact List.length_pos_of_mem hu
end Go.Pl
namespace Go.Proofs.Ytgbfkpcigipniaa
open Go Go.RT Go.Proofs Go.Pl
set_option linter.all false
set_option maxRecDepth 20000
set_option maxHeartbeats 4000000
theorem edges_law (g : Gr) (a : Int) (hok : okG g) : Pure Try.prog 5 [.agg (encG g), If .i64 a] (Bf true) := by
  by_cases hg : checkI g = 0
  · by_cases ha : a < 0 ∨ g.r ≤ a
    · have hr := run_out g a hok hg ha
      refine Meets.intro Try.func5 rfl (Nat.le_of_ble_eq_true rfl) fun C hC => ?_
      simp only [List.map, argEnv, Nat.reduceAdd]
      refine nK ?_
      refine s_reg rfl ?_
      first | refine Run.eff (dd := some 2) rfl rfl (op_box_flat rfl (Opd.tmp _ _ rfl) tC rfl) ?_ | refine Run.eff (dd := some 2) rfl rfl (op_box_refs rfl (Opd.tmp _ _ rfl) tP rfl) ?_
      first | refine Run.pure (dd := some 4) rfl rfl (op_assign rfl (Opd.const _)) ?_ | refine Run.pure (dd := some 4) rfl rfl (op_junk (.inr rfl)) ?_
      refine Run.nil (FinR.mk ?_)
      refine nK ?_
      refine s_reg rfl ?_
      first | refine Run.load (dd := some 13) rfl rfl (op_loadw_flat rfl (Opd.tmp _ _ rfl) tH rfl) ?_ | refine Run.pure (dd := some 13) rfl rfl (op_loadw_fz rfl (Opd.tmp _ _ rfl) rfl) ?_ | refine Run.load (dd := some 13) rfl rfl (op_loadn_flat rfl (Opd.tmp _ _ rfl) tH tR tR) ?_ | refine Run.pure (dd := some 13) rfl rfl (op_loadn_fz rfl (Opd.tmp _ _ rfl) tR) ?_ | refine Run.load (dd := some 13) rfl rfl (op_loadn_refs rfl (Opd.tmp _ _ rfl) tH tR tR) ?_
      first | refine Run.pure (dd := some 14) rfl rfl (op_move rfl (Opd.tmp _ _ rfl)) ?_ | refine Run.pure (dd := some 14) rfl rfl (op_junk (.inl rfl)) ?_
      refine Run.pure (dd := some 15) rfl rfl (op_call_pure (fun _ => hr) rfl (Opd.func _) (Opds.cons _ _ _ _ (Opd.tmp _ _ rfl) (Opds.cons _ _ _ _ (Opd.tmp _ _ rfl) Opds.nil))) ?_
      first | refine Run.pure (dd := some 12) rfl rfl (op_move rfl (Opd.tmp _ _ rfl)) ?_ | refine Run.pure (dd := some 12) rfl rfl (op_junk (.inl rfl)) ?_
      first | refine Run.pure (dd := some 16) rfl rfl (op_extract_fz rfl (Opd.tmp _ _ rfl) rfl) ?_ | refine Run.pure (dd := some 16) rfl rfl (op_extract rfl (Opd.tmp _ _ rfl) rfl) ?_
      first | refine Run.pure (dd := some 17) rfl rfl (op_extract_fz rfl (Opd.tmp _ _ rfl) rfl) ?_ | refine Run.pure (dd := some 17) rfl rfl (op_extract rfl (Opd.tmp _ _ rfl) rfl) ?_
      refine Run.eff (dd := some 5) rfl rfl (op_alloc rfl rfl rfl rfl) ?_
      first | refine Run.eff (dd := none) rfl rfl (op_store_flat rfl (Opd.tmp _ _ rfl) (Opd.tmp _ _ rfl) tC rfl rfl (by first | rfl | assumption) tS) ?_ | refine Run.eff (dd := none) rfl rfl (op_store_refs rfl (Opd.tmp _ _ rfl) (Opd.tmp _ _ rfl) tP rfl rfl rfl tS) ?_
      first | refine Run.pure (dd := some 6) rfl rfl (op_assign rfl (Opd.tmp _ _ rfl)) ?_ | refine Run.pure (dd := some 6) rfl rfl (op_junk (.inr rfl)) ?_
      refine Run.nil (FinR.mk ?_)
      refine nK ?_
      refine s_reg rfl ?_
      first | refine Run.pure (dd := some 18) rfl rfl (op_move rfl (Opd.tmp _ _ rfl)) ?_ | refine Run.pure (dd := some 18) rfl rfl (op_junk (.inl rfl)) ?_
      refine Run.pure (dd := some 19) rfl rfl (op_neq rfl (Opd.tmp _ _ rfl) (Opd.const _)) ?_
      refine Run.nil (FinR.mk ?_)
      refine nK ?_
      refine n_cond _ rfl (fun hb => ?_) (fun hb => ?_)
      · refine nK ?_
        refine s_reg rfl ?_
        refine Run.pure (dd := some 20) rfl rfl (op_call_pure (fun _ => lives_c) rfl (Opd.func _) Opds.nil) ?_
        first | refine Run.pure (dd := some 4) rfl rfl (op_assign rfl (Opd.tmp _ _ rfl)) ?_ | refine Run.pure (dd := some 4) rfl rfl (op_junk (.inr rfl)) ?_
        refine Run.nil (FinR.mk ?_)
        refine nK ?_
        (first | exact s_o1 hC rfl tV | exact s_o2 hC rfl tV tV | exact s_o3 hC rfl tV tV tV | exact s_out0 hC rfl | exact s_outO hC rfl rfl rfl)
      · exact absurd hb (by decide)
    · obtain ⟨n, rfl⟩ : ∃ n : Nat, a = n := ⟨a.toNat, by omega⟩
      obtain ⟨t, ht⟩ := run_exists hg (a := n) (by omega)
      have hr := run_c g n t hok ht
      have vg := ht.vg
      have h0 := ht.root0
      have hrt := ht.root
      have hdl := ht.dl
      have hhl := ht.hopInv.ok.len
      have hpl := ht.parl
      have hed := fun e he h => ht.edge (e := e) he h
      have hpp := fun v hv => ht.par_len (v := v) hv
      have hhp := fun v hv => ht.hop_len (v := v) hv
      have ham := ht.am
      have h128 := vg.n128
      have h1024 := vg.e1024
      obtain ⟨_, hg1, hg2⟩ := checkI_vg hg
      have hm : g.r + g.n = (g.m : Int) := by unfold Gr.m; omega
      have hra := row_of encN t.dist n 0 (by omega)
      have hd2 : ∀ v, v < g.m → gt0 t.dist v ≤ 8388480 ∧ -1 ≤ gt0 t.dist v := fun v hv => by have := (ht.dist v hv).small vg ham hv; omega
      generalize hmm : g.m = m at *
      change t.dist.length = g.m at hdl
      rw [hmm] at hdl
      change (t.dist.map encN)[n]? = some (encN (gt0 t.dist n)) at hra
      rw [h0] at hra
      refine Meets.intro Try.func5 rfl (Nat.le_of_ble_eq_true rfl) fun C hC => ?_
      simp only [List.map, argEnv, Nat.reduceAdd]
      refine nK ?_
      refine s_reg rfl ?_
      first | refine Run.eff (dd := some 2) rfl rfl (op_box_flat rfl (Opd.tmp _ _ rfl) tC rfl) ?_ | refine Run.eff (dd := some 2) rfl rfl (op_box_refs rfl (Opd.tmp _ _ rfl) tP rfl) ?_
      first | refine Run.pure (dd := some 4) rfl rfl (op_assign rfl (Opd.const _)) ?_ | refine Run.pure (dd := some 4) rfl rfl (op_junk (.inr rfl)) ?_
      refine Run.nil (FinR.mk ?_)
      refine nK ?_
      refine s_reg rfl ?_
      first | refine Run.load (dd := some 13) rfl rfl (op_loadw_flat rfl (Opd.tmp _ _ rfl) tH rfl) ?_ | refine Run.pure (dd := some 13) rfl rfl (op_loadw_fz rfl (Opd.tmp _ _ rfl) rfl) ?_ | refine Run.load (dd := some 13) rfl rfl (op_loadn_flat rfl (Opd.tmp _ _ rfl) tH tR tR) ?_ | refine Run.pure (dd := some 13) rfl rfl (op_loadn_fz rfl (Opd.tmp _ _ rfl) tR) ?_ | refine Run.load (dd := some 13) rfl rfl (op_loadn_refs rfl (Opd.tmp _ _ rfl) tH tR tR) ?_
      first | refine Run.pure (dd := some 14) rfl rfl (op_move rfl (Opd.tmp _ _ rfl)) ?_ | refine Run.pure (dd := some 14) rfl rfl (op_junk (.inl rfl)) ?_
      refine Run.pure (dd := some 15) rfl rfl (op_call_pure (fun _ => hr) rfl (Opd.func _) (Opds.cons _ _ _ _ (Opd.tmp _ _ rfl) (Opds.cons _ _ _ _ (Opd.tmp _ _ rfl) Opds.nil))) ?_
      first | refine Run.pure (dd := some 12) rfl rfl (op_move rfl (Opd.tmp _ _ rfl)) ?_ | refine Run.pure (dd := some 12) rfl rfl (op_junk (.inl rfl)) ?_
      first | refine Run.pure (dd := some 16) rfl rfl (op_extract_fz rfl (Opd.tmp _ _ rfl) rfl) ?_ | refine Run.pure (dd := some 16) rfl rfl (op_extract rfl (Opd.tmp _ _ rfl) rfl) ?_
      first | refine Run.pure (dd := some 17) rfl rfl (op_extract_fz rfl (Opd.tmp _ _ rfl) rfl) ?_ | refine Run.pure (dd := some 17) rfl rfl (op_extract rfl (Opd.tmp _ _ rfl) rfl) ?_
      refine Run.eff (dd := some 5) rfl rfl (op_alloc rfl rfl rfl rfl) ?_
      first | refine Run.eff (dd := none) rfl rfl (op_store_flat rfl (Opd.tmp _ _ rfl) (Opd.tmp _ _ rfl) tC rfl rfl (by first | rfl | assumption) tS) ?_ | refine Run.eff (dd := none) rfl rfl (op_store_refs rfl (Opd.tmp _ _ rfl) (Opd.tmp _ _ rfl) tP rfl rfl rfl tS) ?_
      first | refine Run.pure (dd := some 6) rfl rfl (op_assign rfl (Opd.tmp _ _ rfl)) ?_ | refine Run.pure (dd := some 6) rfl rfl (op_junk (.inr rfl)) ?_
      refine Run.nil (FinR.mk ?_)
      refine nK ?_
      refine s_reg rfl ?_
      first | refine Run.pure (dd := some 18) rfl rfl (op_move rfl (Opd.tmp _ _ rfl)) ?_ | refine Run.pure (dd := some 18) rfl rfl (op_junk (.inl rfl)) ?_
      refine Run.pure (dd := some 19) rfl rfl (op_neq rfl (Opd.tmp _ _ rfl) (Opd.const _)) ?_
      refine Run.nil (FinR.mk ?_)
      refine nK ?_
      refine n_cond _ rfl (fun hb => ?_) (fun hb => ?_)
      · exact absurd hb (by decide)
      · refine nK ?_
        refine s_reg rfl ?_
        first | refine Run.pure (dd := some 21) rfl rfl (op_fld_ptr (by decide) rfl (Opd.tmp _ _ rfl)) ?_ | refine Run.pure (dd := some 21) rfl rfl (op_fld_fz (by decide) rfl (Opd.tmp _ _ rfl) tR) ?_
        first | refine Run.load (dd := some 22) rfl rfl (op_load1_flat rfl (Opd.tmp _ _ rfl) tH rfl) ?_ | refine Run.pure (dd := some 22) rfl rfl (op_load1_fz rfl (Opd.tmp _ _ rfl) rfl) ?_ | refine Run.load (dd := some 22) rfl rfl (op_load1_refs rfl (Opd.tmp _ _ rfl) tH rfl) ?_
        first | refine Run.pure (dd := some 23) rfl rfl (op_fld_ptr (by decide) rfl (Opd.tmp _ _ rfl)) ?_ | refine Run.pure (dd := some 23) rfl rfl (op_fld_fz (by decide) rfl (Opd.tmp _ _ rfl) tR) ?_
        first | refine Run.load (dd := some 24) rfl rfl (op_load1_flat rfl (Opd.tmp _ _ rfl) tH rfl) ?_ | refine Run.pure (dd := some 24) rfl rfl (op_load1_fz rfl (Opd.tmp _ _ rfl) rfl) ?_ | refine Run.load (dd := some 24) rfl rfl (op_load1_refs rfl (Opd.tmp _ _ rfl) tH rfl) ?_
        refine Run.pure (dd := some 25) rfl rfl (op_add rfl (Opd.tmp _ _ rfl) (Opd.tmp _ _ rfl) tI) ?_
        first | refine Run.pure (dd := some 7) rfl rfl (op_assign rfl (Opd.tmp _ _ rfl)) ?_ | refine Run.pure (dd := some 7) rfl rfl (op_junk (.inr rfl)) ?_
        refine Run.nil (FinR.mk ?_)
        refine nK ?_
        refine s_reg rfl ?_
        first | refine Run.load (dd := some 26) rfl rfl (op_loadw_flat rfl (Opd.tmp _ _ rfl) tH rfl) ?_ | refine Run.pure (dd := some 26) rfl rfl (op_loadw_fz rfl (Opd.tmp _ _ rfl) rfl) ?_ | refine Run.load (dd := some 26) rfl rfl (op_loadn_flat rfl (Opd.tmp _ _ rfl) tH tR tR) ?_ | refine Run.pure (dd := some 26) rfl rfl (op_loadn_fz rfl (Opd.tmp _ _ rfl) tR) ?_ | refine Run.load (dd := some 26) rfl rfl (op_loadn_refs rfl (Opd.tmp _ _ rfl) tH tR tR) ?_
        refine Run.pure (dd := some 27) rfl rfl (op_call_pure (fun _ => rcheck_c _ (by assumption)) rfl (Opd.func _) (Opds.cons _ _ _ _ (Opd.tmp _ _ rfl) Opds.nil)) ?_
        refine Run.pure (dd := some 28) rfl rfl (op_neq rfl (Opd.tmp _ _ rfl) (Opd.const _)) ?_
        first | refine Run.pure (dd := some 29) rfl rfl (op_move rfl (Opd.tmp _ _ rfl)) ?_ | refine Run.pure (dd := some 29) rfl rfl (op_junk (.inl rfl)) ?_
        first | refine Run.pureG (dd := some 30) rfl rfl rfl tG (op_move rfl (Opd.tmp _ _ rfl)) ?_ | refine Run.pureG (dd := some 30) rfl rfl rfl tG (op_junk (.inl rfl)) ?_
        refine Run.pureG (dd := some 31) rfl rfl rfl tG (op_lss rfl (Opd.topt _ _ _ rfl tO) (Opd.const _)) ?_
        refine Run.pure (dd := some 32) rfl rfl (op_pick_or rfl (Opd.tmp _ _ rfl) (Opd.topt _ _ _ rfl tO)) ?_
        first | refine Run.pure (dd := some 33) rfl rfl (op_move rfl (Opd.tmp _ _ rfl)) ?_ | refine Run.pure (dd := some 33) rfl rfl (op_junk (.inl rfl)) ?_
        first | refine Run.pureG (dd := some 34) rfl rfl rfl tG (op_move rfl (Opd.tmp _ _ rfl)) ?_ | refine Run.pureG (dd := some 34) rfl rfl rfl tG (op_junk (.inl rfl)) ?_
        first | refine Run.pureG (dd := some 35) rfl rfl rfl tG (op_move rfl (Opd.tmp _ _ rfl)) ?_ | refine Run.pureG (dd := some 35) rfl rfl rfl tG (op_junk (.inl rfl)) ?_
        refine Run.pureG (dd := some 36) rfl rfl rfl tG (op_geq rfl (Opd.topt _ _ _ rfl tO) (Opd.topt _ _ _ rfl tO)) ?_
        refine Run.pure (dd := some 37) rfl rfl (op_pick_or rfl (Opd.tmp _ _ rfl) (Opd.topt _ _ _ rfl tO)) ?_
        first | refine Run.pure (dd := some 38) rfl rfl (op_move rfl (Opd.tmp _ _ rfl)) ?_ | refine Run.pure (dd := some 38) rfl rfl (op_junk (.inl rfl)) ?_
        first | refine Run.pureG (dd := some 39) rfl rfl rfl tG (op_fld_ptr (by decide) rfl (Opd.tmp _ _ rfl)) ?_ | refine Run.pureG (dd := some 39) rfl rfl rfl tG (op_fld_fz (by decide) rfl (Opd.tmp _ _ rfl) tR) ?_
        first | refine Run.loadG (dd := some 40) rfl rfl rfl tG (op_load1_flat rfl (Opd.topt _ _ _ rfl tO) tH rfl) ?_ | refine Run.pureG (dd := some 40) rfl rfl rfl tG (op_load1_fz rfl (Opd.topt _ _ _ rfl tO) rfl) ?_ | refine Run.loadG (dd := some 40) rfl rfl rfl tG (op_load1_refs rfl (Opd.topt _ _ _ rfl tO) tH rfl) ?_
        first | refine Run.pureG (dd := some 41) rfl rfl rfl tG (op_len_fz rfl (by first | exact Opd.topt _ _ _ rfl tO | exact Opd.nil _ _ (Opd.topt _ _ _ rfl tO)) (by first | exact List.length_map _ | rfl)) ?_ | refine Run.pureG (dd := some 41) rfl rfl rfl tG (op_len_sl rfl (Opd.topt _ _ _ rfl tO)) ?_
        first | refine Run.pureG (dd := some 42) rfl rfl rfl tG (op_move rfl (Opd.tmp _ _ rfl)) ?_ | refine Run.pureG (dd := some 42) rfl rfl rfl tG (op_junk (.inl rfl)) ?_
        refine Run.pureG (dd := some 43) rfl rfl rfl tG (op_neq rfl (Opd.topt _ _ _ rfl tO) (Opd.topt _ _ _ rfl tO)) ?_
        refine Run.pure (dd := some 44) rfl rfl (op_pick_or rfl (Opd.tmp _ _ rfl) (Opd.topt _ _ _ rfl tO)) ?_
        first | refine Run.pure (dd := some 45) rfl rfl (op_move rfl (Opd.tmp _ _ rfl)) ?_ | refine Run.pure (dd := some 45) rfl rfl (op_junk (.inl rfl)) ?_
        first | refine Run.pureG (dd := some 46) rfl rfl rfl tG (op_fld_ptr (by decide) rfl (Opd.tmp _ _ rfl)) ?_ | refine Run.pureG (dd := some 46) rfl rfl rfl tG (op_fld_fz (by decide) rfl (Opd.tmp _ _ rfl) tR) ?_
        first | refine Run.loadG (dd := some 47) rfl rfl rfl tG (op_load1_flat rfl (Opd.topt _ _ _ rfl tO) tH rfl) ?_ | refine Run.pureG (dd := some 47) rfl rfl rfl tG (op_load1_fz rfl (Opd.topt _ _ _ rfl tO) rfl) ?_ | refine Run.loadG (dd := some 47) rfl rfl rfl tG (op_load1_refs rfl (Opd.topt _ _ _ rfl tO) tH rfl) ?_
        first | refine Run.pureG (dd := some 48) rfl rfl rfl tG (op_len_fz rfl (by first | exact Opd.topt _ _ _ rfl tO | exact Opd.nil _ _ (Opd.topt _ _ _ rfl tO)) (by first | exact List.length_map _ | rfl)) ?_ | refine Run.pureG (dd := some 48) rfl rfl rfl tG (op_len_sl rfl (Opd.topt _ _ _ rfl tO)) ?_
        first | refine Run.pureG (dd := some 49) rfl rfl rfl tG (op_move rfl (Opd.tmp _ _ rfl)) ?_ | refine Run.pureG (dd := some 49) rfl rfl rfl tG (op_junk (.inl rfl)) ?_
        refine Run.pureG (dd := some 50) rfl rfl rfl tG (op_neq rfl (Opd.topt _ _ _ rfl tO) (Opd.topt _ _ _ rfl tO)) ?_
        refine Run.pure (dd := some 51) rfl rfl (op_pick_or rfl (Opd.tmp _ _ rfl) (Opd.topt _ _ _ rfl tO)) ?_
        first | refine Run.pure (dd := some 52) rfl rfl (op_move rfl (Opd.tmp _ _ rfl)) ?_ | refine Run.pure (dd := some 52) rfl rfl (op_junk (.inl rfl)) ?_
        first | refine Run.pureG (dd := some 53) rfl rfl rfl tG (op_fld_ptr (by decide) rfl (Opd.tmp _ _ rfl)) ?_ | refine Run.pureG (dd := some 53) rfl rfl rfl tG (op_fld_fz (by decide) rfl (Opd.tmp _ _ rfl) tR) ?_
        first | refine Run.loadG (dd := some 54) rfl rfl rfl tG (op_load1_flat rfl (Opd.topt _ _ _ rfl tO) tH rfl) ?_ | refine Run.pureG (dd := some 54) rfl rfl rfl tG (op_load1_fz rfl (Opd.topt _ _ _ rfl tO) rfl) ?_ | refine Run.loadG (dd := some 54) rfl rfl rfl tG (op_load1_refs rfl (Opd.topt _ _ _ rfl tO) tH rfl) ?_
        first | refine Run.pureG (dd := some 55) rfl rfl rfl tG (op_len_fz rfl (by first | exact Opd.topt _ _ _ rfl tO | exact Opd.nil _ _ (Opd.topt _ _ _ rfl tO)) (by first | exact List.length_map _ | rfl)) ?_ | refine Run.pureG (dd := some 55) rfl rfl rfl tG (op_len_sl rfl (Opd.topt _ _ _ rfl tO)) ?_
        first | refine Run.pureG (dd := some 56) rfl rfl rfl tG (op_move rfl (Opd.tmp _ _ rfl)) ?_ | refine Run.pureG (dd := some 56) rfl rfl rfl tG (op_junk (.inl rfl)) ?_
        refine Run.pureG (dd := some 57) rfl rfl rfl tG (op_neq rfl (Opd.topt _ _ _ rfl tO) (Opd.topt _ _ _ rfl tO)) ?_
        refine Run.pure (dd := some 58) rfl rfl (op_pick_or rfl (Opd.tmp _ _ rfl) (Opd.topt _ _ _ rfl tO)) ?_
        first | refine Run.pure (dd := some 59) rfl rfl (op_move rfl (Opd.tmp _ _ rfl)) ?_ | refine Run.pure (dd := some 59) rfl rfl (op_junk (.inl rfl)) ?_
        first | refine Run.pureG (dd := some 60) rfl rfl rfl tG (op_fld_ptr (by decide) rfl (Opd.tmp _ _ rfl)) ?_ | refine Run.pureG (dd := some 60) rfl rfl rfl tG (op_fld_fz (by decide) rfl (Opd.tmp _ _ rfl) tR) ?_
        first | refine Run.loadG (dd := some 61) rfl rfl rfl tG (op_load1_flat rfl (Opd.topt _ _ _ rfl tO) tH rfl) ?_ | refine Run.pureG (dd := some 61) rfl rfl rfl tG (op_load1_fz rfl (Opd.topt _ _ _ rfl tO) rfl) ?_ | refine Run.loadG (dd := some 61) rfl rfl rfl tG (op_load1_refs rfl (Opd.topt _ _ _ rfl tO) tH rfl) ?_
        first | refine Run.pureG (dd := some 62) rfl rfl rfl tG (op_move rfl (Opd.tmp _ _ rfl)) ?_ | refine Run.pureG (dd := some 62) rfl rfl rfl tG (op_junk (.inl rfl)) ?_
        refine Run.pureG (dd := some 63) rfl rfl rfl tG (op_neq rfl (Opd.topt _ _ _ rfl tO) (Opd.topt _ _ _ rfl tO)) ?_
        refine Run.pure (dd := some 64) rfl rfl (op_pick_or rfl (Opd.tmp _ _ rfl) (Opd.topt _ _ _ rfl tO)) ?_
        first | refine Run.pure (dd := some 65) rfl rfl (op_move rfl (Opd.tmp _ _ rfl)) ?_ | refine Run.pure (dd := some 65) rfl rfl (op_junk (.inl rfl)) ?_
        first | refine Run.pureG (dd := some 66) rfl rfl rfl tG (op_fld_ptr (by decide) rfl (Opd.tmp _ _ rfl)) ?_ | refine Run.pureG (dd := some 66) rfl rfl rfl tG (op_fld_fz (by decide) rfl (Opd.tmp _ _ rfl) tR) ?_
        first | refine Run.loadG (dd := some 67) rfl rfl rfl tG (op_load1_flat rfl (Opd.topt _ _ _ rfl tO) tH rfl) ?_ | refine Run.pureG (dd := some 67) rfl rfl rfl tG (op_load1_fz rfl (Opd.topt _ _ _ rfl tO) rfl) ?_ | refine Run.loadG (dd := some 67) rfl rfl rfl tG (op_load1_refs rfl (Opd.topt _ _ _ rfl tO) tH rfl) ?_
        first | refine Run.pureG (dd := some 68) rfl rfl rfl tG (op_move rfl (Opd.tmp _ _ rfl)) ?_ | refine Run.pureG (dd := some 68) rfl rfl rfl tG (op_junk (.inl rfl)) ?_
        refine Run.pureG (dd := some 69) rfl rfl rfl tG (op_idx_fz n rfl (Opd.topt _ _ _ rfl tO) (Opd.topt _ _ _ rfl tO) (by intro _; exact ⟨rfl, hra⟩)) ?_
        first | refine Run.loadG (dd := some 70) rfl rfl rfl tG (op_load1_flat rfl (Opd.topt _ _ _ rfl tO) tH rfl) ?_ | refine Run.pureG (dd := some 70) rfl rfl rfl tG (op_load1_fz rfl (Opd.topt _ _ _ rfl tO) rfl) ?_ | refine Run.loadG (dd := some 70) rfl rfl rfl tG (op_load1_refs rfl (Opd.topt _ _ _ rfl tO) tH rfl) ?_
        refine Run.pureG (dd := some 71) rfl rfl rfl tG (op_neq rfl (Opd.topt _ _ _ rfl tO) (Opd.const _)) ?_
        refine Run.pure (dd := some 72) rfl rfl (op_pick_or rfl (Opd.tmp _ _ rfl) (Opd.topt _ _ _ rfl tO)) ?_
        refine Run.nil (FinR.mk ?_)
        refine nK ?_
        refine n_cond _ rfl (fun hb => ?_) (fun hb => ?_)
        · exfalso
          simp [hm, hrt, hdl, hhl, hpl, hg] at hb
          omega
        · clear hb
          refine nK ?_
          refine s_reg rfl ?_
          first | refine Run.pure (dd := some 8) rfl rfl (op_assign rfl (Opd.const _)) ?_ | refine Run.pure (dd := some 8) rfl rfl (op_junk (.inr rfl)) ?_
          refine Run.nil (FinR.mk ?_)
          refine nK ?_
          refine n_loop (ι := Nat) (fun i => ([(1, IV .i64 n), (2, .ptr 0 3 0 0), (5, .ptr 1 4 0 0), (7, IV .i64 m), (8, IV .i64 i)], [(0, OG g), (1, OTr t)], 2)) (fun i => i ≤ g.es.length) (fun i => g.es.length - i) 0 (Nat.zero_le _) ?_ ?_
          · refine Next.weak [0, 1] [] (by rfl) (keepsN hC _ rfl) (by repeat (first | exact trivial | refine ⟨⟨_, rfl, .inl ⟨rfl, rfl⟩⟩, ?_⟩ | refine ⟨⟨_, rfl, .inl ⟨ivEq hm, rfl⟩⟩, ?_⟩)) (by exact ⟨ent_same rfl rfl rfl tL, ⟨ent_same rfl rfl rfl tL, trivial⟩⟩) (fun _ h => by simp at h) rel_intro
          · intro i hi K hK
            try dsimp only at hi hK ⊢
            refine nK ?_
            refine s_reg rfl ?_
            first | refine Run.pure (dd := some 73) rfl rfl (op_move rfl (Opd.tmp _ _ rfl)) ?_ | refine Run.pure (dd := some 73) rfl rfl (op_junk (.inl rfl)) ?_
            first | refine Run.pure (dd := some 74) rfl rfl (op_fld_ptr (by decide) rfl (Opd.tmp _ _ rfl)) ?_ | refine Run.pure (dd := some 74) rfl rfl (op_fld_fz (by decide) rfl (Opd.tmp _ _ rfl) tR) ?_
            first | refine Run.load (dd := some 75) rfl rfl (op_load1_flat rfl (Opd.tmp _ _ rfl) tH rfl) ?_ | refine Run.pure (dd := some 75) rfl rfl (op_load1_fz rfl (Opd.tmp _ _ rfl) rfl) ?_ | refine Run.load (dd := some 75) rfl rfl (op_load1_refs rfl (Opd.tmp _ _ rfl) tH rfl) ?_
            first | refine Run.pure (dd := some 76) rfl rfl (op_len_fz rfl (by first | exact Opd.tmp _ _ rfl | exact Opd.nil _ _ (Opd.tmp _ _ rfl)) (by first | exact List.length_map _ | rfl)) ?_ | refine Run.pure (dd := some 76) rfl rfl (op_len_sl rfl (Opd.tmp _ _ rfl)) ?_
            refine Run.pure (dd := some 77) rfl rfl (op_lss rfl (Opd.tmp _ _ rfl) (Opd.tmp _ _ rfl)) ?_
            refine Run.nil (FinR.mk ?_)
            refine nK ?_
            refine n_cond _ rfl (fun hb => ?_) (fun hb => ?_)
            · have hlt : i < g.es.length := by simp at hb; omega
              have hr1 := row_at' encE g.es i hlt
              have he := List.getElem_mem hlt
              have hK1 := hK (i + 1) (by omega) (by omega)
              generalize g.es[i] = e at *
              have hef := vg.f e he
              have het := vg.t e he
              have hec := vg.c e he
              have hE := hed e he
              have hrf := row_of encN t.dist e.f.toNat 0 (by omega)
              have hrv := row_of encN t.dist e.t.toNat 0 (by omega)
              have hbf := hd2 e.f.toNat (by omega)
              change (t.dist.map encN)[e.f.toNat]? = some (encN (gt0 t.dist e.f.toNat)) at hrf
              change (t.dist.map encN)[e.t.toNat]? = some (encN (gt0 t.dist e.t.toNat)) at hrv
              generalize gt0 t.dist e.f.toNat = df at *
              generalize gt0 t.dist e.t.toNat = dt at *
              refine nK ?_
              refine s_reg rfl ?_
              first | refine Run.pure (dd := some 80) rfl rfl (op_fld_ptr (by decide) rfl (Opd.tmp _ _ rfl)) ?_ | refine Run.pure (dd := some 80) rfl rfl (op_fld_fz (by decide) rfl (Opd.tmp _ _ rfl) tR) ?_
              first | refine Run.load (dd := some 81) rfl rfl (op_load1_flat rfl (Opd.tmp _ _ rfl) tH rfl) ?_ | refine Run.pure (dd := some 81) rfl rfl (op_load1_fz rfl (Opd.tmp _ _ rfl) rfl) ?_ | refine Run.load (dd := some 81) rfl rfl (op_load1_refs rfl (Opd.tmp _ _ rfl) tH rfl) ?_
              first | refine Run.pure (dd := some 82) rfl rfl (op_move rfl (Opd.tmp _ _ rfl)) ?_ | refine Run.pure (dd := some 82) rfl rfl (op_junk (.inl rfl)) ?_
              first | refine Run.pure (dd := some 83) rfl rfl (op_idx_sl0 _ rfl (Opd.tmp _ _ rfl) (Opd.tmp _ _ rfl) tD) ?_ | refine Run.pure (dd := some 83) rfl rfl (op_idx_fz _ rfl (Opd.tmp _ _ rfl) (Opd.tmp _ _ rfl) tF) ?_
              first | refine Run.load (dd := some 84) rfl rfl (op_loadw_flat rfl (Opd.tmp _ _ rfl) tH rfl) ?_ | refine Run.pure (dd := some 84) rfl rfl (op_loadw_fz rfl (Opd.tmp _ _ rfl) rfl) ?_ | refine Run.load (dd := some 84) rfl rfl (op_loadn_flat rfl (Opd.tmp _ _ rfl) tH tR tR) ?_ | refine Run.pure (dd := some 84) rfl rfl (op_loadn_fz rfl (Opd.tmp _ _ rfl) tR) ?_ | refine Run.load (dd := some 84) rfl rfl (op_loadn_refs rfl (Opd.tmp _ _ rfl) tH tR tR) ?_
              refine Run.eff (dd := some 9) rfl rfl (op_alloc rfl rfl rfl rfl) ?_
              first | refine Run.eff (dd := none) rfl rfl (op_store_flat rfl (Opd.tmp _ _ rfl) (Opd.tmp _ _ rfl) tC rfl rfl (by first | rfl | assumption) tS) ?_ | refine Run.eff (dd := none) rfl rfl (op_store_refs rfl (Opd.tmp _ _ rfl) (Opd.tmp _ _ rfl) tP rfl rfl rfl tS) ?_
              refine Run.nil (FinR.mk ?_)
              refine nK ?_
              refine s_draw mixed ?_
              first | refine Run.pure (dd := some 85) rfl rfl (op_fld_ptr (by decide) rfl (Opd.tmp _ _ rfl)) ?_ | refine Run.pure (dd := some 85) rfl rfl (op_fld_fz (by decide) rfl (Opd.tmp _ _ rfl) tR) ?_
              first | refine Run.load (dd := some 86) rfl rfl (op_load1_flat rfl (Opd.tmp _ _ rfl) tH rfl) ?_ | refine Run.pure (dd := some 86) rfl rfl (op_load1_fz rfl (Opd.tmp _ _ rfl) rfl) ?_ | refine Run.load (dd := some 86) rfl rfl (op_load1_refs rfl (Opd.tmp _ _ rfl) tH rfl) ?_
              first | refine Run.pure (dd := some 87) rfl rfl (op_fld_ptr (by decide) rfl (Opd.tmp _ _ rfl)) ?_ | refine Run.pure (dd := some 87) rfl rfl (op_fld_fz (by decide) rfl (Opd.tmp _ _ rfl) tR) ?_
              first | refine Run.load (dd := some 88) rfl rfl (op_load1_flat rfl (Opd.tmp _ _ rfl) tH rfl) ?_ | refine Run.pure (dd := some 88) rfl rfl (op_load1_fz rfl (Opd.tmp _ _ rfl) rfl) ?_ | refine Run.load (dd := some 88) rfl rfl (op_load1_refs rfl (Opd.tmp _ _ rfl) tH rfl) ?_
              refine Run.pure (dd := some 89) rfl rfl (op_idx_fz e.f.toNat rfl (Opd.tmp _ _ rfl) (Opd.tmp _ _ rfl) (by intro _; exact ⟨by omega, hrf⟩)) ?_
              first | refine Run.load (dd := some 90) rfl rfl (op_load1_flat rfl (Opd.tmp _ _ rfl) tH rfl) ?_ | refine Run.pure (dd := some 90) rfl rfl (op_load1_fz rfl (Opd.tmp _ _ rfl) rfl) ?_ | refine Run.load (dd := some 90) rfl rfl (op_load1_refs rfl (Opd.tmp _ _ rfl) tH rfl) ?_
              refine Run.pure (dd := some 91) rfl rfl (op_geq rfl (Opd.tmp _ _ rfl) (Opd.const _)) ?_
              first | refine Run.pure (dd := some 92) rfl rfl (op_move rfl (Opd.tmp _ _ rfl)) ?_ | refine Run.pure (dd := some 92) rfl rfl (op_junk (.inl rfl)) ?_
              first | refine Run.pureG (dd := some 93) rfl rfl rfl tG (op_fld_ptr (by decide) rfl (Opd.tmp _ _ rfl)) ?_ | refine Run.pureG (dd := some 93) rfl rfl rfl tG (op_fld_fz (by decide) rfl (Opd.tmp _ _ rfl) tR) ?_
              first | refine Run.loadG (dd := some 94) rfl rfl rfl tG (op_load1_flat rfl (Opd.topt _ _ _ rfl tO) tH rfl) ?_ | refine Run.pureG (dd := some 94) rfl rfl rfl tG (op_load1_fz rfl (Opd.topt _ _ _ rfl tO) rfl) ?_ | refine Run.loadG (dd := some 94) rfl rfl rfl tG (op_load1_refs rfl (Opd.topt _ _ _ rfl tO) tH rfl) ?_
              first | refine Run.pureG (dd := some 95) rfl rfl rfl tG (op_fld_ptr (by decide) rfl (Opd.tmp _ _ rfl)) ?_ | refine Run.pureG (dd := some 95) rfl rfl rfl tG (op_fld_fz (by decide) rfl (Opd.tmp _ _ rfl) tR) ?_
              first | refine Run.loadG (dd := some 96) rfl rfl rfl tG (op_load1_flat rfl (Opd.topt _ _ _ rfl tO) tH rfl) ?_ | refine Run.pureG (dd := some 96) rfl rfl rfl tG (op_load1_fz rfl (Opd.topt _ _ _ rfl tO) rfl) ?_ | refine Run.loadG (dd := some 96) rfl rfl rfl tG (op_load1_refs rfl (Opd.topt _ _ _ rfl tO) tH rfl) ?_
              refine Run.pureG (dd := some 97) rfl rfl rfl tG (op_idx_fz e.t.toNat rfl (Opd.topt _ _ _ rfl tO) (Opd.topt _ _ _ rfl tO) (by intro _; exact ⟨by omega, hrv⟩)) ?_
              first | refine Run.loadG (dd := some 98) rfl rfl rfl tG (op_load1_flat rfl (Opd.topt _ _ _ rfl tO) tH rfl) ?_ | refine Run.pureG (dd := some 98) rfl rfl rfl tG (op_load1_fz rfl (Opd.topt _ _ _ rfl tO) rfl) ?_ | refine Run.loadG (dd := some 98) rfl rfl rfl tG (op_load1_refs rfl (Opd.topt _ _ _ rfl tO) tH rfl) ?_
              refine Run.pureG (dd := some 99) rfl rfl rfl tG (op_lss rfl (Opd.topt _ _ _ rfl tO) (Opd.const _)) ?_
              first | refine Run.pureG (dd := some 100) rfl rfl rfl tG (op_move rfl (Opd.topt _ _ _ rfl tO)) ?_ | refine Run.pureG (dd := some 100) rfl rfl rfl tG (op_junk (.inl rfl)) ?_
              first | refine Run.pureG (dd := some 101) rfl rfl rfl tG (op_fld_ptr (by decide) rfl (Opd.tmp _ _ rfl)) ?_ | refine Run.pureG (dd := some 101) rfl rfl rfl tG (op_fld_fz (by decide) rfl (Opd.tmp _ _ rfl) tR) ?_
              first | refine Run.loadG (dd := some 102) rfl rfl rfl tG (op_load1_flat rfl (Opd.topt _ _ _ rfl tO) tH rfl) ?_ | refine Run.pureG (dd := some 102) rfl rfl rfl tG (op_load1_fz rfl (Opd.topt _ _ _ rfl tO) rfl) ?_ | refine Run.loadG (dd := some 102) rfl rfl rfl tG (op_load1_refs rfl (Opd.topt _ _ _ rfl tO) tH rfl) ?_
              first | refine Run.pureG (dd := some 103) rfl rfl rfl tG (op_fld_ptr (by decide) rfl (Opd.tmp _ _ rfl)) ?_ | refine Run.pureG (dd := some 103) rfl rfl rfl tG (op_fld_fz (by decide) rfl (Opd.tmp _ _ rfl) tR) ?_
              first | refine Run.loadG (dd := some 104) rfl rfl rfl tG (op_load1_flat rfl (Opd.topt _ _ _ rfl tO) tH rfl) ?_ | refine Run.pureG (dd := some 104) rfl rfl rfl tG (op_load1_fz rfl (Opd.topt _ _ _ rfl tO) rfl) ?_ | refine Run.loadG (dd := some 104) rfl rfl rfl tG (op_load1_refs rfl (Opd.topt _ _ _ rfl tO) tH rfl) ?_
              refine Run.pureG (dd := some 105) rfl rfl rfl tG (op_idx_fz e.t.toNat rfl (Opd.topt _ _ _ rfl tO) (Opd.topt _ _ _ rfl tO) (by intro _; exact ⟨by omega, hrv⟩)) ?_
              first | refine Run.loadG (dd := some 106) rfl rfl rfl tG (op_load1_flat rfl (Opd.topt _ _ _ rfl tO) tH rfl) ?_ | refine Run.pureG (dd := some 106) rfl rfl rfl tG (op_load1_fz rfl (Opd.topt _ _ _ rfl tO) rfl) ?_ | refine Run.loadG (dd := some 106) rfl rfl rfl tG (op_load1_refs rfl (Opd.topt _ _ _ rfl tO) tH rfl) ?_
              first | refine Run.pureG (dd := some 107) rfl rfl rfl tG (op_fld_ptr (by decide) rfl (Opd.tmp _ _ rfl)) ?_ | refine Run.pureG (dd := some 107) rfl rfl rfl tG (op_fld_fz (by decide) rfl (Opd.tmp _ _ rfl) tR) ?_
              first | refine Run.loadG (dd := some 108) rfl rfl rfl tG (op_load1_flat rfl (Opd.topt _ _ _ rfl tO) tH rfl) ?_ | refine Run.pureG (dd := some 108) rfl rfl rfl tG (op_load1_fz rfl (Opd.topt _ _ _ rfl tO) rfl) ?_ | refine Run.loadG (dd := some 108) rfl rfl rfl tG (op_load1_refs rfl (Opd.topt _ _ _ rfl tO) tH rfl) ?_
              first | refine Run.pureG (dd := some 109) rfl rfl rfl tG (op_fld_ptr (by decide) rfl (Opd.tmp _ _ rfl)) ?_ | refine Run.pureG (dd := some 109) rfl rfl rfl tG (op_fld_fz (by decide) rfl (Opd.tmp _ _ rfl) tR) ?_
              first | refine Run.loadG (dd := some 110) rfl rfl rfl tG (op_load1_flat rfl (Opd.topt _ _ _ rfl tO) tH rfl) ?_ | refine Run.pureG (dd := some 110) rfl rfl rfl tG (op_load1_fz rfl (Opd.topt _ _ _ rfl tO) rfl) ?_ | refine Run.loadG (dd := some 110) rfl rfl rfl tG (op_load1_refs rfl (Opd.topt _ _ _ rfl tO) tH rfl) ?_
              refine Run.pureG (dd := some 111) rfl rfl rfl tG (op_idx_fz e.f.toNat rfl (Opd.topt _ _ _ rfl tO) (Opd.topt _ _ _ rfl tO) (by intro _; exact ⟨by omega, hrf⟩)) ?_
              first | refine Run.loadG (dd := some 112) rfl rfl rfl tG (op_load1_flat rfl (Opd.topt _ _ _ rfl tO) tH rfl) ?_ | refine Run.pureG (dd := some 112) rfl rfl rfl tG (op_load1_fz rfl (Opd.topt _ _ _ rfl tO) rfl) ?_ | refine Run.loadG (dd := some 112) rfl rfl rfl tG (op_load1_refs rfl (Opd.topt _ _ _ rfl tO) tH rfl) ?_
              first | refine Run.pureG (dd := some 113) rfl rfl rfl tG (op_fld_ptr (by decide) rfl (Opd.tmp _ _ rfl)) ?_ | refine Run.pureG (dd := some 113) rfl rfl rfl tG (op_fld_fz (by decide) rfl (Opd.tmp _ _ rfl) tR) ?_
              first | refine Run.loadG (dd := some 114) rfl rfl rfl tG (op_load1_flat rfl (Opd.topt _ _ _ rfl tO) tH rfl) ?_ | refine Run.pureG (dd := some 114) rfl rfl rfl tG (op_load1_fz rfl (Opd.topt _ _ _ rfl tO) rfl) ?_ | refine Run.loadG (dd := some 114) rfl rfl rfl tG (op_load1_refs rfl (Opd.topt _ _ _ rfl tO) tH rfl) ?_
              refine Run.pureG (dd := some 115) rfl rfl rfl tG (op_add rfl (Opd.topt _ _ _ rfl tO) (Opd.topt _ _ _ rfl tO) tI) ?_
              refine Run.pureG (dd := some 116) rfl rfl rfl tG (op_gtr rfl (Opd.topt _ _ _ rfl tO) (Opd.topt _ _ _ rfl tO)) ?_
              refine Run.pureG (dd := some 117) rfl rfl rfl tG (op_pick_or rfl (Opd.topt _ _ _ rfl tO) (Opd.topt _ _ _ rfl tO)) ?_
              refine Run.pure (dd := some 118) rfl rfl (op_pick_and rfl (Opd.tmp _ _ rfl) (Opd.topt _ _ _ rfl tO)) ?_
              refine Run.nil (FinD.mk (by kernel_rfl) ?_)
              refine nK ?_
              refine n_cond _ rfl (fun hb => ?_) (fun hb => ?_)
              · exfalso
                simp at hb
                have := hE (by omega)
                omega
              · refine nK ?_
                refine s_reg rfl ?_
                first | refine Run.pure (dd := some 78) rfl rfl (op_move rfl (Opd.tmp _ _ rfl)) ?_ | refine Run.pure (dd := some 78) rfl rfl (op_junk (.inl rfl)) ?_
                refine Run.pure (dd := some 79) rfl rfl (op_add rfl (Opd.tmp _ _ rfl) (Opd.const _) tI) ?_
                first | refine Run.pure (dd := some 8) rfl rfl (op_assign rfl (Opd.tmp _ _ rfl)) ?_ | refine Run.pure (dd := some 8) rfl rfl (op_junk (.inr rfl)) ?_
                refine Run.nil (FinR.mk ?_)
                refine nK ?_
                refine Next.weak [0, 1] [] (by rfl) (keepsN hC _ rfl) (by repeat (first | exact trivial | refine ⟨⟨_, rfl, .inl ⟨rfl, rfl⟩⟩, ?_⟩ | refine ⟨⟨_, rfl, .inl ⟨slEq rfl tN, rfl⟩⟩, ?_⟩ | refine ⟨⟨_, rfl, .inl ⟨ivEq tX, rfl⟩⟩, ?_⟩)) (by exact ⟨ent_same rfl rfl rfl tL, ⟨ent_same rfl rfl rfl tL, trivial⟩⟩) (fun _ h => by simp at h) hK1
            · clear hK hb hi
              refine nK ?_
              refine s_reg rfl ?_
              first | refine Run.pure (dd := some 10) rfl rfl (op_assign rfl (Opd.const _)) ?_ | refine Run.pure (dd := some 10) rfl rfl (op_junk (.inr rfl)) ?_
              refine Run.nil (FinR.mk ?_)
              refine nK ?_
              refine n_loop (ι := Nat) (fun i => ([(1, IV .i64 n), (5, .ptr 0 4 0 0), (7, IV .i64 m), (10, IV .i64 i)], [(0, OTr t)], 1)) (fun i => i ≤ m) (fun i => m - i) 0 (Nat.zero_le _) ?_ ?_
              · refine Next.weak [1] [] (by rfl) (keepsN hC _ rfl) (by repeat (first | exact trivial | refine ⟨⟨_, rfl, .inl ⟨rfl, rfl⟩⟩, ?_⟩ | refine ⟨⟨_, rfl, .inl ⟨slEq rfl tN, rfl⟩⟩, ?_⟩ | refine ⟨⟨_, rfl, .inl ⟨ivEq tX, rfl⟩⟩, ?_⟩)) (by exact ⟨ent_same rfl rfl rfl tL, trivial⟩) (fun _ h => by simp at h) rel_intro
              · intro v hv K2 hK2
                try dsimp only at hv hK2 ⊢
                refine nK ?_
                refine s_reg rfl ?_
                first | refine Run.pure (dd := some 119) rfl rfl (op_move rfl (Opd.tmp _ _ rfl)) ?_ | refine Run.pure (dd := some 119) rfl rfl (op_junk (.inl rfl)) ?_
                first | refine Run.pure (dd := some 120) rfl rfl (op_move rfl (Opd.tmp _ _ rfl)) ?_ | refine Run.pure (dd := some 120) rfl rfl (op_junk (.inl rfl)) ?_
                refine Run.pure (dd := some 121) rfl rfl (op_lss rfl (Opd.tmp _ _ rfl) (Opd.tmp _ _ rfl)) ?_
                refine Run.nil (FinR.mk ?_)
                refine nK ?_
                refine n_cond _ rfl (fun hb => ?_) (fun hb => ?_)
                · have hlt : v < m := by simpa using hb
                  have hrv := row_of encN t.dist v 0 (by omega)
                  have hrh := row_of encL t.hops v [] (by omega)
                  have hrp := row_of encL t.par v [] (by omega)
                  have e1 := hpp v hlt
                  have e2 := hhp v hlt
                  have hK3 := hK2 (v + 1) (by omega) (by omega)
                  change (t.dist.map encN)[v]? = some (encN (gt0 t.dist v)) at hrv
                  change (t.hops.map encL)[v]? = some (encL (rowAt' t.hops v)) at hrh
                  change (t.par.map encL)[v]? = some (encL (rowAt' t.par v)) at hrp
                  generalize gt0 t.dist v = dv at *
                  generalize rowAt' t.hops v = hv2 at *
                  generalize rowAt' t.par v = pv2 at *
                  refine nK ?_
                  refine s_reg rfl ?_
                  first | refine Run.pure (dd := some 124) rfl rfl (op_move rfl (Opd.tmp _ _ rfl)) ?_ | refine Run.pure (dd := some 124) rfl rfl (op_junk (.inl rfl)) ?_
                  first | refine Run.pure (dd := some 125) rfl rfl (op_move rfl (Opd.tmp _ _ rfl)) ?_ | refine Run.pure (dd := some 125) rfl rfl (op_junk (.inl rfl)) ?_
                  refine Run.pure (dd := some 126) rfl rfl (op_neq rfl (Opd.tmp _ _ rfl) (Opd.tmp _ _ rfl)) ?_
                  first | refine Run.pure (dd := some 127) rfl rfl (op_move rfl (Opd.tmp _ _ rfl)) ?_ | refine Run.pure (dd := some 127) rfl rfl (op_junk (.inl rfl)) ?_
                  first | refine Run.pureG (dd := some 128) rfl rfl rfl tG (op_fld_ptr (by decide) rfl (Opd.tmp _ _ rfl)) ?_ | refine Run.pureG (dd := some 128) rfl rfl rfl tG (op_fld_fz (by decide) rfl (Opd.tmp _ _ rfl) tR) ?_
                  first | refine Run.loadG (dd := some 129) rfl rfl rfl tG (op_load1_flat rfl (Opd.topt _ _ _ rfl tO) tH rfl) ?_ | refine Run.pureG (dd := some 129) rfl rfl rfl tG (op_load1_fz rfl (Opd.topt _ _ _ rfl tO) rfl) ?_ | refine Run.loadG (dd := some 129) rfl rfl rfl tG (op_load1_refs rfl (Opd.topt _ _ _ rfl tO) tH rfl) ?_
                  first | refine Run.pureG (dd := some 130) rfl rfl rfl tG (op_move rfl (Opd.tmp _ _ rfl)) ?_ | refine Run.pureG (dd := some 130) rfl rfl rfl tG (op_junk (.inl rfl)) ?_
                  refine Run.pureG (dd := some 131) rfl rfl rfl tG (op_idx_fz v rfl (Opd.topt _ _ _ rfl tO) (Opd.topt _ _ _ rfl tO) (by intro _; exact ⟨rfl, hrv⟩)) ?_
                  first | refine Run.loadG (dd := some 132) rfl rfl rfl tG (op_load1_flat rfl (Opd.topt _ _ _ rfl tO) tH rfl) ?_ | refine Run.pureG (dd := some 132) rfl rfl rfl tG (op_load1_fz rfl (Opd.topt _ _ _ rfl tO) rfl) ?_ | refine Run.loadG (dd := some 132) rfl rfl rfl tG (op_load1_refs rfl (Opd.topt _ _ _ rfl tO) tH rfl) ?_
                  refine Run.pureG (dd := some 133) rfl rfl rfl tG (op_geq rfl (Opd.topt _ _ _ rfl tO) (Opd.const _)) ?_
                  refine Run.pure (dd := some 134) rfl rfl (op_pick_and rfl (Opd.tmp _ _ rfl) (Opd.topt _ _ _ rfl tO)) ?_
                  first | refine Run.pure (dd := some 11) rfl rfl (op_assign rfl (Opd.tmp _ _ rfl)) ?_ | refine Run.pure (dd := some 11) rfl rfl (op_junk (.inr rfl)) ?_
                  refine Run.nil (FinR.mk ?_)
                  refine nK ?_
                  refine s_reg rfl ?_
                  first | refine Run.pure (dd := some 135) rfl rfl (op_fld_ptr (by decide) rfl (Opd.tmp _ _ rfl)) ?_ | refine Run.pure (dd := some 135) rfl rfl (op_fld_fz (by decide) rfl (Opd.tmp _ _ rfl) tR) ?_
                  first | refine Run.load (dd := some 136) rfl rfl (op_load1_flat rfl (Opd.tmp _ _ rfl) tH rfl) ?_ | refine Run.pure (dd := some 136) rfl rfl (op_load1_fz rfl (Opd.tmp _ _ rfl) rfl) ?_ | refine Run.load (dd := some 136) rfl rfl (op_load1_refs rfl (Opd.tmp _ _ rfl) tH rfl) ?_
                  first | refine Run.pure (dd := some 137) rfl rfl (op_move rfl (Opd.tmp _ _ rfl)) ?_ | refine Run.pure (dd := some 137) rfl rfl (op_junk (.inl rfl)) ?_
                  refine Run.pure (dd := some 138) rfl rfl (op_idx_fz v rfl (Opd.tmp _ _ rfl) (Opd.tmp _ _ rfl) (by intro _; exact ⟨rfl, hrh⟩)) ?_
                  first | refine Run.load (dd := some 139) rfl rfl (op_load1_flat rfl (Opd.tmp _ _ rfl) tH rfl) ?_ | refine Run.pure (dd := some 139) rfl rfl (op_load1_fz rfl (Opd.tmp _ _ rfl) rfl) ?_ | refine Run.load (dd := some 139) rfl rfl (op_load1_refs rfl (Opd.tmp _ _ rfl) tH rfl) ?_
                  first | refine Run.pure (dd := some 140) rfl rfl (op_len_fz rfl (by first | exact Opd.tmp _ _ rfl | exact Opd.nil _ _ (Opd.tmp _ _ rfl)) (by first | exact List.length_map _ | rfl)) ?_ | refine Run.pure (dd := some 140) rfl rfl (op_len_sl rfl (Opd.tmp _ _ rfl)) ?_
                  refine Run.pure (dd := some 141) rfl rfl (op_gtr rfl (Opd.tmp _ _ rfl) (Opd.const _)) ?_
                  first | refine Run.pure (dd := some 142) rfl rfl (op_move rfl (Opd.tmp _ _ rfl)) ?_ | refine Run.pure (dd := some 142) rfl rfl (op_junk (.inl rfl)) ?_
                  refine Run.pure (dd := some 143) rfl rfl (op_neqB rfl (Opd.tmp _ _ rfl) (Opd.tmp _ _ rfl)) ?_
                  first | refine Run.pure (dd := some 144) rfl rfl (op_move rfl (Opd.tmp _ _ rfl)) ?_ | refine Run.pure (dd := some 144) rfl rfl (op_junk (.inl rfl)) ?_
                  first | refine Run.pureG (dd := some 145) rfl rfl rfl tG (op_fld_ptr (by decide) rfl (Opd.tmp _ _ rfl)) ?_ | refine Run.pureG (dd := some 145) rfl rfl rfl tG (op_fld_fz (by decide) rfl (Opd.tmp _ _ rfl) tR) ?_
                  first | refine Run.loadG (dd := some 146) rfl rfl rfl tG (op_load1_flat rfl (Opd.topt _ _ _ rfl tO) tH rfl) ?_ | refine Run.pureG (dd := some 146) rfl rfl rfl tG (op_load1_fz rfl (Opd.topt _ _ _ rfl tO) rfl) ?_ | refine Run.loadG (dd := some 146) rfl rfl rfl tG (op_load1_refs rfl (Opd.topt _ _ _ rfl tO) tH rfl) ?_
                  first | refine Run.pureG (dd := some 147) rfl rfl rfl tG (op_move rfl (Opd.tmp _ _ rfl)) ?_ | refine Run.pureG (dd := some 147) rfl rfl rfl tG (op_junk (.inl rfl)) ?_
                  refine Run.pureG (dd := some 148) rfl rfl rfl tG (op_idx_fz v rfl (Opd.topt _ _ _ rfl tO) (Opd.topt _ _ _ rfl tO) (by intro _; exact ⟨rfl, hrp⟩)) ?_
                  first | refine Run.loadG (dd := some 149) rfl rfl rfl tG (op_load1_flat rfl (Opd.topt _ _ _ rfl tO) tH rfl) ?_ | refine Run.pureG (dd := some 149) rfl rfl rfl tG (op_load1_fz rfl (Opd.topt _ _ _ rfl tO) rfl) ?_ | refine Run.loadG (dd := some 149) rfl rfl rfl tG (op_load1_refs rfl (Opd.topt _ _ _ rfl tO) tH rfl) ?_
                  first | refine Run.pureG (dd := some 150) rfl rfl rfl tG (op_len_fz rfl (by first | exact Opd.topt _ _ _ rfl tO | exact Opd.nil _ _ (Opd.topt _ _ _ rfl tO)) (by first | exact List.length_map _ | rfl)) ?_ | refine Run.pureG (dd := some 150) rfl rfl rfl tG (op_len_sl rfl (Opd.topt _ _ _ rfl tO)) ?_
                  refine Run.pureG (dd := some 151) rfl rfl rfl tG (op_gtr rfl (Opd.topt _ _ _ rfl tO) (Opd.const _)) ?_
                  first | refine Run.pureG (dd := some 152) rfl rfl rfl tG (op_move rfl (Opd.tmp _ _ rfl)) ?_ | refine Run.pureG (dd := some 152) rfl rfl rfl tG (op_junk (.inl rfl)) ?_
                  refine Run.pureG (dd := some 153) rfl rfl rfl tG (op_neqB rfl (Opd.topt _ _ _ rfl tO) (Opd.topt _ _ _ rfl tO)) ?_
                  refine Run.pure (dd := some 154) rfl rfl (op_pick_or rfl (Opd.tmp _ _ rfl) (Opd.topt _ _ _ rfl tO)) ?_
                  refine Run.nil (FinR.mk ?_)
                  refine nK ?_
                  refine n_cond _ rfl (fun hb => ?_) (fun hb => ?_)
                  · exfalso
                    have q1 : decide (0 < (hv2.length : Int)) = (decide ((v : Int) ≠ (n : Int)) && decide (0 ≤ dv)) := by
                      rw [Bool.eq_iff_iff]; simp only [decide_eq_true_eq, Bool.and_eq_true]; omega
                    have q2 : decide (0 < (pv2.length : Int)) = (decide ((v : Int) ≠ (n : Int)) && decide (0 ≤ dv)) := by
                      rw [Bool.eq_iff_iff]; simp only [decide_eq_true_eq, Bool.and_eq_true]; omega
                    rw [q1, q2] at hb
                    simp at hb
                  · refine nK ?_
                    refine s_reg rfl ?_
                    first | refine Run.pure (dd := some 122) rfl rfl (op_move rfl (Opd.tmp _ _ rfl)) ?_ | refine Run.pure (dd := some 122) rfl rfl (op_junk (.inl rfl)) ?_
                    refine Run.pure (dd := some 123) rfl rfl (op_add rfl (Opd.tmp _ _ rfl) (Opd.const _) tI) ?_
                    first | refine Run.pure (dd := some 10) rfl rfl (op_assign rfl (Opd.tmp _ _ rfl)) ?_ | refine Run.pure (dd := some 10) rfl rfl (op_junk (.inr rfl)) ?_
                    refine Run.nil (FinR.mk ?_)
                    refine nK ?_
                    refine Next.weak [0] [] (by rfl) (keepsN hC _ rfl) (by repeat (first | exact trivial | refine ⟨⟨_, rfl, .inl ⟨rfl, rfl⟩⟩, ?_⟩ | refine ⟨⟨_, rfl, .inl ⟨slEq rfl tN, rfl⟩⟩, ?_⟩ | refine ⟨⟨_, rfl, .inl ⟨ivEq tX, rfl⟩⟩, ?_⟩)) (by exact ⟨ent_same rfl rfl rfl tL, trivial⟩) (fun _ h => by simp at h) hK3
                · refine nK ?_
                  refine s_reg rfl ?_
                  refine Run.pure (dd := some 155) rfl rfl (op_call_pure (fun _ => lives_c) rfl (Opd.func _) Opds.nil) ?_
                  first | refine Run.pure (dd := some 4) rfl rfl (op_assign rfl (Opd.tmp _ _ rfl)) ?_ | refine Run.pure (dd := some 4) rfl rfl (op_junk (.inr rfl)) ?_
                  refine Run.nil (FinR.mk ?_)
                  refine nK ?_
                  (first | exact s_o1 hC rfl tV | exact s_o2 hC rfl tV tV | exact s_o3 hC rfl tV tV tV | exact s_out0 hC rfl | exact s_outO hC rfl rfl rfl)
  · have hr := run_bad g a hok hg
    refine Meets.intro Try.func5 rfl (Nat.le_of_ble_eq_true rfl) fun C hC => ?_
    simp only [List.map, argEnv, Nat.reduceAdd]
    refine nK ?_
    refine s_reg rfl ?_
    first | refine Run.eff (dd := some 2) rfl rfl (op_box_flat rfl (Opd.tmp _ _ rfl) tC rfl) ?_ | refine Run.eff (dd := some 2) rfl rfl (op_box_refs rfl (Opd.tmp _ _ rfl) tP rfl) ?_
    first | refine Run.pure (dd := some 4) rfl rfl (op_assign rfl (Opd.const _)) ?_ | refine Run.pure (dd := some 4) rfl rfl (op_junk (.inr rfl)) ?_
    refine Run.nil (FinR.mk ?_)
    refine nK ?_
    refine s_reg rfl ?_
    first | refine Run.load (dd := some 13) rfl rfl (op_loadw_flat rfl (Opd.tmp _ _ rfl) tH rfl) ?_ | refine Run.pure (dd := some 13) rfl rfl (op_loadw_fz rfl (Opd.tmp _ _ rfl) rfl) ?_ | refine Run.load (dd := some 13) rfl rfl (op_loadn_flat rfl (Opd.tmp _ _ rfl) tH tR tR) ?_ | refine Run.pure (dd := some 13) rfl rfl (op_loadn_fz rfl (Opd.tmp _ _ rfl) tR) ?_ | refine Run.load (dd := some 13) rfl rfl (op_loadn_refs rfl (Opd.tmp _ _ rfl) tH tR tR) ?_
    first | refine Run.pure (dd := some 14) rfl rfl (op_move rfl (Opd.tmp _ _ rfl)) ?_ | refine Run.pure (dd := some 14) rfl rfl (op_junk (.inl rfl)) ?_
    refine Run.pure (dd := some 15) rfl rfl (op_call_pure (fun _ => hr) rfl (Opd.func _) (Opds.cons _ _ _ _ (Opd.tmp _ _ rfl) (Opds.cons _ _ _ _ (Opd.tmp _ _ rfl) Opds.nil))) ?_
    first | refine Run.pure (dd := some 12) rfl rfl (op_move rfl (Opd.tmp _ _ rfl)) ?_ | refine Run.pure (dd := some 12) rfl rfl (op_junk (.inl rfl)) ?_
    first | refine Run.pure (dd := some 16) rfl rfl (op_extract_fz rfl (Opd.tmp _ _ rfl) rfl) ?_ | refine Run.pure (dd := some 16) rfl rfl (op_extract rfl (Opd.tmp _ _ rfl) rfl) ?_
    first | refine Run.pure (dd := some 17) rfl rfl (op_extract_fz rfl (Opd.tmp _ _ rfl) rfl) ?_ | refine Run.pure (dd := some 17) rfl rfl (op_extract rfl (Opd.tmp _ _ rfl) rfl) ?_
    refine Run.eff (dd := some 5) rfl rfl (op_alloc rfl rfl rfl rfl) ?_
    first | refine Run.eff (dd := none) rfl rfl (op_store_flat rfl (Opd.tmp _ _ rfl) (Opd.tmp _ _ rfl) tC rfl rfl (by first | rfl | assumption) tS) ?_ | refine Run.eff (dd := none) rfl rfl (op_store_refs rfl (Opd.tmp _ _ rfl) (Opd.tmp _ _ rfl) tP rfl rfl rfl tS) ?_
    first | refine Run.pure (dd := some 6) rfl rfl (op_assign rfl (Opd.tmp _ _ rfl)) ?_ | refine Run.pure (dd := some 6) rfl rfl (op_junk (.inr rfl)) ?_
    refine Run.nil (FinR.mk ?_)
    refine nK ?_
    refine s_reg rfl ?_
    first | refine Run.pure (dd := some 18) rfl rfl (op_move rfl (Opd.tmp _ _ rfl)) ?_ | refine Run.pure (dd := some 18) rfl rfl (op_junk (.inl rfl)) ?_
    refine Run.pure (dd := some 19) rfl rfl (op_neq rfl (Opd.tmp _ _ rfl) (Opd.const _)) ?_
    refine Run.nil (FinR.mk ?_)
    refine nK ?_
    refine n_cond _ rfl (fun hb => ?_) (fun hb => ?_)
    · refine nK ?_
      refine s_reg rfl ?_
      refine Run.pure (dd := some 20) rfl rfl (op_call_pure (fun _ => lives_c) rfl (Opd.func _) Opds.nil) ?_
      first | refine Run.pure (dd := some 4) rfl rfl (op_assign rfl (Opd.tmp _ _ rfl)) ?_ | refine Run.pure (dd := some 4) rfl rfl (op_junk (.inr rfl)) ?_
      refine Run.nil (FinR.mk ?_)
      refine nK ?_
      (first | exact s_o1 hC rfl tV | exact s_o2 hC rfl tV tV | exact s_o3 hC rfl tV tV tV | exact s_out0 hC rfl | exact s_outO hC rfl rfl rfl)
    · simp at hb; omega
end Go.Proofs.Ytgbfkpcigipniaa
namespace Go.Pl
open Go.RT
set_option linter.all false
theorem chkL_asc {g : Gr} : ∀ (l : List Edg) (p : Option Edg), chkL g p l = 0 → AscK l ∧ ∀ q, p = some q → ∀ e ∈ l, ltK q e
  | [], _, _ => ⟨List.Pairwise.nil, fun _ _ e he => by cases he⟩
  | x :: l, p, h => by
    simp only [chkL] at h
    by_cases h1 : alwI g x = 0
    · rw [if_neg (by simp [h1])] at h
      by_cases h2 : badP p x = true
      · rw [if_pos h2] at h; cases h
      · rw [if_neg h2] at h
        obtain ⟨i1, i2⟩ := chkL_asc l (some x) h
        refine ⟨List.pairwise_cons.2 ⟨i2 x rfl, i1⟩, fun q hq e he => ?_⟩
        subst hq
        have hqx : ltK q x := by
          simp only [badP] at h2
          exact (ltK_bef q x).1 (by simpa using h2)
        rcases List.mem_cons.1 he with rfl | he
        · exact hqx
        · have := i2 x rfl e he; unfold ltK at *; omega
    · rw [if_pos h1] at h; exact absurd h h1
theorem check_asc {g : Gr} (h : checkI g = 0) : AscK g.es := (chkL_asc _ _ (checkI_ok h).2.2).1
theorem asc_get {l : List Edg} (h : AscK l) {a b : Nat} (hab : a < b) (hb : b < l.length) : ltK (l[a]'(by omega)) l[b] := List.pairwise_iff_getElem.1 h a b (by omega) hb hab
/-- where the binary search comes to, on an ascending list -/
theorem bsAt_spec {l : List Edg} (h : AscK l) (x : Edg) : bsAt l x ≤ l.length ∧ (∀ k (hk : k < bsAt l x) (hl : k < l.length), ltK l[k] x) ∧ (∀ k (hk : bsAt l x ≤ k) (hl : k < l.length), ¬ ltK l[k] x) := by
  have h1 := (bsGo_le (fun e => decide (ordE e x < 0)) l l.length 0 l.length (by omega) (Nat.zero_le _) (Nat.le_refl _)).2
  have h2 := bsGo_spec (fun e => decide (ordE e x < 0)) l (fun a b ha hb hp => by
    have := asc_get h ha hb
    simp only [decide_eq_true_eq, ordE_neg] at hp ⊢
    unfold ltK at this; omega) l.length 0 l.length (by omega) (Nat.zero_le _) (Nat.le_refl _) (fun k hk => absurd hk (Nat.not_lt_zero _)) (fun k hk hl => absurd hl (by omega))
  refine ⟨h1, fun k hk hl => ?_, fun k hk hl => ?_⟩
  · have := h2.1 k hk hl
    simp only [decide_eq_true_eq, ordE_neg] at this; exact this
  · have := h2.2 k hk hl
    simp only [decide_eq_false_iff_not, ordE_neg] at this; exact this
/-- found: there is an edge with these ends, at the place -/
theorem bsHit_true {l : List Edg} (x : Edg) (hh : bsHit l x = true) : ∃ h : bsAt l x < l.length, l[bsAt l x].f = x.f ∧ l[bsAt l x].t = x.t := by
  obtain ⟨h1, h2⟩ := hitAt_lt hh
  exact ⟨h1, by simpa [ordE_zero] using h2⟩
theorem bsHit_false {l : List Edg} (h : AscK l) (x : Edg) (hh : bsHit l x = false) : ∀ e ∈ l, ¬ (e.f = x.f ∧ e.t = x.t) := by
  intro e he hc
  obtain ⟨j, hj, rfl⟩ := List.getElem_of_mem he
  obtain ⟨h1, h2, h3⟩ := bsAt_spec h x
  rcases Nat.lt_trichotomy j (bsAt l x) with h4 | h4 | h4
  · have := h2 j h4 hj; unfold ltK at this; omega
  · have h5 : l[bsAt l x]? = some l[j] := by rw [← h4]; exact List.getElem?_eq_getElem hj
    unfold bsHit hitAt at hh
    rw [h5] at hh
    simp only [decide_eq_false_iff_not, ordE_zero] at hh
    exact hh hc
  · have h5 := asc_get h h4 hj
    have := h3 (bsAt l x) (Nat.le_refl _) (by omega)
    unfold ltK at *; omega
theorem fnd_idx {f t : Int} : ∀ (l : List Edg) (k j : Nat), (hj : j < l.length) → l[j].f = f ∧ l[j].t = t → (∀ i (hi : i < j), ¬ ((l[i]'(by omega)).f = f ∧ (l[i]'(by omega)).t = t)) → fndAt f t k l = ((k + j : Nat) : Int)
  | e :: l, k, 0, hj, h, _ => by
    have : isB f t e = true := by simpa [isB] using h
    simp [fndAt, this]
  | e :: l, k, j + 1, hj, h, hn => by
    have : ¬ isB f t e = true := by have := hn 0 (by omega); simpa [isB] using this
    simp only [fndAt, if_neg this]
    rw [fnd_idx l (k + 1) j (by simpa using hj) (by simpa using h) (fun i hi => by have := hn (i + 1) (by omega); simpa using this)]
    congr 1; omega
theorem fnd_no {f t : Int} : ∀ (l : List Edg) (k : Nat), (∀ e ∈ l, ¬ (e.f = f ∧ e.t = t)) → fndAt f t k l = -1
  | [], _, _ => rfl
  | e :: l, k, h => by
    have : ¬ isB f t e = true := by have := h e (List.mem_cons_self ..); simpa [isB] using this
    simp only [fndAt, if_neg this]
    exact fnd_no l (k + 1) fun x hx => h x (List.mem_cons_of_mem _ hx)
theorem fnd_hit {l : List Edg} (h : AscK l) (x : Edg) (hh : bsHit l x = true) : fndI l x.f x.t = (bsAt l x : Int) := by
  obtain ⟨h1, h2⟩ := bsHit_true x hh
  have := fnd_idx l 0 (bsAt l x) h1 h2 (fun i hi hc => by have := (bsAt_spec h x).2.1 i hi (by omega); unfold ltK at this; omega)
  simpa using this
theorem fnd_miss {l : List Edg} (h : AscK l) (x : Edg) (hh : bsHit l x = false) : fndI l x.f x.t = -1 := fnd_no l 0 (bsHit_false h x hh)
theorem butR_neg (a : Int) : ∀ (l : List Edg) (k : Nat), a < k → butR a k l = l
  | [], _, _ => rfl
  | e :: l, k, h => by simp only [butR]; rw [if_pos (by omega), butR_neg a l (k + 1) (by omega)]; rfl
theorem butR_at : ∀ (l : List Edg) (k j : Nat), butR ((k + j : Nat) : Int) k l = l.take j ++ l.drop (j + 1)
  | [], _, _ => by simp [butR]
  | e :: l, k, 0 => by
    simp only [butR]
    rw [if_neg (by simp), butR_neg _ l (k + 1) (by omega)]; simp
  | e :: l, k, j + 1 => by
    simp only [butR]
    rw [if_pos (by omega), show k + (j + 1) = (k + 1) + j by omega, butR_at l (k + 1) j]; simp
theorem but_del (l : List Edg) (j : Nat) : butR (j : Int) 0 l = delL l j (j + 1) := by
  have := butR_at l 0 j
  simpa [delL] using this
theorem putR_split (e : Edg) : ∀ (a b : List Edg), (∀ x ∈ a, befB e x = false) → (∀ x ∈ b, befB e x = true) → putR e false (a ++ b) = a ++ e :: b
  | [], [], _, _ => by simp [putR]
  | [], y :: b, _, h => by
    have := h y (List.mem_cons_self ..)
    simp [putR, this, putR_true]
  | x :: a, b, h1, h2 => by
    have := h1 x (List.mem_cons_self ..)
    have ih := putR_split e a b (fun y hy => h1 y (List.mem_cons_of_mem _ hy)) h2
    simp [putR, this, ih]
theorem befF {e x : Edg} (h : ¬ ltK e x) : befB e x = false := by
  cases hb : befB e x with
  | false => rfl
  | true => exact absurd ((ltK_bef e x).1 hb) h
theorem put_ins {l : List Edg} (h : AscK l) (c : Edg) (hh : bsHit l c = false) : putR c false l = insL l (bsAt l c) c := by
  obtain ⟨h1, h2, h3⟩ := bsAt_spec h c
  have hno := bsHit_false h c hh
  have := putR_split c (l.take (bsAt l c)) (l.drop (bsAt l c)) (fun x hx => by
    obtain ⟨i, hi, rfl⟩ := List.getElem_of_mem hx
    simp only [List.length_take] at hi
    rw [List.getElem_take]
    have := h2 i (by omega) (by omega)
    exact befF (by unfold ltK at *; omega)) (fun x hx => by
    obtain ⟨i, hi, rfl⟩ := List.getElem_of_mem hx
    simp only [List.length_drop] at hi
    rw [List.getElem_drop]
    have a := h3 (bsAt l c + i) (by omega) (by omega)
    have b := hno l[bsAt l c + i] (List.getElem_mem _)
    exact (ltK_bef _ _).2 (by unfold ltK at *; omega))
  rw [List.take_append_drop] at this
  exact this
theorem put_set {l : List Edg} (h : AscK l) (c : Edg) (hh : bsHit l c = true) : putR c false (delL l (bsAt l c) (bsAt l c + 1)) = l.set (bsAt l c) c := by
  obtain ⟨h1, h2, h3⟩ := bsAt_spec h c
  obtain ⟨hk, hf, ht⟩ := bsHit_true c hh
  have := putR_split c (l.take (bsAt l c)) (l.drop (bsAt l c + 1)) (fun x hx => by
    obtain ⟨i, hi, rfl⟩ := List.getElem_of_mem hx
    simp only [List.length_take] at hi
    rw [List.getElem_take]
    have := h2 i (by omega) (by omega)
    exact befF (by unfold ltK at *; omega)) (fun x hx => by
    obtain ⟨i, hi, rfl⟩ := List.getElem_of_mem hx
    simp only [List.length_drop] at hi
    rw [List.getElem_drop]
    have a := asc_get h (show bsAt l c < bsAt l c + 1 + i by omega) (by omega)
    exact (ltK_bef _ _).2 (by unfold ltK at *; omega))
  unfold delL
  rw [this, List.set_eq_take_append_cons_drop, if_pos hk]
/-- one change, as the reference makes it -/
def rchgF (g : Gr) (c : Edg) : Gr × Int :=
  if nodeB g c.f = false ∨ nodeB g c.t = false then (zeroG, 5)
  else if c.c < 0 ∧ fndI g.es c.f c.t < 0 then (zeroG, 6)
  else if 0 ≤ c.c ∧ alwI g c ≠ 0 then (zeroG, alwI g c)
  else if 0 ≤ c.c ∧ fndI g.es c.f c.t < 0 ∧ 1024 ≤ g.es.length then (zeroG, 4)
  else (⟨g.r, g.n, if 0 ≤ c.c then putR c false (butR (fndI g.es c.f c.t) 0 g.es) else butR (fndI g.es c.f c.t) 0 g.es⟩, 0)
theorem delL_asc {l : List Edg} (h : AscK l) (i j : Nat) (hij : i ≤ j) : AscK (delL l i j) := by
  unfold delL AscK
  refine List.pairwise_append.2 ⟨h.sublist (List.take_sublist _ _), h.sublist (List.drop_sublist _ _), fun a ha b hb => ?_⟩
  obtain ⟨x, hx, rfl⟩ := List.getElem_of_mem ha
  obtain ⟨y, hy, rfl⟩ := List.getElem_of_mem hb
  simp only [List.length_take] at hx
  simp only [List.length_drop] at hy
  rw [List.getElem_take, List.getElem_drop]
  exact asc_get h (by omega) (by omega)
/-- a step of the program keeps the order, and is the reference's -/
theorem chg_eq {g : Gr} {c : Edg} (h : AscK g.es) (hl : g.es.length ≤ 1024) :
    (chgF g c).2 = (rchgF g c).2 ∧ ((chgF g c).2 = 0 → (chgF g c).1 = (rchgF g c).1 ∧ AscK (chgF g c).1.es ∧ (chgF g c).1.es.length ≤ 1024 ∧ (chgF g c).1.r = g.r ∧ (chgF g c).1.n = g.n) := by
  unfold chgF rchgF
  by_cases h1 : nodeB g c.f = false ∨ nodeB g c.t = false
  · rw [if_pos h1, if_pos h1]; exact ⟨rfl, fun h => by simp at h⟩
  · rw [if_neg h1, if_neg h1]
    by_cases h2 : c.c < 0
    · rw [if_pos h2]
      cases hh : bsHit g.es c with
      | false =>
        have := fnd_miss h c hh
        rw [if_pos rfl, if_pos ⟨h2, by rw [this]; decide⟩]; exact ⟨rfl, fun h => by simp at h⟩
      | true =>
        have hf := fnd_hit h c hh
        obtain ⟨hk, _⟩ := bsHit_true c hh
        rw [if_neg (by simp), if_neg (by rw [hf]; omega), if_neg (by omega), if_neg (by omega), if_neg (by omega), hf, but_del]
        refine ⟨rfl, fun _ => ⟨rfl, delL_asc h _ _ (by omega), ?_, rfl, rfl⟩⟩
        have := delL_len g.es (bsAt g.es c) (bsAt g.es c + 1) (by omega) (by omega)
        dsimp only; omega
    · rw [if_neg h2, if_neg (show ¬ (c.c < 0 ∧ fndI g.es c.f c.t < 0) from fun h => h2 h.1)]
      by_cases h3 : alwI g c ≠ 0
      · rw [if_pos h3, if_pos ⟨by omega, h3⟩]; exact ⟨rfl, fun h => absurd h h3⟩
      · rw [if_neg h3, if_neg (show ¬ (0 ≤ c.c ∧ alwI g c ≠ 0) from fun h => h3 h.2)]
        cases hh : bsHit g.es c with
        | true =>
          have hf := fnd_hit h c hh
          obtain ⟨hk, hkf, hkt⟩ := bsHit_true c hh
          rw [if_pos rfl, if_neg (show ¬ (0 ≤ c.c ∧ fndI g.es c.f c.t < 0 ∧ 1024 ≤ g.es.length) by rw [hf]; omega), if_pos (show 0 ≤ c.c by omega), hf, but_del, put_set h c hh]
          refine ⟨rfl, fun _ => ⟨rfl, ?_, by simpa using hl, rfl, rfl⟩⟩
          rw [List.set_eq_take_append_cons_drop, if_pos hk]
          unfold AscK
          refine List.pairwise_append.2 ⟨h.sublist (List.take_sublist _ _), List.pairwise_cons.2 ⟨fun y hy => ?_, h.sublist (List.drop_sublist _ _)⟩, fun a ha b hb => ?_⟩
          · obtain ⟨j, hj, rfl⟩ := List.getElem_of_mem hy
            simp only [List.length_drop] at hj
            rw [List.getElem_drop]
            have := asc_get h (show bsAt g.es c < bsAt g.es c + 1 + j by omega) (by omega)
            unfold ltK at *; omega
          · obtain ⟨i, hi, rfl⟩ := List.getElem_of_mem ha
            simp only [List.length_take] at hi
            rw [List.getElem_take]
            rcases List.mem_cons.1 hb with rfl | hb
            · have := asc_get h (show i < bsAt g.es b by omega) hk
              unfold ltK at *; omega
            · obtain ⟨j, hj, rfl⟩ := List.getElem_of_mem hb
              simp only [List.length_drop] at hj
              rw [List.getElem_drop]
              exact asc_get h (by omega) (by omega)
        | false =>
          have hf := fnd_miss h c hh
          have hno := bsHit_false h c hh
          have hp := put_ins h c hh
          obtain ⟨q1, q2⟩ := putR_spec c g.es h hno
          rw [if_neg (by simp)]
          by_cases h4 : g.es.length = 1024
          · rw [if_pos h4, if_pos ⟨by omega, by rw [hf]; decide, by omega⟩]; exact ⟨rfl, fun h => by simp at h⟩
          · rw [if_neg h4, if_neg (show ¬ (0 ≤ c.c ∧ fndI g.es c.f c.t < 0 ∧ 1024 ≤ g.es.length) from fun h => by omega), if_pos (show 0 ≤ c.c by omega), hf, butR_neg _ _ _ (by decide), hp]
            refine ⟨rfl, fun _ => ⟨rfl, by rw [hp] at q1; exact q1, ?_, rfl, rfl⟩⟩
            have := insL_len g.es (bsAt g.es c) c (bsAt_spec h c).1
            dsimp only; omega
def appL (g : Gr) : List Edg → Gr × Int
  | [] => (g, 0)
  | c :: cs => if (chgF g c).2 ≠ 0 then (zeroG, (chgF g c).2) else appL (chgF g c).1 cs
def rappL (g : Gr) : List Edg → Gr × Int
  | [] => (g, 0)
  | c :: cs => if (rchgF g c).2 ≠ 0 then (zeroG, (rchgF g c).2) else rappL (rchgF g c).1 cs
theorem app_eq : ∀ (cs : List Edg) (g : Gr), AscK g.es → g.es.length ≤ 1024 → appL g cs = rappL g cs
  | [], g, _, _ => rfl
  | c :: cs, g, h, hl => by
    obtain ⟨h1, h2⟩ := chg_eq (c := c) h hl
    simp only [appL, rappL]
    rw [← h1]
    by_cases hz : (chgF g c).2 = 0
    · obtain ⟨e, ha, hn, _, _⟩ := h2 hz
      rw [if_neg (by simp [hz]), if_neg (by simp [hz]), ← e]
      exact app_eq cs _ ha hn
    · rw [if_pos hz, if_pos hz]
def applyF (g : Gr) (cs : List Edg) : Gr × Int := if checkI g ≠ 0 then (zeroG, checkI g) else appL g cs
theorem applyF_eq (g : Gr) (cs : List Edg) : applyF g cs = if checkI g ≠ 0 then (zeroG, checkI g) else rappL g cs := by
  unfold applyF
  by_cases h : checkI g = 0
  · rw [if_neg (by simp [h]), if_neg (by simp [h])]
    exact app_eq cs g (check_asc h) (checkI_ok h).2.1
  · rw [if_pos h, if_pos h]
end Go.Pl
namespace Go.Pl
open Go Go.RT
set_option linter.all false
theorem chkL_of {g : Gr} : ∀ (l : List Edg) (p : Option Edg), (∀ e ∈ l, alwI g e = 0) → AscK l → (∀ q, p = some q → ∀ e ∈ l, ltK q e) → chkL g p l = 0
  | [], _, _, _, _ => rfl
  | x :: l, p, h, ha, hp => by
    obtain ⟨a1, a2⟩ := List.pairwise_cons.1 ha
    simp only [chkL]
    rw [if_neg (by rw [h x (by simp)]; simp), if_neg ?_]
    · exact chkL_of l _ (fun e he => h e (by simp [he])) a2 fun q hq e he => by cases hq; exact a1 e he
    · cases p with
      | none => simp [badP]
      | some q =>
        have := (ltK_bef q x).2 (hp q rfl x (by simp))
        simp [badP, this]
def cutE (l : List Edg) (k : Nat) : List Edg := l.take k ++ l.drop (k + 1)
theorem cutE_sub {l : List Edg} {k : Nat} : (cutE l k).Sublist l := by
  have h1 := (List.Sublist.refl (l.take k)).append (List.drop_sublist 1 (l.drop k))
  rw [List.drop_drop, List.take_append_drop] at h1
  exact h1
theorem check_cut {g : Gr} (h : checkI g = 0) (k : Nat) : checkI ⟨g.r, g.n, cutE g.es k⟩ = 0 := by
  obtain ⟨⟨h1, h2, h3⟩, h4, h5⟩ := checkI_ok h
  have hl := (cutE_sub (l := g.es) (k := k)).length_le
  have hal := chkL_alw _ _ h5
  have hc := chkL_of (g := ⟨g.r, g.n, cutE g.es k⟩) (cutE g.es k) none (fun e he => hal e (cutE_sub.subset he)) ((check_asc h).sublist cutE_sub) (fun q hq => by cases hq)
  unfold checkI
  have hs : sizeI ⟨g.r, g.n, cutE g.es k⟩ = 0 := by
    unfold sizeI
    rw [if_neg (by dsimp only; omega), if_neg (by dsimp only; omega)]
  rw [if_neg (by rw [hs]; simp)]; exact hc
theorem RunOk.smaller {g g' : Gr} {a : Nat} {t t' : Tr} (h : RunOk g a t) (h' : RunOk g' a t') (hm : g'.m = g.m) (hs : ∀ e ∈ g'.es, e ∈ g.es) {v : Nat} (hv : v < g.m) (h0 : 0 ≤ gt0 t'.dist v) : 0 ≤ gt0 t.dist v ∧ gt0 t.dist v ≤ gt0 t'.dist v := by
  rcases (h'.dist v (by show v < g'.m; omega)).cases h'.vg with ⟨h1, _⟩ | ⟨_, w, _⟩
  · omega
  · have w2 := w.mono hs
    rcases (h.dist v hv).cases h.vg with ⟨_, h2⟩ | ⟨h3, _, h4⟩
    · exact absurd w2 (h2 _)
    · exact ⟨h3, h4 _ w2⟩
end Go.Pl
namespace Go.Proofs.Ytgbfkpcigipniaa
open Go Go.RT Go.Proofs Go.Pl
set_option linter.all false
set_option maxRecDepth 20000
set_option maxHeartbeats 4000000
theorem smaller_law (g : Gr) (a k : Int) (hok : okG g) : Pure Try.prog 7 [.agg (encG g), If .i64 a, If .i64 k] (Bf true) := by
  by_cases hg : checkI g = 0
  · by_cases ha : a < 0 ∨ g.r ≤ a
    · have hr := run_out g a hok hg ha
      have hlen := (checkI_ok hg).2.1
      refine Meets.intro Try.func7 rfl (Nat.le_of_ble_eq_true rfl) fun C hC => ?_
      simp only [List.map, argEnv, Nat.reduceAdd]
      refine nK ?_
      refine s_reg rfl ?_
      first | refine Run.eff (dd := some 3) rfl rfl (op_box_flat rfl (Opd.tmp _ _ rfl) tC rfl) ?_ | refine Run.eff (dd := some 3) rfl rfl (op_box_refs rfl (Opd.tmp _ _ rfl) tP rfl) ?_
      first | refine Run.pure (dd := some 6) rfl rfl (op_assign rfl (Opd.const _)) ?_ | refine Run.pure (dd := some 6) rfl rfl (op_junk (.inr rfl)) ?_
      refine Run.nil (FinR.mk ?_)
      refine nK ?_
      refine s_reg rfl ?_
      first | refine Run.load (dd := some 14) rfl rfl (op_loadw_flat rfl (Opd.tmp _ _ rfl) tH rfl) ?_ | refine Run.pure (dd := some 14) rfl rfl (op_loadw_fz rfl (Opd.tmp _ _ rfl) rfl) ?_ | refine Run.load (dd := some 14) rfl rfl (op_loadn_flat rfl (Opd.tmp _ _ rfl) tH tR tR) ?_ | refine Run.pure (dd := some 14) rfl rfl (op_loadn_fz rfl (Opd.tmp _ _ rfl) tR) ?_ | refine Run.load (dd := some 14) rfl rfl (op_loadn_refs rfl (Opd.tmp _ _ rfl) tH tR tR) ?_
      first | refine Run.pure (dd := some 15) rfl rfl (op_move rfl (Opd.tmp _ _ rfl)) ?_ | refine Run.pure (dd := some 15) rfl rfl (op_junk (.inl rfl)) ?_
      refine Run.pure (dd := some 16) rfl rfl (op_call_pure (fun _ => hr) rfl (Opd.func _) (Opds.cons _ _ _ _ (Opd.tmp _ _ rfl) (Opds.cons _ _ _ _ (Opd.tmp _ _ rfl) Opds.nil))) ?_
      first | refine Run.pure (dd := some 13) rfl rfl (op_move rfl (Opd.tmp _ _ rfl)) ?_ | refine Run.pure (dd := some 13) rfl rfl (op_junk (.inl rfl)) ?_
      first | refine Run.pure (dd := some 17) rfl rfl (op_extract_fz rfl (Opd.tmp _ _ rfl) rfl) ?_ | refine Run.pure (dd := some 17) rfl rfl (op_extract rfl (Opd.tmp _ _ rfl) rfl) ?_
      first | refine Run.pure (dd := some 18) rfl rfl (op_extract_fz rfl (Opd.tmp _ _ rfl) rfl) ?_ | refine Run.pure (dd := some 18) rfl rfl (op_extract rfl (Opd.tmp _ _ rfl) rfl) ?_
      refine Run.eff (dd := some 7) rfl rfl (op_alloc rfl rfl rfl rfl) ?_
      first | refine Run.eff (dd := none) rfl rfl (op_store_flat rfl (Opd.tmp _ _ rfl) (Opd.tmp _ _ rfl) tC rfl rfl (by first | rfl | assumption) tS) ?_ | refine Run.eff (dd := none) rfl rfl (op_store_refs rfl (Opd.tmp _ _ rfl) (Opd.tmp _ _ rfl) tP rfl rfl rfl tS) ?_
      first | refine Run.pure (dd := some 8) rfl rfl (op_assign rfl (Opd.tmp _ _ rfl)) ?_ | refine Run.pure (dd := some 8) rfl rfl (op_junk (.inr rfl)) ?_
      refine Run.nil (FinR.mk ?_)
      refine nK ?_
      refine s_reg rfl ?_
      first | refine Run.pure (dd := some 19) rfl rfl (op_move rfl (Opd.tmp _ _ rfl)) ?_ | refine Run.pure (dd := some 19) rfl rfl (op_junk (.inl rfl)) ?_
      refine Run.pure (dd := some 20) rfl rfl (op_neq rfl (Opd.tmp _ _ rfl) (Opd.const _)) ?_
      first | refine Run.pure (dd := some 21) rfl rfl (op_move rfl (Opd.tmp _ _ rfl)) ?_ | refine Run.pure (dd := some 21) rfl rfl (op_junk (.inl rfl)) ?_
      first | refine Run.pureG (dd := some 22) rfl rfl rfl tG (op_move rfl (Opd.tmp _ _ rfl)) ?_ | refine Run.pureG (dd := some 22) rfl rfl rfl tG (op_junk (.inl rfl)) ?_
      refine Run.pureG (dd := some 23) rfl rfl rfl tG (op_lss rfl (Opd.topt _ _ _ rfl tO) (Opd.const _)) ?_
      refine Run.pure (dd := some 24) rfl rfl (op_pick_or rfl (Opd.tmp _ _ rfl) (Opd.topt _ _ _ rfl tO)) ?_
      first | refine Run.pure (dd := some 25) rfl rfl (op_move rfl (Opd.tmp _ _ rfl)) ?_ | refine Run.pure (dd := some 25) rfl rfl (op_junk (.inl rfl)) ?_
      first | refine Run.pureG (dd := some 26) rfl rfl rfl tG (op_move rfl (Opd.tmp _ _ rfl)) ?_ | refine Run.pureG (dd := some 26) rfl rfl rfl tG (op_junk (.inl rfl)) ?_
      first | refine Run.pureG (dd := some 27) rfl rfl rfl tG (op_fld_ptr (by decide) rfl (Opd.tmp _ _ rfl)) ?_ | refine Run.pureG (dd := some 27) rfl rfl rfl tG (op_fld_fz (by decide) rfl (Opd.tmp _ _ rfl) tR) ?_
      first | refine Run.loadG (dd := some 28) rfl rfl rfl tG (op_load1_flat rfl (Opd.topt _ _ _ rfl tO) tH rfl) ?_ | refine Run.pureG (dd := some 28) rfl rfl rfl tG (op_load1_fz rfl (Opd.topt _ _ _ rfl tO) rfl) ?_ | refine Run.loadG (dd := some 28) rfl rfl rfl tG (op_load1_refs rfl (Opd.topt _ _ _ rfl tO) tH rfl) ?_
      first | refine Run.pureG (dd := some 29) rfl rfl rfl tG (op_len_fz rfl (by first | exact Opd.topt _ _ _ rfl tO | exact Opd.nil _ _ (Opd.topt _ _ _ rfl tO)) (by first | exact List.length_map _ | rfl)) ?_ | refine Run.pureG (dd := some 29) rfl rfl rfl tG (op_len_sl rfl (Opd.topt _ _ _ rfl tO)) ?_
      refine Run.pureG (dd := some 30) rfl rfl rfl tG (op_geq rfl (Opd.topt _ _ _ rfl tO) (Opd.topt _ _ _ rfl tO)) ?_
      refine Run.pure (dd := some 31) rfl rfl (op_pick_or rfl (Opd.tmp _ _ rfl) (Opd.topt _ _ _ rfl tO)) ?_
      refine Run.nil (FinR.mk ?_)
      refine nK ?_
      refine n_cond _ rfl (fun hb => ?_) (fun hb => ?_)
      · refine nK ?_
        refine s_reg rfl ?_
        refine Run.pure (dd := some 32) rfl rfl (op_call_pure (fun _ => lives_c) rfl (Opd.func _) Opds.nil) ?_
        first | refine Run.pure (dd := some 6) rfl rfl (op_assign rfl (Opd.tmp _ _ rfl)) ?_ | refine Run.pure (dd := some 6) rfl rfl (op_junk (.inr rfl)) ?_
        refine Run.nil (FinR.mk ?_)
        refine nK ?_
        (first | exact s_o1 hC rfl tV | exact s_o2 hC rfl tV tV | exact s_o3 hC rfl tV tV tV | exact s_out0 hC rfl | exact s_outO hC rfl rfl rfl)
      · exact absurd hb (by simp)
    · obtain ⟨n, rfl⟩ : ∃ n : Nat, a = n := ⟨a.toNat, by omega⟩
      obtain ⟨t, ht⟩ := run_exists hg (a := n) (by omega)
      have hr := run_c g n t hok ht
      have hlen := (checkI_ok hg).2.1
      refine Meets.intro Try.func7 rfl (Nat.le_of_ble_eq_true rfl) fun C hC => ?_
      simp only [List.map, argEnv, Nat.reduceAdd]
      refine nK ?_
      refine s_reg rfl ?_
      first | refine Run.eff (dd := some 3) rfl rfl (op_box_flat rfl (Opd.tmp _ _ rfl) tC rfl) ?_ | refine Run.eff (dd := some 3) rfl rfl (op_box_refs rfl (Opd.tmp _ _ rfl) tP rfl) ?_
      first | refine Run.pure (dd := some 6) rfl rfl (op_assign rfl (Opd.const _)) ?_ | refine Run.pure (dd := some 6) rfl rfl (op_junk (.inr rfl)) ?_
      refine Run.nil (FinR.mk ?_)
      refine nK ?_
      refine s_reg rfl ?_
      first | refine Run.load (dd := some 14) rfl rfl (op_loadw_flat rfl (Opd.tmp _ _ rfl) tH rfl) ?_ | refine Run.pure (dd := some 14) rfl rfl (op_loadw_fz rfl (Opd.tmp _ _ rfl) rfl) ?_ | refine Run.load (dd := some 14) rfl rfl (op_loadn_flat rfl (Opd.tmp _ _ rfl) tH tR tR) ?_ | refine Run.pure (dd := some 14) rfl rfl (op_loadn_fz rfl (Opd.tmp _ _ rfl) tR) ?_ | refine Run.load (dd := some 14) rfl rfl (op_loadn_refs rfl (Opd.tmp _ _ rfl) tH tR tR) ?_
      first | refine Run.pure (dd := some 15) rfl rfl (op_move rfl (Opd.tmp _ _ rfl)) ?_ | refine Run.pure (dd := some 15) rfl rfl (op_junk (.inl rfl)) ?_
      refine Run.pure (dd := some 16) rfl rfl (op_call_pure (fun _ => hr) rfl (Opd.func _) (Opds.cons _ _ _ _ (Opd.tmp _ _ rfl) (Opds.cons _ _ _ _ (Opd.tmp _ _ rfl) Opds.nil))) ?_
      first | refine Run.pure (dd := some 13) rfl rfl (op_move rfl (Opd.tmp _ _ rfl)) ?_ | refine Run.pure (dd := some 13) rfl rfl (op_junk (.inl rfl)) ?_
      first | refine Run.pure (dd := some 17) rfl rfl (op_extract_fz rfl (Opd.tmp _ _ rfl) rfl) ?_ | refine Run.pure (dd := some 17) rfl rfl (op_extract rfl (Opd.tmp _ _ rfl) rfl) ?_
      first | refine Run.pure (dd := some 18) rfl rfl (op_extract_fz rfl (Opd.tmp _ _ rfl) rfl) ?_ | refine Run.pure (dd := some 18) rfl rfl (op_extract rfl (Opd.tmp _ _ rfl) rfl) ?_
      refine Run.eff (dd := some 7) rfl rfl (op_alloc rfl rfl rfl rfl) ?_
      first | refine Run.eff (dd := none) rfl rfl (op_store_flat rfl (Opd.tmp _ _ rfl) (Opd.tmp _ _ rfl) tC rfl rfl (by first | rfl | assumption) tS) ?_ | refine Run.eff (dd := none) rfl rfl (op_store_refs rfl (Opd.tmp _ _ rfl) (Opd.tmp _ _ rfl) tP rfl rfl rfl tS) ?_
      first | refine Run.pure (dd := some 8) rfl rfl (op_assign rfl (Opd.tmp _ _ rfl)) ?_ | refine Run.pure (dd := some 8) rfl rfl (op_junk (.inr rfl)) ?_
      refine Run.nil (FinR.mk ?_)
      refine nK ?_
      refine s_reg rfl ?_
      first | refine Run.pure (dd := some 19) rfl rfl (op_move rfl (Opd.tmp _ _ rfl)) ?_ | refine Run.pure (dd := some 19) rfl rfl (op_junk (.inl rfl)) ?_
      refine Run.pure (dd := some 20) rfl rfl (op_neq rfl (Opd.tmp _ _ rfl) (Opd.const _)) ?_
      first | refine Run.pure (dd := some 21) rfl rfl (op_move rfl (Opd.tmp _ _ rfl)) ?_ | refine Run.pure (dd := some 21) rfl rfl (op_junk (.inl rfl)) ?_
      first | refine Run.pureG (dd := some 22) rfl rfl rfl tG (op_move rfl (Opd.tmp _ _ rfl)) ?_ | refine Run.pureG (dd := some 22) rfl rfl rfl tG (op_junk (.inl rfl)) ?_
      refine Run.pureG (dd := some 23) rfl rfl rfl tG (op_lss rfl (Opd.topt _ _ _ rfl tO) (Opd.const _)) ?_
      refine Run.pure (dd := some 24) rfl rfl (op_pick_or rfl (Opd.tmp _ _ rfl) (Opd.topt _ _ _ rfl tO)) ?_
      first | refine Run.pure (dd := some 25) rfl rfl (op_move rfl (Opd.tmp _ _ rfl)) ?_ | refine Run.pure (dd := some 25) rfl rfl (op_junk (.inl rfl)) ?_
      first | refine Run.pureG (dd := some 26) rfl rfl rfl tG (op_move rfl (Opd.tmp _ _ rfl)) ?_ | refine Run.pureG (dd := some 26) rfl rfl rfl tG (op_junk (.inl rfl)) ?_
      first | refine Run.pureG (dd := some 27) rfl rfl rfl tG (op_fld_ptr (by decide) rfl (Opd.tmp _ _ rfl)) ?_ | refine Run.pureG (dd := some 27) rfl rfl rfl tG (op_fld_fz (by decide) rfl (Opd.tmp _ _ rfl) tR) ?_
      first | refine Run.loadG (dd := some 28) rfl rfl rfl tG (op_load1_flat rfl (Opd.topt _ _ _ rfl tO) tH rfl) ?_ | refine Run.pureG (dd := some 28) rfl rfl rfl tG (op_load1_fz rfl (Opd.topt _ _ _ rfl tO) rfl) ?_ | refine Run.loadG (dd := some 28) rfl rfl rfl tG (op_load1_refs rfl (Opd.topt _ _ _ rfl tO) tH rfl) ?_
      first | refine Run.pureG (dd := some 29) rfl rfl rfl tG (op_len_fz rfl (by first | exact Opd.topt _ _ _ rfl tO | exact Opd.nil _ _ (Opd.topt _ _ _ rfl tO)) (by first | exact List.length_map _ | rfl)) ?_ | refine Run.pureG (dd := some 29) rfl rfl rfl tG (op_len_sl rfl (Opd.topt _ _ _ rfl tO)) ?_
      refine Run.pureG (dd := some 30) rfl rfl rfl tG (op_geq rfl (Opd.topt _ _ _ rfl tO) (Opd.topt _ _ _ rfl tO)) ?_
      refine Run.pure (dd := some 31) rfl rfl (op_pick_or rfl (Opd.tmp _ _ rfl) (Opd.topt _ _ _ rfl tO)) ?_
      refine Run.nil (FinR.mk ?_)
      refine nK ?_
      refine n_cond _ rfl (fun hb => ?_) (fun hb => ?_)
      · refine nK ?_
        refine s_reg rfl ?_
        refine Run.pure (dd := some 32) rfl rfl (op_call_pure (fun _ => lives_c) rfl (Opd.func _) Opds.nil) ?_
        first | refine Run.pure (dd := some 6) rfl rfl (op_assign rfl (Opd.tmp _ _ rfl)) ?_ | refine Run.pure (dd := some 6) rfl rfl (op_junk (.inr rfl)) ?_
        refine Run.nil (FinR.mk ?_)
        refine nK ?_
        (first | exact s_o1 hC rfl tV | exact s_o2 hC rfl tV tV | exact s_o3 hC rfl tV tV tV | exact s_out0 hC rfl | exact s_outO hC rfl rfl rfl)
      · have hk : 0 ≤ k ∧ k < g.es.length := by simp at hb; omega
        obtain ⟨j, rfl⟩ : ∃ j : Nat, k = j := ⟨k.toNat, by omega⟩
        clear hb
        have hg' := check_cut hg j
        have hok' : okG ⟨g.r, g.n, cutE g.es j⟩ := ⟨hok.1, hok.2.1, fun e he => hok.2.2 e (cutE_sub.subset he)⟩
        obtain ⟨t', ht'⟩ := run_exists hg' (a := n) (by show (n : Int) < g.r; omega)
        have hr' := run_c _ n t' hok' ht'
        have hsm := fun v hv => ht.smaller ht' rfl (fun e he => cutE_sub.subset he) (v := v) hv
        have hdl : t.dist.length = g.m := ht.dl
        have hdl' : t'.dist.length = g.m := ht'.dl
        have h128 := ht.vg.n128
        change g.m ≤ 128 at h128
        have htl : (g.es.take j).length = j := by simp; omega
        have hdp : (g.es.drop (j + 1)).length = g.es.length - (j + 1) := List.length_drop
        refine nK ?_
        refine s_reg rfl ?_
        refine Run.eff (dd := some 33) rfl rfl (op_buildSlice_own rfl (RowsF.nil _) rfl rfl rfl) ?_
        first | refine Run.pure (dd := some 34) rfl rfl (op_fld_ptr (by decide) rfl (Opd.tmp _ _ rfl)) ?_ | refine Run.pure (dd := some 34) rfl rfl (op_fld_fz (by decide) rfl (Opd.tmp _ _ rfl) tR) ?_
        first | refine Run.load (dd := some 35) rfl rfl (op_load1_flat rfl (Opd.tmp _ _ rfl) tH rfl) ?_ | refine Run.pure (dd := some 35) rfl rfl (op_load1_fz rfl (Opd.tmp _ _ rfl) rfl) ?_ | refine Run.load (dd := some 35) rfl rfl (op_load1_refs rfl (Opd.tmp _ _ rfl) tH rfl) ?_
        first | refine Run.pure (dd := some 36) rfl rfl (op_move rfl (Opd.tmp _ _ rfl)) ?_ | refine Run.pure (dd := some 36) rfl rfl (op_junk (.inl rfl)) ?_
        refine Run.pure (dd := some 37) rfl rfl (op_slice_fz (l := 0) (h := j) (rs := (g.es.take j).map encE) rfl (Opd.tmp _ _ rfl) (Bnd.no _) (Bnd.yes _ _ _ _ _ (Opd.tmp _ _ rfl) (by intro _; rfl)) (by intro _; exact ⟨Nat.zero_le _, by simp; omega, by simp [List.map_take]⟩)) ?_
        first | refine Run.eff (dd := some 38) rfl rfl (op_append_own0 rfl (Opd.tmp _ _ rfl) (Opd.tmp _ _ rfl) rfl (by first | rfl | simp) rfl (by first | rfl | simp) rfl rfl tB tB) ?_ | refine Run.eff (dd := some 38) rfl rfl (op_append rfl (Opd.tmp _ _ rfl) (by first | exact Opd.tmp _ _ rfl | exact Opd.nil _ _ (Opd.tmp _ _ rfl)) rfl (by first | rfl | simp) rfl rfl tB tB) ?_
        first | refine Run.pure (dd := some 9) rfl rfl (op_assign rfl (Opd.tmp _ _ rfl)) ?_ | refine Run.pure (dd := some 9) rfl rfl (op_junk (.inr rfl)) ?_
        refine Run.nil (FinR.mk ?_)
        refine nK ?_
        refine s_reg rfl ?_
        first | refine Run.pure (dd := some 39) rfl rfl (op_move rfl (Opd.tmp _ _ rfl)) ?_ | refine Run.pure (dd := some 39) rfl rfl (op_junk (.inl rfl)) ?_
        first | refine Run.pure (dd := some 40) rfl rfl (op_fld_ptr (by decide) rfl (Opd.tmp _ _ rfl)) ?_ | refine Run.pure (dd := some 40) rfl rfl (op_fld_fz (by decide) rfl (Opd.tmp _ _ rfl) tR) ?_
        first | refine Run.load (dd := some 41) rfl rfl (op_load1_flat rfl (Opd.tmp _ _ rfl) tH rfl) ?_ | refine Run.pure (dd := some 41) rfl rfl (op_load1_fz rfl (Opd.tmp _ _ rfl) rfl) ?_ | refine Run.load (dd := some 41) rfl rfl (op_load1_refs rfl (Opd.tmp _ _ rfl) tH rfl) ?_
        first | refine Run.pure (dd := some 42) rfl rfl (op_move rfl (Opd.tmp _ _ rfl)) ?_ | refine Run.pure (dd := some 42) rfl rfl (op_junk (.inl rfl)) ?_
        refine Run.pure (dd := some 43) rfl rfl (op_add rfl (Opd.tmp _ _ rfl) (Opd.const _) tI) ?_
        refine Run.pure (dd := some 44) rfl rfl (op_slice_fz (l := j + 1) (h := (g.es.map encE).length) (rs := (g.es.drop (j + 1)).map encE) rfl (Opd.tmp _ _ rfl) (Bnd.yes _ _ _ _ _ (Opd.tmp _ _ rfl) (by intro _; omega)) (Bnd.no _) (by intro _; exact ⟨by rw [List.length_map]; omega, Nat.le_refl _, by rw [← List.map_drop, List.take_of_length_le (by simp)]⟩)) ?_
        first | refine Run.eff (dd := some 45) rfl rfl (op_append_own0 rfl (Opd.tmp _ _ rfl) (Opd.tmp _ _ rfl) rfl (by first | rfl | simp) rfl (by first | rfl | simp) rfl rfl tB tB) ?_ | refine Run.eff (dd := some 45) rfl rfl (op_append rfl (Opd.tmp _ _ rfl) (by first | exact Opd.tmp _ _ rfl | exact Opd.nil _ _ (Opd.tmp _ _ rfl)) rfl (by first | rfl | simp) rfl rfl tB tB) ?_
        first | refine Run.pure (dd := some 9) rfl rfl (op_assign rfl (Opd.tmp _ _ rfl)) ?_ | refine Run.pure (dd := some 9) rfl rfl (op_junk (.inr rfl)) ?_
        refine Run.nil (FinR.mk ?_)
        refine nK ?_
        refine Next.weakS [3, 7] [9] (by rfl) (keepsN hC _ rfl) (G' := [(1, IV .i64 n), (3, .ptr 0 3 0 0), (7, .ptr 1 4 0 0), (9, .fz (VE (cutE g.es j)))]) (H' := [(0, OG g), (1, OTr t)]) (by exact ⟨⟨_, rfl, .inl ⟨rfl, rfl⟩⟩, ⟨_, rfl, .inl ⟨rfl, rfl⟩⟩, ⟨_, rfl, .inl ⟨rfl, rfl⟩⟩, ⟨_, rfl, .inr ⟨_, rfl, .sl _ _ _ _ _ _ rfl rfl ((take_all0 (by simp)).trans (by simp [cutE])) (by simp [cutE])⟩⟩, trivial⟩) (by exact ⟨ent_same rfl rfl rfl tL, ⟨ent_same rfl rfl rfl tL, trivial⟩⟩) rfl ?_
        refine nK ?_
        refine s_reg rfl ?_
        first | refine Run.pure (dd := some 47) rfl rfl (op_fld_ptr (by decide) rfl (Opd.tmp _ _ rfl)) ?_ | refine Run.pure (dd := some 47) rfl rfl (op_fld_fz (by decide) rfl (Opd.tmp _ _ rfl) tR) ?_
        first | refine Run.load (dd := some 48) rfl rfl (op_load1_flat rfl (Opd.tmp _ _ rfl) tH rfl) ?_ | refine Run.pure (dd := some 48) rfl rfl (op_load1_fz rfl (Opd.tmp _ _ rfl) rfl) ?_ | refine Run.load (dd := some 48) rfl rfl (op_load1_refs rfl (Opd.tmp _ _ rfl) tH rfl) ?_
        first | refine Run.pure (dd := some 49) rfl rfl (op_fld_ptr (by decide) rfl (Opd.tmp _ _ rfl)) ?_ | refine Run.pure (dd := some 49) rfl rfl (op_fld_fz (by decide) rfl (Opd.tmp _ _ rfl) tR) ?_
        first | refine Run.load (dd := some 50) rfl rfl (op_load1_flat rfl (Opd.tmp _ _ rfl) tH rfl) ?_ | refine Run.pure (dd := some 50) rfl rfl (op_load1_fz rfl (Opd.tmp _ _ rfl) rfl) ?_ | refine Run.load (dd := some 50) rfl rfl (op_load1_refs rfl (Opd.tmp _ _ rfl) tH rfl) ?_
        first | refine Run.pure (dd := some 51) rfl rfl (op_move rfl (Opd.tmp _ _ rfl)) ?_ | refine Run.pure (dd := some 51) rfl rfl (op_junk (.inl rfl)) ?_
        first | refine Run.pure (dd := some 52) rfl rfl (op_build rfl rfl rfl (FillF.cons _ _ _ _ _ _ _ _ _ _ (by rfl) (Opd.tmp _ _ rfl) tC (by rfl) tR (FillF.cons _ _ _ _ _ _ _ _ _ _ (by rfl) (Opd.tmp _ _ rfl) tC (by rfl) tR (FillF.cons _ _ _ _ _ _ _ _ _ _ (by rfl) (Opd.tmp _ _ rfl) tC (by rfl) tR (FillF.nil _))))) ?_ | refine Run.pure (dd := some 52) rfl rfl (op_buildP rfl rfl rfl rfl (FillP.cons _ _ _ _ _ _ _ _ _ _ (by rfl) (Opd.tmp _ _ rfl) tP (by rfl) tR (FillP.cons _ _ _ _ _ _ _ _ _ _ (by rfl) (Opd.tmp _ _ rfl) tP (by rfl) tR (FillP.cons _ _ _ _ _ _ _ _ _ _ (by rfl) (Opd.tmp _ _ rfl) tP (by rfl) tR (FillP.nil _))))) ?_
        first | refine Run.pure (dd := some 53) rfl rfl (op_move rfl (Opd.tmp _ _ rfl)) ?_ | refine Run.pure (dd := some 53) rfl rfl (op_junk (.inl rfl)) ?_
        refine Run.pure (dd := some 54) rfl rfl (op_call_pure (fun _ => hr') rfl (Opd.func _) (Opds.cons _ _ _ _ (Opd.tmp _ _ rfl) (Opds.cons _ _ _ _ (Opd.tmp _ _ rfl) Opds.nil))) ?_
        first | refine Run.pure (dd := some 46) rfl rfl (op_move rfl (Opd.tmp _ _ rfl)) ?_ | refine Run.pure (dd := some 46) rfl rfl (op_junk (.inl rfl)) ?_
        first | refine Run.pure (dd := some 55) rfl rfl (op_extract_fz rfl (Opd.tmp _ _ rfl) rfl) ?_ | refine Run.pure (dd := some 55) rfl rfl (op_extract rfl (Opd.tmp _ _ rfl) rfl) ?_
        first | refine Run.pure (dd := some 56) rfl rfl (op_extract_fz rfl (Opd.tmp _ _ rfl) rfl) ?_ | refine Run.pure (dd := some 56) rfl rfl (op_extract rfl (Opd.tmp _ _ rfl) rfl) ?_
        refine Run.eff (dd := some 10) rfl rfl (op_alloc rfl rfl rfl rfl) ?_
        first | refine Run.eff (dd := none) rfl rfl (op_store_flat rfl (Opd.tmp _ _ rfl) (Opd.tmp _ _ rfl) tC rfl rfl (by first | rfl | assumption) tS) ?_ | refine Run.eff (dd := none) rfl rfl (op_store_refs rfl (Opd.tmp _ _ rfl) (Opd.tmp _ _ rfl) tP rfl rfl rfl tS) ?_
        first | refine Run.pure (dd := some 11) rfl rfl (op_assign rfl (Opd.tmp _ _ rfl)) ?_ | refine Run.pure (dd := some 11) rfl rfl (op_junk (.inr rfl)) ?_
        refine Run.nil (FinR.mk ?_)
        refine nK ?_
        refine s_reg rfl ?_
        first | refine Run.pure (dd := some 57) rfl rfl (op_move rfl (Opd.tmp _ _ rfl)) ?_ | refine Run.pure (dd := some 57) rfl rfl (op_junk (.inl rfl)) ?_
        refine Run.pure (dd := some 58) rfl rfl (op_neq rfl (Opd.tmp _ _ rfl) (Opd.const _)) ?_
        first | refine Run.pure (dd := some 59) rfl rfl (op_move rfl (Opd.tmp _ _ rfl)) ?_ | refine Run.pure (dd := some 59) rfl rfl (op_junk (.inl rfl)) ?_
        first | refine Run.pureG (dd := some 60) rfl rfl rfl tG (op_fld_ptr (by decide) rfl (Opd.tmp _ _ rfl)) ?_ | refine Run.pureG (dd := some 60) rfl rfl rfl tG (op_fld_fz (by decide) rfl (Opd.tmp _ _ rfl) tR) ?_
        first | refine Run.loadG (dd := some 61) rfl rfl rfl tG (op_load1_flat rfl (Opd.topt _ _ _ rfl tO) tH rfl) ?_ | refine Run.pureG (dd := some 61) rfl rfl rfl tG (op_load1_fz rfl (Opd.topt _ _ _ rfl tO) rfl) ?_ | refine Run.loadG (dd := some 61) rfl rfl rfl tG (op_load1_refs rfl (Opd.topt _ _ _ rfl tO) tH rfl) ?_
        first | refine Run.pureG (dd := some 62) rfl rfl rfl tG (op_len_fz rfl (by first | exact Opd.topt _ _ _ rfl tO | exact Opd.nil _ _ (Opd.topt _ _ _ rfl tO)) (by first | exact List.length_map _ | rfl)) ?_ | refine Run.pureG (dd := some 62) rfl rfl rfl tG (op_len_sl rfl (Opd.topt _ _ _ rfl tO)) ?_
        first | refine Run.pureG (dd := some 63) rfl rfl rfl tG (op_fld_ptr (by decide) rfl (Opd.tmp _ _ rfl)) ?_ | refine Run.pureG (dd := some 63) rfl rfl rfl tG (op_fld_fz (by decide) rfl (Opd.tmp _ _ rfl) tR) ?_
        first | refine Run.loadG (dd := some 64) rfl rfl rfl tG (op_load1_flat rfl (Opd.topt _ _ _ rfl tO) tH rfl) ?_ | refine Run.pureG (dd := some 64) rfl rfl rfl tG (op_load1_fz rfl (Opd.topt _ _ _ rfl tO) rfl) ?_ | refine Run.loadG (dd := some 64) rfl rfl rfl tG (op_load1_refs rfl (Opd.topt _ _ _ rfl tO) tH rfl) ?_
        first | refine Run.pureG (dd := some 65) rfl rfl rfl tG (op_len_fz rfl (by first | exact Opd.topt _ _ _ rfl tO | exact Opd.nil _ _ (Opd.topt _ _ _ rfl tO)) (by first | exact List.length_map _ | rfl)) ?_ | refine Run.pureG (dd := some 65) rfl rfl rfl tG (op_len_sl rfl (Opd.topt _ _ _ rfl tO)) ?_
        refine Run.pureG (dd := some 66) rfl rfl rfl tG (op_neq rfl (Opd.topt _ _ _ rfl tO) (Opd.topt _ _ _ rfl tO)) ?_
        refine Run.pure (dd := some 67) rfl rfl (op_pick_or rfl (Opd.tmp _ _ rfl) (Opd.topt _ _ _ rfl tO)) ?_
        refine Run.nil (FinR.mk ?_)
        refine nK ?_
        refine nK ?_
        refine n_cond _ rfl (fun hb => ?_) (fun hb => ?_)
        · exact absurd hb (by simp [hdl, hdl'])
        · clear hb
          refine nK ?_
          refine s_reg rfl ?_
          first | refine Run.pure (dd := some 68) rfl rfl (op_fld_ptr (by decide) rfl (Opd.tmp _ _ rfl)) ?_ | refine Run.pure (dd := some 68) rfl rfl (op_fld_fz (by decide) rfl (Opd.tmp _ _ rfl) tR) ?_
          first | refine Run.load (dd := some 69) rfl rfl (op_load1_flat rfl (Opd.tmp _ _ rfl) tH rfl) ?_ | refine Run.pure (dd := some 69) rfl rfl (op_load1_fz rfl (Opd.tmp _ _ rfl) rfl) ?_ | refine Run.load (dd := some 69) rfl rfl (op_load1_refs rfl (Opd.tmp _ _ rfl) tH rfl) ?_
          first | refine Run.pure (dd := some 70) rfl rfl (op_len_fz rfl (by first | exact Opd.tmp _ _ rfl | exact Opd.nil _ _ (Opd.tmp _ _ rfl)) (by first | exact List.length_map _ | rfl)) ?_ | refine Run.pure (dd := some 70) rfl rfl (op_len_sl rfl (Opd.tmp _ _ rfl)) ?_
          first | refine Run.pure (dd := some 71) rfl rfl (op_move rfl (Opd.const _)) ?_ | refine Run.pure (dd := some 71) rfl rfl (op_junk (.inl rfl)) ?_
          refine Run.nil (FinR.mk ?_)
          refine nK ?_
          refine n_loop (ι := Nat) (fun i => ([(7, .ptr 0 4 0 0), (10, .ptr 1 4 0 0), (70, IV .i64 g.m), (71, IV .i64 i)], [(0, OTr t), (1, OTr t')], 2)) (fun i => i ≤ g.m) (fun i => g.m - i) 0 (Nat.zero_le _) ?_ ?_
          · refine Next.weak [1, 2] [] (by rfl) (keepsN hC _ rfl) (by repeat (first | exact trivial | refine ⟨⟨_, rfl, .inl ⟨rfl, rfl⟩⟩, ?_⟩ | refine ⟨⟨_, rfl, .inl ⟨ivEq (by first | rw [List.length_map, hdl'] | rw [hdl']), rfl⟩⟩, ?_⟩)) (by exact ⟨ent_same rfl rfl rfl tL, ⟨ent_same rfl rfl rfl tL, trivial⟩⟩) (fun _ h => by simp at h) rel_intro
          · intro v hv K hK
            try dsimp only at hv hK ⊢
            refine nK ?_
            refine s_reg rfl ?_
            refine Run.pure (dd := some 72) rfl rfl (op_lss rfl (Opd.tmp _ _ rfl) (Opd.tmp _ _ rfl)) ?_
            refine Run.nil (FinR.mk ?_)
            refine nK ?_
            refine n_cond _ rfl (fun hb => ?_) (fun hb => ?_)
            · have hlt : v < g.m := Int.ofNat_lt.1 (of_decide_eq_true hb)
              have hrv := row_of encN t.dist v 0 (by omega)
              have hru := row_of encN t'.dist v 0 (by omega)
              have hs := hsm v hlt
              have hK1 := hK (v + 1) (by omega) (by omega)
              change (t.dist.map encN)[v]? = some (encN (gt0 t.dist v)) at hrv
              change (t'.dist.map encN)[v]? = some (encN (gt0 t'.dist v)) at hru
              generalize gt0 t.dist v = dv at *
              generalize gt0 t'.dist v = du at *
              refine nK ?_
              refine s_reg rfl ?_
              first | refine Run.pure (dd := some 73) rfl rfl (op_move rfl (Opd.tmp _ _ rfl)) ?_ | refine Run.pure (dd := some 73) rfl rfl (op_junk (.inl rfl)) ?_
              first | refine Run.pure (dd := some 12) rfl rfl (op_assign rfl (Opd.tmp _ _ rfl)) ?_ | refine Run.pure (dd := some 12) rfl rfl (op_junk (.inr rfl)) ?_
              refine Run.nil (FinR.mk ?_)
              refine nK ?_
              refine s_draw mixed ?_
              first | refine Run.pure (dd := some 74) rfl rfl (op_fld_ptr (by decide) rfl (Opd.tmp _ _ rfl)) ?_ | refine Run.pure (dd := some 74) rfl rfl (op_fld_fz (by decide) rfl (Opd.tmp _ _ rfl) tR) ?_
              first | refine Run.load (dd := some 75) rfl rfl (op_load1_flat rfl (Opd.tmp _ _ rfl) tH rfl) ?_ | refine Run.pure (dd := some 75) rfl rfl (op_load1_fz rfl (Opd.tmp _ _ rfl) rfl) ?_ | refine Run.load (dd := some 75) rfl rfl (op_load1_refs rfl (Opd.tmp _ _ rfl) tH rfl) ?_
              first | refine Run.pure (dd := some 76) rfl rfl (op_move rfl (Opd.tmp _ _ rfl)) ?_ | refine Run.pure (dd := some 76) rfl rfl (op_junk (.inl rfl)) ?_
              refine Run.pure (dd := some 77) rfl rfl (op_idx_fz v rfl (Opd.tmp _ _ rfl) (Opd.tmp _ _ rfl) (by intro _; exact ⟨rfl, hru⟩)) ?_
              first | refine Run.load (dd := some 78) rfl rfl (op_load1_flat rfl (Opd.tmp _ _ rfl) tH rfl) ?_ | refine Run.pure (dd := some 78) rfl rfl (op_load1_fz rfl (Opd.tmp _ _ rfl) rfl) ?_ | refine Run.load (dd := some 78) rfl rfl (op_load1_refs rfl (Opd.tmp _ _ rfl) tH rfl) ?_
              refine Run.pure (dd := some 79) rfl rfl (op_geq rfl (Opd.tmp _ _ rfl) (Opd.const _)) ?_
              first | refine Run.pure (dd := some 80) rfl rfl (op_move rfl (Opd.tmp _ _ rfl)) ?_ | refine Run.pure (dd := some 80) rfl rfl (op_junk (.inl rfl)) ?_
              first | refine Run.pureG (dd := some 81) rfl rfl rfl tG (op_fld_ptr (by decide) rfl (Opd.tmp _ _ rfl)) ?_ | refine Run.pureG (dd := some 81) rfl rfl rfl tG (op_fld_fz (by decide) rfl (Opd.tmp _ _ rfl) tR) ?_
              first | refine Run.loadG (dd := some 82) rfl rfl rfl tG (op_load1_flat rfl (Opd.topt _ _ _ rfl tO) tH rfl) ?_ | refine Run.pureG (dd := some 82) rfl rfl rfl tG (op_load1_fz rfl (Opd.topt _ _ _ rfl tO) rfl) ?_ | refine Run.loadG (dd := some 82) rfl rfl rfl tG (op_load1_refs rfl (Opd.topt _ _ _ rfl tO) tH rfl) ?_
              first | refine Run.pureG (dd := some 83) rfl rfl rfl tG (op_move rfl (Opd.tmp _ _ rfl)) ?_ | refine Run.pureG (dd := some 83) rfl rfl rfl tG (op_junk (.inl rfl)) ?_
              refine Run.pureG (dd := some 84) rfl rfl rfl tG (op_idx_fz v rfl (Opd.topt _ _ _ rfl tO) (Opd.topt _ _ _ rfl tO) (by intro _; exact ⟨rfl, hrv⟩)) ?_
              first | refine Run.loadG (dd := some 85) rfl rfl rfl tG (op_load1_flat rfl (Opd.topt _ _ _ rfl tO) tH rfl) ?_ | refine Run.pureG (dd := some 85) rfl rfl rfl tG (op_load1_fz rfl (Opd.topt _ _ _ rfl tO) rfl) ?_ | refine Run.loadG (dd := some 85) rfl rfl rfl tG (op_load1_refs rfl (Opd.topt _ _ _ rfl tO) tH rfl) ?_
              refine Run.pureG (dd := some 86) rfl rfl rfl tG (op_lss rfl (Opd.topt _ _ _ rfl tO) (Opd.const _)) ?_
              first | refine Run.pureG (dd := some 87) rfl rfl rfl tG (op_move rfl (Opd.topt _ _ _ rfl tO)) ?_ | refine Run.pureG (dd := some 87) rfl rfl rfl tG (op_junk (.inl rfl)) ?_
              first | refine Run.pureG (dd := some 88) rfl rfl rfl tG (op_fld_ptr (by decide) rfl (Opd.tmp _ _ rfl)) ?_ | refine Run.pureG (dd := some 88) rfl rfl rfl tG (op_fld_fz (by decide) rfl (Opd.tmp _ _ rfl) tR) ?_
              first | refine Run.loadG (dd := some 89) rfl rfl rfl tG (op_load1_flat rfl (Opd.topt _ _ _ rfl tO) tH rfl) ?_ | refine Run.pureG (dd := some 89) rfl rfl rfl tG (op_load1_fz rfl (Opd.topt _ _ _ rfl tO) rfl) ?_ | refine Run.loadG (dd := some 89) rfl rfl rfl tG (op_load1_refs rfl (Opd.topt _ _ _ rfl tO) tH rfl) ?_
              first | refine Run.pureG (dd := some 90) rfl rfl rfl tG (op_move rfl (Opd.tmp _ _ rfl)) ?_ | refine Run.pureG (dd := some 90) rfl rfl rfl tG (op_junk (.inl rfl)) ?_
              refine Run.pureG (dd := some 91) rfl rfl rfl tG (op_idx_fz v rfl (Opd.topt _ _ _ rfl tO) (Opd.topt _ _ _ rfl tO) (by intro _; exact ⟨rfl, hru⟩)) ?_
              first | refine Run.loadG (dd := some 92) rfl rfl rfl tG (op_load1_flat rfl (Opd.topt _ _ _ rfl tO) tH rfl) ?_ | refine Run.pureG (dd := some 92) rfl rfl rfl tG (op_load1_fz rfl (Opd.topt _ _ _ rfl tO) rfl) ?_ | refine Run.loadG (dd := some 92) rfl rfl rfl tG (op_load1_refs rfl (Opd.topt _ _ _ rfl tO) tH rfl) ?_
              first | refine Run.pureG (dd := some 93) rfl rfl rfl tG (op_fld_ptr (by decide) rfl (Opd.tmp _ _ rfl)) ?_ | refine Run.pureG (dd := some 93) rfl rfl rfl tG (op_fld_fz (by decide) rfl (Opd.tmp _ _ rfl) tR) ?_
              first | refine Run.loadG (dd := some 94) rfl rfl rfl tG (op_load1_flat rfl (Opd.topt _ _ _ rfl tO) tH rfl) ?_ | refine Run.pureG (dd := some 94) rfl rfl rfl tG (op_load1_fz rfl (Opd.topt _ _ _ rfl tO) rfl) ?_ | refine Run.loadG (dd := some 94) rfl rfl rfl tG (op_load1_refs rfl (Opd.topt _ _ _ rfl tO) tH rfl) ?_
              first | refine Run.pureG (dd := some 95) rfl rfl rfl tG (op_move rfl (Opd.tmp _ _ rfl)) ?_ | refine Run.pureG (dd := some 95) rfl rfl rfl tG (op_junk (.inl rfl)) ?_
              refine Run.pureG (dd := some 96) rfl rfl rfl tG (op_idx_fz v rfl (Opd.topt _ _ _ rfl tO) (Opd.topt _ _ _ rfl tO) (by intro _; exact ⟨rfl, hrv⟩)) ?_
              first | refine Run.loadG (dd := some 97) rfl rfl rfl tG (op_load1_flat rfl (Opd.topt _ _ _ rfl tO) tH rfl) ?_ | refine Run.pureG (dd := some 97) rfl rfl rfl tG (op_load1_fz rfl (Opd.topt _ _ _ rfl tO) rfl) ?_ | refine Run.loadG (dd := some 97) rfl rfl rfl tG (op_load1_refs rfl (Opd.topt _ _ _ rfl tO) tH rfl) ?_
              refine Run.pureG (dd := some 98) rfl rfl rfl tG (op_lss rfl (Opd.topt _ _ _ rfl tO) (Opd.topt _ _ _ rfl tO)) ?_
              refine Run.pureG (dd := some 99) rfl rfl rfl tG (op_pick_or rfl (Opd.topt _ _ _ rfl tO) (Opd.topt _ _ _ rfl tO)) ?_
              refine Run.pure (dd := some 100) rfl rfl (op_pick_and rfl (Opd.tmp _ _ rfl) (Opd.topt _ _ _ rfl tO)) ?_
              refine Run.nil (FinD.mk (by kernel_rfl) ?_)
              refine nK ?_
              refine n_cond _ rfl (fun hb => ?_) (fun hb => ?_)
              · exfalso
                simp at hb
                have := hs (by omega)
                omega
              · refine nK ?_
                refine s_reg rfl ?_
                refine Run.pure (dd := some 101) rfl rfl (op_add rfl (Opd.tmp _ _ rfl) (Opd.const _) tI) ?_
                first | refine Run.pure (dd := some 71) rfl rfl (op_move rfl (Opd.tmp _ _ rfl)) ?_ | refine Run.pure (dd := some 71) rfl rfl (op_junk (.inl rfl)) ?_
                refine Run.nil (FinR.mk ?_)
                refine nK ?_
                refine Next.weak [0, 1] [] (by rfl) (keepsN hC _ rfl) (by repeat (first | exact trivial | refine ⟨⟨_, rfl, .inl ⟨rfl, rfl⟩⟩, ?_⟩ | refine ⟨⟨_, rfl, .inl ⟨slEq rfl tN, rfl⟩⟩, ?_⟩ | refine ⟨⟨_, rfl, .inl ⟨ivEq tX, rfl⟩⟩, ?_⟩)) (by exact ⟨ent_same rfl rfl rfl tL, ⟨ent_same rfl rfl rfl tL, trivial⟩⟩) (fun _ h => by simp at h) hK1
            · refine nK ?_
              refine s_reg rfl ?_
              refine Run.pure (dd := some 102) rfl rfl (op_call_pure (fun _ => lives_c) rfl (Opd.func _) Opds.nil) ?_
              first | refine Run.pure (dd := some 6) rfl rfl (op_assign rfl (Opd.tmp _ _ rfl)) ?_ | refine Run.pure (dd := some 6) rfl rfl (op_junk (.inr rfl)) ?_
              refine Run.nil (FinR.mk ?_)
              refine nK ?_
              (first | exact s_o1 hC rfl tV | exact s_o2 hC rfl tV tV | exact s_o3 hC rfl tV tV tV | exact s_out0 hC rfl | exact s_outO hC rfl rfl rfl)
  · have hr := run_bad g a hok hg
    refine Meets.intro Try.func7 rfl (Nat.le_of_ble_eq_true rfl) fun C hC => ?_
    simp only [List.map, argEnv, Nat.reduceAdd]
    refine nK ?_
    refine s_reg rfl ?_
    first | refine Run.eff (dd := some 3) rfl rfl (op_box_flat rfl (Opd.tmp _ _ rfl) tC rfl) ?_ | refine Run.eff (dd := some 3) rfl rfl (op_box_refs rfl (Opd.tmp _ _ rfl) tP rfl) ?_
    first | refine Run.pure (dd := some 6) rfl rfl (op_assign rfl (Opd.const _)) ?_ | refine Run.pure (dd := some 6) rfl rfl (op_junk (.inr rfl)) ?_
    refine Run.nil (FinR.mk ?_)
    refine nK ?_
    refine s_reg rfl ?_
    first | refine Run.load (dd := some 14) rfl rfl (op_loadw_flat rfl (Opd.tmp _ _ rfl) tH rfl) ?_ | refine Run.pure (dd := some 14) rfl rfl (op_loadw_fz rfl (Opd.tmp _ _ rfl) rfl) ?_ | refine Run.load (dd := some 14) rfl rfl (op_loadn_flat rfl (Opd.tmp _ _ rfl) tH tR tR) ?_ | refine Run.pure (dd := some 14) rfl rfl (op_loadn_fz rfl (Opd.tmp _ _ rfl) tR) ?_ | refine Run.load (dd := some 14) rfl rfl (op_loadn_refs rfl (Opd.tmp _ _ rfl) tH tR tR) ?_
    first | refine Run.pure (dd := some 15) rfl rfl (op_move rfl (Opd.tmp _ _ rfl)) ?_ | refine Run.pure (dd := some 15) rfl rfl (op_junk (.inl rfl)) ?_
    refine Run.pure (dd := some 16) rfl rfl (op_call_pure (fun _ => hr) rfl (Opd.func _) (Opds.cons _ _ _ _ (Opd.tmp _ _ rfl) (Opds.cons _ _ _ _ (Opd.tmp _ _ rfl) Opds.nil))) ?_
    first | refine Run.pure (dd := some 13) rfl rfl (op_move rfl (Opd.tmp _ _ rfl)) ?_ | refine Run.pure (dd := some 13) rfl rfl (op_junk (.inl rfl)) ?_
    first | refine Run.pure (dd := some 17) rfl rfl (op_extract_fz rfl (Opd.tmp _ _ rfl) rfl) ?_ | refine Run.pure (dd := some 17) rfl rfl (op_extract rfl (Opd.tmp _ _ rfl) rfl) ?_
    first | refine Run.pure (dd := some 18) rfl rfl (op_extract_fz rfl (Opd.tmp _ _ rfl) rfl) ?_ | refine Run.pure (dd := some 18) rfl rfl (op_extract rfl (Opd.tmp _ _ rfl) rfl) ?_
    refine Run.eff (dd := some 7) rfl rfl (op_alloc rfl rfl rfl rfl) ?_
    first | refine Run.eff (dd := none) rfl rfl (op_store_flat rfl (Opd.tmp _ _ rfl) (Opd.tmp _ _ rfl) tC rfl rfl (by first | rfl | assumption) tS) ?_ | refine Run.eff (dd := none) rfl rfl (op_store_refs rfl (Opd.tmp _ _ rfl) (Opd.tmp _ _ rfl) tP rfl rfl rfl tS) ?_
    first | refine Run.pure (dd := some 8) rfl rfl (op_assign rfl (Opd.tmp _ _ rfl)) ?_ | refine Run.pure (dd := some 8) rfl rfl (op_junk (.inr rfl)) ?_
    refine Run.nil (FinR.mk ?_)
    refine nK ?_
    refine s_reg rfl ?_
    first | refine Run.pure (dd := some 19) rfl rfl (op_move rfl (Opd.tmp _ _ rfl)) ?_ | refine Run.pure (dd := some 19) rfl rfl (op_junk (.inl rfl)) ?_
    refine Run.pure (dd := some 20) rfl rfl (op_neq rfl (Opd.tmp _ _ rfl) (Opd.const _)) ?_
    first | refine Run.pure (dd := some 21) rfl rfl (op_move rfl (Opd.tmp _ _ rfl)) ?_ | refine Run.pure (dd := some 21) rfl rfl (op_junk (.inl rfl)) ?_
    first | refine Run.pureG (dd := some 22) rfl rfl rfl tG (op_move rfl (Opd.tmp _ _ rfl)) ?_ | refine Run.pureG (dd := some 22) rfl rfl rfl tG (op_junk (.inl rfl)) ?_
    refine Run.pureG (dd := some 23) rfl rfl rfl tG (op_lss rfl (Opd.topt _ _ _ rfl tO) (Opd.const _)) ?_
    refine Run.pure (dd := some 24) rfl rfl (op_pick_or rfl (Opd.tmp _ _ rfl) (Opd.topt _ _ _ rfl tO)) ?_
    first | refine Run.pure (dd := some 25) rfl rfl (op_move rfl (Opd.tmp _ _ rfl)) ?_ | refine Run.pure (dd := some 25) rfl rfl (op_junk (.inl rfl)) ?_
    first | refine Run.pureG (dd := some 26) rfl rfl rfl tG (op_move rfl (Opd.tmp _ _ rfl)) ?_ | refine Run.pureG (dd := some 26) rfl rfl rfl tG (op_junk (.inl rfl)) ?_
    first | refine Run.pureG (dd := some 27) rfl rfl rfl tG (op_fld_ptr (by decide) rfl (Opd.tmp _ _ rfl)) ?_ | refine Run.pureG (dd := some 27) rfl rfl rfl tG (op_fld_fz (by decide) rfl (Opd.tmp _ _ rfl) tR) ?_
    first | refine Run.loadG (dd := some 28) rfl rfl rfl tG (op_load1_flat rfl (Opd.topt _ _ _ rfl tO) tH rfl) ?_ | refine Run.pureG (dd := some 28) rfl rfl rfl tG (op_load1_fz rfl (Opd.topt _ _ _ rfl tO) rfl) ?_ | refine Run.loadG (dd := some 28) rfl rfl rfl tG (op_load1_refs rfl (Opd.topt _ _ _ rfl tO) tH rfl) ?_
    first | refine Run.pureG (dd := some 29) rfl rfl rfl tG (op_len_fz rfl (by first | exact Opd.topt _ _ _ rfl tO | exact Opd.nil _ _ (Opd.topt _ _ _ rfl tO)) (by first | exact List.length_map _ | rfl)) ?_ | refine Run.pureG (dd := some 29) rfl rfl rfl tG (op_len_sl rfl (Opd.topt _ _ _ rfl tO)) ?_
    refine Run.pureG (dd := some 30) rfl rfl rfl tG (op_geq rfl (Opd.topt _ _ _ rfl tO) (Opd.topt _ _ _ rfl tO)) ?_
    refine Run.pure (dd := some 31) rfl rfl (op_pick_or rfl (Opd.tmp _ _ rfl) (Opd.topt _ _ _ rfl tO)) ?_
    refine Run.nil (FinR.mk ?_)
    refine nK ?_
    refine n_cond _ rfl (fun hb => ?_) (fun hb => ?_)
    · refine nK ?_
      refine s_reg rfl ?_
      refine Run.pure (dd := some 32) rfl rfl (op_call_pure (fun _ => lives_c) rfl (Opd.func _) Opds.nil) ?_
      first | refine Run.pure (dd := some 6) rfl rfl (op_assign rfl (Opd.tmp _ _ rfl)) ?_ | refine Run.pure (dd := some 6) rfl rfl (op_junk (.inr rfl)) ?_
      refine Run.nil (FinR.mk ?_)
      refine nK ?_
      (first | exact s_o1 hC rfl tV | exact s_o2 hC rfl tV tV | exact s_o3 hC rfl tV tV tV | exact s_out0 hC rfl | exact s_outO hC rfl rfl rfl)
    · simp at hb; omega
end Go.Proofs.Ytgbfkpcigipniaa
/- How the arguments of the rows read. -/
namespace Go.Proofs.Ytgbfkpcigipniaa
open Go Go.RT Go.Proofs Go.Pl
set_option linter.all false
variable {H : Type} {enc : TypeId × Value → H} {W : World} {ok : DataW H → Prop} {B : Nat}
theorem rdc_n : RdC ok enc Try.prog W 3 (fun fs => ∃ n, inr .i64 n ∧ fs = [If .i64 n]) := rdc_int (P := Try.prog) (t := 3) inferInstance
theorem rdc_edge (dn : DnOk H ok B) : RdC ok enc Try.prog W 41 (fun fs => ∃ e : Edg, okE e ∧ fs = encE e) :=
  (rdc_struct (P := Try.prog) (t := 41) dn Try.underlying41 (by kernel_rfl) (.cons _ _ _ _ rdc_n (.cons _ _ _ _ rdc_n (.cons _ _ _ _ rdc_n .nil)))).imp fun fs h => by
    obtain ⟨_, _, rfl, ⟨a, ha, rfl⟩, _, _, rfl, ⟨b, hb, rfl⟩, _, _, rfl, ⟨c, hc, rfl⟩, rfl⟩ := h
    exact ⟨⟨a, b, c⟩, ⟨ha, hb, hc⟩, rfl⟩
theorem rdc_edges (dn : DnOk H ok B) : RdC ok enc Try.prog W 22 (fun fs => ∃ l : List Edg, okEs l ∧ l.length ≤ B ∧ fs = [VE l]) :=
  (rdc_slice (P := Try.prog) (t := 22) (e := 41) dn inferInstance inferInstance (by decide) (rdc_edge dn)).imp fun fs h => by
    obtain ⟨rows, hr, hl, rfl⟩ := h
    obtain ⟨l, rfl, ho⟩ := rows_of (fun fs h => h) hr
    exact ⟨l, ho, by simpa using hl, rfl⟩
theorem rdc_graph (dn : DnOk H ok B) : RdC ok enc Try.prog W 24 (fun fs => ∃ g : Gr, okG g ∧ g.es.length ≤ B ∧ fs = encG g) :=
  (rdc_struct (P := Try.prog) (t := 24) dn Try.underlying24 (by kernel_rfl) (.cons _ _ _ _ rdc_n (.cons _ _ _ _ rdc_n (.cons _ _ _ _ (rdc_edges dn) .nil)))).imp fun fs h => by
    obtain ⟨_, _, rfl, ⟨a, ha, rfl⟩, _, _, rfl, ⟨b, hb, rfl⟩, _, _, rfl, ⟨l, hl, hB, rfl⟩, rfl⟩ := h
    exact ⟨⟨a, b, l⟩, ⟨ha, hb, hl⟩, hB, rfl⟩
theorem rdc_ints (dn : DnOk H ok B) : RdC ok enc Try.prog W 25 (fun fs => ∃ l : List Int, (∀ x ∈ l, inr .i64 x) ∧ l.length ≤ B ∧ fs = [VI l]) :=
  (rdc_slice (P := Try.prog) (t := 25) (e := 3) dn inferInstance inferInstance (by decide) rdc_n).imp fun fs h => by
    obtain ⟨rows, hr, hl, rfl⟩ := h
    obtain ⟨l, rfl, ho⟩ := rows_of (enc := encN) (fun fs h => h) hr
    exact ⟨l, ho, by simpa using hl, rfl⟩
theorem rdc_lists (dn : DnOk H ok B) : RdC ok enc Try.prog W 26 (fun fs => ∃ ll : List (List Int), (∀ l ∈ ll, (∀ x ∈ l, inr .i64 x) ∧ l.length ≤ B) ∧ ll.length ≤ B ∧ fs = [VLL ll]) :=
  (rdc_slice (P := Try.prog) (t := 26) (e := 25) dn inferInstance inferInstance (by decide) (rdc_ints dn)).imp fun fs h => by
    obtain ⟨rows, hr, hl, rfl⟩ := h
    obtain ⟨l, rfl, ho⟩ := rows_of (enc := encL) (ok := fun l => (∀ x ∈ l, inr .i64 x) ∧ l.length ≤ B) (fun fs h => by obtain ⟨l, h1, h2, h3⟩ := h; exact ⟨l, ⟨h1, h2⟩, h3⟩) hr
    exact ⟨l, ho, by simpa using hl, rfl⟩
def okTr (B : Nat) (t : Tr) : Prop := inr .i64 t.root ∧ (∀ x ∈ t.dist, inr .i64 x) ∧ t.dist.length ≤ B ∧ (∀ l ∈ t.hops, (∀ x ∈ l, inr .i64 x) ∧ l.length ≤ B) ∧ t.hops.length ≤ B ∧ (∀ l ∈ t.par, (∀ x ∈ l, inr .i64 x) ∧ l.length ≤ B) ∧ t.par.length ≤ B
theorem smT_of {t : Tr} (h : okTr maxLen t) : smT t := by
  obtain ⟨_, _, h1, h2, h3, h4, h5⟩ := h
  unfold maxLen at *
  exact ⟨by omega, ⟨by omega, fun l hl => by have := (h2 l hl).2; omega⟩, ⟨by omega, fun l hl => by have := (h4 l hl).2; omega⟩⟩
theorem rdc_tree (dn : DnOk H ok B) : RdC ok enc Try.prog W 28 (fun fs => ∃ t : Tr, okTr B t ∧ fs = encTr t) :=
  (rdc_struct (P := Try.prog) (t := 28) dn Try.underlying28 (by kernel_rfl) (.cons _ _ _ _ rdc_n (.cons _ _ _ _ (rdc_ints dn) (.cons _ _ _ _ (rdc_lists dn) (.cons _ _ _ _ (rdc_lists dn) .nil))))).imp fun fs h => by
    obtain ⟨_, _, rfl, ⟨a, ha, rfl⟩, _, _, rfl, ⟨d, hd1, hd2, rfl⟩, _, _, rfl, ⟨hs, hh1, hh2, rfl⟩, _, _, rfl, ⟨p, hp1, hp2, rfl⟩, rfl⟩ := h
    exact ⟨⟨a, d, hs, p⟩, ⟨ha, hd1, hd2, hh1, hh2, hp1, hp2⟩, rfl⟩
end Go.Proofs.Ytgbfkpcigipniaa
