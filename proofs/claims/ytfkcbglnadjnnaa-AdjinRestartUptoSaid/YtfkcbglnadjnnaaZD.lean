/- A part of the proof: J6, JP3, J7, J8, JP4, J9. -/
import Derived.Test.YtfkcbglnadjnnaaZC
set_option linter.all false
namespace Go.Proofs.Ytfkcbglnadjnnaa
open Go Go.RT Go.Proofs Go.Pl
set_option linter.all false
set_option maxRecDepth 20000
theorem asc_bad {m : Bool} {l : List Int} {i : Nat} {q x : Int} (hlt : i < l.length) (hx : l[i] = x) (hq : 0 < i → prvG l i = some q) (ho : (if m = true then ascGo (prvG l i) (l.drop i) else 0) = if m = true then ascGo none l else 0) (hb : ((decide (0 < (i : Int)) && m) && decide (x ≤ q)) = true) : (if m = true then ascGo none l else 0) = 16 := by
  have hm : m = true := by cases m with
    | true => rfl
    | false => simp at hb
  subst hm
  rw [if_pos rfl, asc_step hlt, hx, leP_pos hq, if_pos (by simpa using hb)] at ho
  exact ho.symm
theorem asc_good {m : Bool} {l : List Int} {i : Nat} {q x : Int} (hlt : i < l.length) (hx : l[i] = x) (hq : 0 < i → prvG l i = some q) (ho : (if m = true then ascGo (prvG l i) (l.drop i) else 0) = if m = true then ascGo none l else 0) (hb : ((decide (0 < (i : Int)) && m) && decide (x ≤ q)) = false) : (if m = true then ascGo (prvG l (i + 1)) (l.drop (i + 1)) else 0) = if m = true then ascGo none l else 0 := by
  cases m with
  | false => rfl
  | true =>
    rw [if_pos rfl, asc_step hlt, hx, leP_pos hq, if_neg (by simpa using hb)] at ho
    exact ho
theorem seg_c (s : Seg) (hn : s.as'.length ≤ 2000000) : Pure Try.prog 97 [.agg (encSg s)] (If .i64 (segE s)) := by
  have k4 := among_c s.k [1, 2, 3, 4] (by simp)
  have k2 := among_c s.k [1, 4] (by simp)
  unfold segE
  refine Meets.intro Try.func97 rfl (Nat.le_of_ble_eq_true rfl) fun C hC => ?_
  simp only [List.map, argEnv, Nat.reduceAdd]
  refine nK ?_
  refine s_reg rfl ?_
  refine Run.eff (dd := some 1) rfl rfl (op_box_flat rfl (Opd.tmp _ _ rfl) tC rfl) ?_
  refine Run.pure (dd := some 2) rfl rfl (op_assign rfl (Opd.const _)) ?_
  refine Run.nil (FinR.mk ?_)
  refine nK ?_
  refine s_reg rfl ?_
  refine Run.pure (dd := some 7) rfl rfl (op_fld_ptr (by decide) rfl (Opd.tmp _ _ rfl)) ?_
  refine Run.load (dd := some 8) rfl rfl (op_load1_flat rfl (Opd.tmp _ _ rfl) tH rfl) ?_
  refine Run.pure (dd := some 9) rfl rfl (op_buildSlice_fz rfl (RowsF.cons _ _ _ _ _ _ (Opd.const _) tC (by rfl) (RowsF.cons _ _ _ _ _ _ (Opd.const _) tC (by rfl) (RowsF.cons _ _ _ _ _ _ (Opd.const _) tC (by rfl) (RowsF.cons _ _ _ _ _ _ (Opd.const _) tC (by rfl) (RowsF.nil _))))) rfl rfl) ?_
  refine Run.pure (dd := some 10) rfl rfl (op_call_pure (fun _ => k4) rfl (Opd.func _) (Opds.cons _ _ _ _ (Opd.tmp _ _ rfl) (Opds.cons _ _ _ _ (Opd.tmp _ _ rfl) Opds.nil))) ?_
  refine Run.pure (dd := some 11) rfl rfl (op_not rfl (Opd.tmp _ _ rfl)) ?_
  refine Run.pure (dd := some 6) rfl rfl (op_assign rfl (Opd.tmp _ _ rfl)) ?_
  refine Run.nil (FinR.mk ?_)
  refine nK ?_
  refine n_cond _ rfl (fun hb => ?_) (fun hb => ?_)
  · rw [if_pos hb]
    refine nK ?_
    refine s_reg rfl ?_
    refine Run.pure (dd := some 2) rfl rfl (op_assign rfl (Opd.const _)) ?_
    refine Run.nil (FinR.mk ?_)
    refine nK ?_
    (first | exact s_o1 hC rfl tV | exact s_o2 hC rfl tV tV | exact s_o3 hC rfl tV tV tV | exact s_o4 hC rfl tV tV tV tV | exact s_out0 hC rfl | exact s_outO hC rfl rfl rfl)
  · rw [if_neg (by rw [hb]; decide)]
    refine nK ?_
    refine s_reg rfl ?_
    refine Run.pure (dd := some 13) rfl rfl (op_fld_ptr (by decide) rfl (Opd.tmp _ _ rfl)) ?_
    refine Run.load (dd := some 14) rfl rfl (op_load1_flat rfl (Opd.tmp _ _ rfl) tH rfl) ?_
    refine Run.pure (dd := some 15) rfl rfl (op_len_fz rfl (by first | exact Opd.tmp _ _ rfl | exact Opd.nil _ _ (Opd.tmp _ _ rfl)) (by first | exact List.length_map _ | rfl)) ?_
    refine Run.pure (dd := some 16) rfl rfl (op_eql rfl (Opd.tmp _ _ rfl) (Opd.const _)) ?_
    refine Run.pure (dd := some 12) rfl rfl (op_assign rfl (Opd.tmp _ _ rfl)) ?_
    refine Run.nil (FinR.mk ?_)
    refine nK ?_
    refine n_cond _ rfl (fun hb => ?_) (fun hb => ?_)
    · rw [if_pos (by simpa using hb)]
      refine nK ?_
      refine s_reg rfl ?_
      refine Run.pure (dd := some 2) rfl rfl (op_assign rfl (Opd.const _)) ?_
      refine Run.nil (FinR.mk ?_)
      refine nK ?_
      (first | exact s_o1 hC rfl tV | exact s_o2 hC rfl tV tV | exact s_o3 hC rfl tV tV tV | exact s_o4 hC rfl tV tV tV tV | exact s_out0 hC rfl | exact s_outO hC rfl rfl rfl)
    · rw [if_neg (by simpa using hb)]
      refine nK ?_
      refine s_reg rfl ?_
      refine Run.pure (dd := some 18) rfl rfl (op_fld_ptr (by decide) rfl (Opd.tmp _ _ rfl)) ?_
      refine Run.load (dd := some 19) rfl rfl (op_load1_flat rfl (Opd.tmp _ _ rfl) tH rfl) ?_
      refine Run.pure (dd := some 20) rfl rfl (op_len_fz rfl (by first | exact Opd.tmp _ _ rfl | exact Opd.nil _ _ (Opd.tmp _ _ rfl)) (by first | exact List.length_map _ | rfl)) ?_
      refine Run.pure (dd := some 21) rfl rfl (op_gtr rfl (Opd.tmp _ _ rfl) (Opd.const _)) ?_
      refine Run.pure (dd := some 17) rfl rfl (op_assign rfl (Opd.tmp _ _ rfl)) ?_
      refine Run.nil (FinR.mk ?_)
      refine nK ?_
      refine n_cond _ rfl (fun hb => ?_) (fun hb => ?_)
      · rw [if_pos (by simp at hb; omega)]
        refine nK ?_
        refine s_reg rfl ?_
        refine Run.pure (dd := some 2) rfl rfl (op_assign rfl (Opd.const _)) ?_
        refine Run.nil (FinR.mk ?_)
        refine nK ?_
        (first | exact s_o1 hC rfl tV | exact s_o2 hC rfl tV tV | exact s_o3 hC rfl tV tV tV | exact s_o4 hC rfl tV tV tV tV | exact s_out0 hC rfl | exact s_outO hC rfl rfl rfl)
      · rw [if_neg (by simp at hb; omega)]
        refine nK ?_
        refine s_reg rfl ?_
        refine Run.pure (dd := some 22) rfl rfl (op_fld_ptr (by decide) rfl (Opd.tmp _ _ rfl)) ?_
        refine Run.load (dd := some 23) rfl rfl (op_load1_flat rfl (Opd.tmp _ _ rfl) tH rfl) ?_
        refine Run.pure (dd := some 24) rfl rfl (op_len_fz rfl (by first | exact Opd.tmp _ _ rfl | exact Opd.nil _ _ (Opd.tmp _ _ rfl)) (by first | exact List.length_map _ | rfl)) ?_
        refine Run.pure (dd := some 25) rfl rfl (op_move rfl (Opd.const _)) ?_
        refine Run.nil (FinR.mk ?_)
        refine nK ?_
        refine n_loop (ι := Nat) (fun i => ([(1, .ptr 0 2 0 0), (23, .fz (VI s.as')), (24, IV .i64 s.as'.length), (25, IV .i64 i)], [(0, some (.flat 2 [encSg s]))], 1)) (fun i => i ≤ s.as'.length ∧ rngGo (s.as'.drop i) = rngGo s.as') (fun i => s.as'.length - i) 0 ⟨Nat.zero_le _, rfl⟩ ?_ ?_
        · refine Next.weakS [1] [] (by rfl) (by first | exact keeps0 hC _ | exact keepsN hC _ rfl) (by repeat (first | exact trivial | refine ⟨⟨_, rfl, .inl ⟨rfl, rfl⟩⟩, ?_⟩ | refine ⟨⟨_, rfl, .inl ⟨slEq rfl tN, rfl⟩⟩, ?_⟩ | refine ⟨⟨_, rfl, .inl ⟨ivEq tX, rfl⟩⟩, ?_⟩)) (by repeat (first | exact trivial | refine ⟨ent_same rfl rfl rfl tL, ?_⟩ | refine ⟨ent_same rfl rfl (rfEq rfl tU) tL, ?_⟩ | refine ⟨ent_same rfl rfl (flEq rfl (by first | (simp; done) | (simp; omega) | (simp [encP, encAt, encSg, encTl, encW, encN, encY]; done) | simp [maxC, minC])) trivial, ?_⟩)) rfl (rel_intro)
        · intro i ⟨hi, ho⟩ K hK
          refine nK ?_
          refine s_reg rfl ?_
          refine Run.pure (dd := some 26) rfl rfl (op_lss rfl (Opd.tmp _ _ rfl) (Opd.tmp _ _ rfl)) ?_
          refine Run.nil (FinR.mk ?_)
          refine nK ?_
          refine n_cond _ rfl (fun hb => ?_) (fun hb => ?_)
          · have hlt : i < s.as'.length := by simp at hb; omega
            have hr1 := row_at' encN s.as' i hlt
            rw [List.drop_eq_getElem_cons hlt] at ho
            simp only [rngGo] at ho
            have hK1 := fun h => hK (i + 1) ⟨by omega, h⟩ (by omega)
            generalize s.as'[i] = x at *
            refine nK ?_
            refine s_reg rfl ?_
            refine Run.pure (dd := some 27) rfl rfl (op_idx_fz _ rfl (Opd.tmp _ _ rfl) (Opd.tmp _ _ rfl) tF) ?_
            refine Run.pure (dd := some 28) rfl rfl (op_load1_fz rfl (Opd.tmp _ _ rfl) rfl) ?_
            refine Run.pure (dd := some 4) rfl rfl (op_assign rfl (Opd.tmp _ _ rfl)) ?_
            refine Run.nil (FinR.mk ?_)
            refine nK ?_
            refine s_reg rfl ?_
            refine Run.pure (dd := some 29) rfl rfl (op_move rfl (Opd.tmp _ _ rfl)) ?_
            refine Run.pure (dd := some 30) rfl rfl (op_lss rfl (Opd.tmp _ _ rfl) (Opd.const _)) ?_
            refine Run.pure (dd := some 31) rfl rfl (op_move rfl (Opd.tmp _ _ rfl)) ?_
            refine Run.pureG (dd := some 32) rfl rfl rfl tG (op_move rfl (Opd.tmp _ _ rfl)) ?_
            refine Run.pureG (dd := some 33) rfl rfl rfl tG (op_gtr rfl (Opd.topt _ _ _ rfl tO) (Opd.const _)) ?_
            refine Run.pure (dd := some 34) rfl rfl (op_pick_or rfl (Opd.tmp _ _ rfl) (Opd.topt _ _ _ rfl tO)) ?_
            refine Run.nil (FinR.mk ?_)
            refine nK ?_
            refine n_cond _ rfl (fun hb => ?_) (fun hb => ?_)
            · rw [if_pos hb] at ho
              rw [← ho, if_pos (by decide)]
              refine nK ?_
              refine s_reg rfl ?_
              refine Run.pure (dd := some 2) rfl rfl (op_assign rfl (Opd.const _)) ?_
              refine Run.nil (FinR.mk ?_)
              refine nK ?_
              (first | exact s_o1 hC rfl tV | exact s_o2 hC rfl tV tV | exact s_o3 hC rfl tV tV tV | exact s_o4 hC rfl tV tV tV tV | exact s_out0 hC rfl | exact s_outO hC rfl rfl rfl)
            · rw [if_neg (by rw [hb]; decide)] at ho
              refine nK ?_
              refine s_reg rfl ?_
              refine Run.pure (dd := some 35) rfl rfl (op_add rfl (Opd.tmp _ _ rfl) (Opd.const _) tI) ?_
              refine Run.pure (dd := some 25) rfl rfl (op_move rfl (Opd.tmp _ _ rfl)) ?_
              refine Run.nil (FinR.mk ?_)
              refine nK ?_
              refine Next.weakS [1] [] (by rfl) (by first | exact keeps0 hC _ | exact keepsN hC _ rfl) (by repeat (first | exact trivial | refine ⟨⟨_, rfl, .inl ⟨rfl, rfl⟩⟩, ?_⟩ | refine ⟨⟨_, rfl, .inl ⟨slEq rfl tN, rfl⟩⟩, ?_⟩ | refine ⟨⟨_, rfl, .inl ⟨ivEq tX, rfl⟩⟩, ?_⟩)) (by repeat (first | exact trivial | refine ⟨ent_same rfl rfl rfl tL, ?_⟩ | refine ⟨ent_same rfl rfl (rfEq rfl tU) tL, ?_⟩ | refine ⟨ent_same rfl rfl (flEq rfl (by first | (simp; done) | (simp; omega) | (simp [encP, encAt, encSg, encTl, encW, encN, encY]; done) | simp [maxC, minC])) trivial, ?_⟩)) rfl ((hK1 ho))
          · have hie : i = s.as'.length := by simp at hb; omega
            rw [hie, List.drop_length] at ho
            rw [← ho, show rngGo [] = 0 from rfl, if_neg (by decide : ¬ ((0 : Int) ≠ 0))]
            clear hK ho
            generalize amongB s.k [1, 4] = m at *
            refine nK ?_
            refine s_reg rfl ?_
            refine Run.pure (dd := some 36) rfl rfl (op_fld_ptr (by decide) rfl (Opd.tmp _ _ rfl)) ?_
            refine Run.load (dd := some 37) rfl rfl (op_load1_flat rfl (Opd.tmp _ _ rfl) tH rfl) ?_
            refine Run.pure (dd := some 38) rfl rfl (op_len_fz rfl (by first | exact Opd.tmp _ _ rfl | exact Opd.nil _ _ (Opd.tmp _ _ rfl)) (by first | exact List.length_map _ | rfl)) ?_
            refine Run.pure (dd := some 39) rfl rfl (op_move rfl (Opd.const _)) ?_
            refine Run.nil (FinR.mk ?_)
            refine nK ?_
            refine n_loop (ι := Nat) (fun i => ([(1, .ptr 0 2 0 0), (37, .fz (VI s.as')), (38, IV .i64 s.as'.length), (39, IV .i64 i)], [(0, some (.flat 2 [encSg s]))], 1)) (fun i => i ≤ s.as'.length ∧ (if m = true then ascGo (prvG s.as' i) (s.as'.drop i) else 0) = if m = true then ascGo none s.as' else 0) (fun i => s.as'.length - i) 0 ⟨Nat.zero_le _, rfl⟩ ?_ ?_
            · refine Next.weakS [1] [] (by rfl) (by first | exact keeps0 hC _ | exact keepsN hC _ rfl) (by repeat (first | exact trivial | refine ⟨⟨_, rfl, .inl ⟨rfl, rfl⟩⟩, ?_⟩ | refine ⟨⟨_, rfl, .inl ⟨slEq rfl tN, rfl⟩⟩, ?_⟩ | refine ⟨⟨_, rfl, .inl ⟨ivEq tX, rfl⟩⟩, ?_⟩)) (by repeat (first | exact trivial | refine ⟨ent_same rfl rfl rfl tL, ?_⟩ | refine ⟨ent_same rfl rfl (rfEq rfl tU) tL, ?_⟩ | refine ⟨ent_same rfl rfl (flEq rfl (by first | (simp; done) | (simp; omega) | (simp [encP, encAt, encSg, encTl, encW, encN, encY]; done) | simp [maxC, minC])) trivial, ?_⟩)) rfl (rel_intro)
            · intro i ⟨hi, ho⟩ K hK
              refine nK ?_
              refine s_reg rfl ?_
              refine Run.pure (dd := some 40) rfl rfl (op_lss rfl (Opd.tmp _ _ rfl) (Opd.tmp _ _ rfl)) ?_
              refine Run.nil (FinR.mk ?_)
              refine nK ?_
              refine n_cond _ rfl (fun hb => ?_) (fun hb => ?_)
              · have hlt : i < s.as'.length := by simp at hb; omega
                have hr1 := row_at' encN s.as' i hlt
                obtain ⟨q, hq⟩ := prv_row encN s.as' 0 (by omega : i ≤ s.as'.length)
                have hbad := asc_bad (x := s.as'[i]) hlt rfl (fun h => (hq h).1) ho
                have hgood := asc_good (x := s.as'[i]) hlt rfl (fun h => (hq h).1) ho
                have hK1 := fun h => hK (i + 1) ⟨by omega, h⟩ (by omega)
                generalize s.as'[i] = x at *
                refine nK ?_
                refine s_reg rfl ?_
                refine Run.pure (dd := some 41) rfl rfl (op_move rfl (Opd.tmp _ _ rfl)) ?_
                refine Run.pure (dd := some 5) rfl rfl (op_assign rfl (Opd.tmp _ _ rfl)) ?_
                refine Run.nil (FinR.mk ?_)
                refine nK ?_
                refine s_draw mixed ?_
                refine Run.pure (dd := some 42) rfl rfl (op_move rfl (Opd.tmp _ _ rfl)) ?_
                refine Run.pure (dd := some 43) rfl rfl (op_gtr rfl (Opd.tmp _ _ rfl) (Opd.const _)) ?_
                refine Run.pure (dd := some 44) rfl rfl (op_move rfl (Opd.tmp _ _ rfl)) ?_
                refine Run.pureG (dd := some 45) rfl rfl rfl tG (op_fld_ptr (by decide) rfl (Opd.tmp _ _ rfl)) ?_
                refine Run.loadG (dd := some 46) rfl rfl rfl tG (op_load1_flat rfl (Opd.topt _ _ _ rfl tO) tH rfl) ?_
                refine Run.pureG (dd := some 47) rfl rfl rfl tG (op_buildSlice_fz rfl (RowsF.cons _ _ _ _ _ _ (Opd.const _) tC (by rfl) (RowsF.cons _ _ _ _ _ _ (Opd.const _) tC (by rfl) (RowsF.nil _))) rfl rfl) ?_
                refine Run.pureG (dd := some 48) rfl rfl rfl tG (op_call_pure (fun _ => k2) rfl (Opd.func _) (Opds.cons _ _ _ _ (Opd.topt _ _ _ rfl tO) (Opds.cons _ _ _ _ (Opd.topt _ _ _ rfl tO) Opds.nil))) ?_
                refine Run.pure (dd := some 49) rfl rfl (op_pick_and rfl (Opd.tmp _ _ rfl) (Opd.topt _ _ _ rfl tO)) ?_
                refine Run.pure (dd := some 50) rfl rfl (op_move rfl (Opd.tmp _ _ rfl)) ?_
                refine Run.pureG (dd := some 51) rfl rfl rfl tG (op_fld_ptr (by decide) rfl (Opd.tmp _ _ rfl)) ?_
                refine Run.loadG (dd := some 52) rfl rfl rfl tG (op_load1_flat rfl (Opd.topt _ _ _ rfl tO) tH rfl) ?_
                refine Run.pureG (dd := some 53) rfl rfl rfl tG (op_move rfl (Opd.tmp _ _ rfl)) ?_
                refine Run.pureG (dd := some 54) rfl rfl rfl tG (op_idx_fz i rfl (Opd.topt _ _ _ rfl tO) (Opd.topt _ _ _ rfl tO) (by intro _; exact ⟨by omega, hr1⟩)) ?_
                refine Run.pureG (dd := some 55) rfl rfl rfl tG (op_load1_fz rfl (Opd.topt _ _ _ rfl tO) rfl) ?_
                refine Run.pureG (dd := some 56) rfl rfl rfl tG (op_fld_ptr (by decide) rfl (Opd.tmp _ _ rfl)) ?_
                refine Run.loadG (dd := some 57) rfl rfl rfl tG (op_load1_flat rfl (Opd.topt _ _ _ rfl tO) tH rfl) ?_
                refine Run.pureG (dd := some 58) rfl rfl rfl tG (op_move rfl (Opd.tmp _ _ rfl)) ?_
                refine Run.pureG (dd := some 59) rfl rfl rfl tG (op_sub rfl (Opd.topt _ _ _ rfl tO) (Opd.const _) tI) ?_
                refine Run.pureG (dd := some 60) rfl rfl rfl tG (op_idx_fz (i - 1) rfl (Opd.topt _ _ _ rfl tO) (Opd.topt _ _ _ rfl tO) (by intro hg; have h0 : 0 < i := (by simp at hg; omega); exact ⟨by omega, (hq h0).2⟩)) ?_
                refine Run.pureG (dd := some 61) rfl rfl rfl tG (op_load1_fz rfl (Opd.topt _ _ _ rfl tO) rfl) ?_
                refine Run.pureG (dd := some 62) rfl rfl rfl tG (op_leq rfl (Opd.topt _ _ _ rfl tO) (Opd.topt _ _ _ rfl tO)) ?_
                refine Run.pure (dd := some 63) rfl rfl (op_pick_and rfl (Opd.tmp _ _ rfl) (Opd.topt _ _ _ rfl tO)) ?_
                refine Run.nil (FinD.mk (by kernel_rfl) ?_)
                refine nK ?_
                refine n_cond _ rfl (fun hb => ?_) (fun hb => ?_)
                · rw [hbad hb]
                  refine nK ?_
                  refine s_reg rfl ?_
                  refine Run.pure (dd := some 2) rfl rfl (op_assign rfl (Opd.const _)) ?_
                  refine Run.nil (FinR.mk ?_)
                  refine nK ?_
                  (first | exact s_o1 hC rfl tV | exact s_o2 hC rfl tV tV | exact s_o3 hC rfl tV tV tV | exact s_o4 hC rfl tV tV tV tV | exact s_out0 hC rfl | exact s_outO hC rfl rfl rfl)
                · refine nK ?_
                  refine s_reg rfl ?_
                  refine Run.pure (dd := some 64) rfl rfl (op_add rfl (Opd.tmp _ _ rfl) (Opd.const _) tI) ?_
                  refine Run.pure (dd := some 39) rfl rfl (op_move rfl (Opd.tmp _ _ rfl)) ?_
                  refine Run.nil (FinR.mk ?_)
                  refine nK ?_
                  refine Next.weakS [1] [] (by rfl) (by first | exact keeps0 hC _ | exact keepsN hC _ rfl) (by repeat (first | exact trivial | refine ⟨⟨_, rfl, .inl ⟨rfl, rfl⟩⟩, ?_⟩ | refine ⟨⟨_, rfl, .inl ⟨slEq rfl tN, rfl⟩⟩, ?_⟩ | refine ⟨⟨_, rfl, .inl ⟨ivEq tX, rfl⟩⟩, ?_⟩)) (by repeat (first | exact trivial | refine ⟨ent_same rfl rfl rfl tL, ?_⟩ | refine ⟨ent_same rfl rfl (rfEq rfl tU) tL, ?_⟩ | refine ⟨ent_same rfl rfl (flEq rfl (by first | (simp; done) | (simp; omega) | (simp [encP, encAt, encSg, encTl, encW, encN, encY]; done) | simp [maxC, minC])) trivial, ?_⟩)) rfl ((hK1 (hgood hb)))
              · have hie : i = s.as'.length := by simp at hb; omega
                rw [hie, List.drop_length] at ho
                have hnil : ∀ p, ascGo p [] = 0 := fun p => by cases p <;> rfl
                rw [hnil] at ho
                rw [← ho, ite_self]
                refine nK ?_
                refine s_reg rfl ?_
                refine Run.pure (dd := some 2) rfl rfl (op_assign rfl (Opd.const _)) ?_
                refine Run.nil (FinR.mk ?_)
                refine nK ?_
                (first | exact s_o1 hC rfl tV | exact s_o2 hC rfl tV tV | exact s_o3 hC rfl tV tV tV | exact s_o4 hC rfl tV tV tV tV | exact s_out0 hC rfl | exact s_outO hC rfl rfl rfl)
theorem pth_c (p : List Seg) (hn : p.length ≤ 2000000) (hs : ∀ s ∈ p, s.as'.length ≤ 2000000) : Pure Try.prog 77 [VSg p] (If .i64 (pthE p)) := by
  unfold pthE
  refine Meets.intro Try.func77 rfl (Nat.le_of_ble_eq_true rfl) fun C hC => ?_
  simp only [List.map, argEnv, Nat.reduceAdd]
  refine nK ?_
  refine s_reg rfl ?_
  refine Run.pure (dd := some 2) rfl rfl (op_assign rfl (Opd.const _)) ?_
  refine Run.nil (FinR.mk ?_)
  refine nK ?_
  refine s_reg rfl ?_
  refine Run.pure (dd := some 7) rfl rfl (op_move rfl (Opd.tmp _ _ rfl)) ?_
  refine Run.pure (dd := some 8) rfl rfl (op_len_fz rfl (by first | exact Opd.tmp _ _ rfl | exact Opd.nil _ _ (Opd.tmp _ _ rfl)) (by first | exact List.length_map _ | rfl)) ?_
  refine Run.pure (dd := some 9) rfl rfl (op_gtr rfl (Opd.tmp _ _ rfl) (Opd.const _)) ?_
  refine Run.nil (FinR.mk ?_)
  refine nK ?_
  refine n_cond _ rfl (fun hb => ?_) (fun hb => ?_)
  · rw [if_pos (by simp at hb; omega)]
    refine nK ?_
    refine s_reg rfl ?_
    refine Run.pure (dd := some 2) rfl rfl (op_assign rfl (Opd.const _)) ?_
    refine Run.nil (FinR.mk ?_)
    refine nK ?_
    (first | exact s_o1 hC rfl tV | exact s_o2 hC rfl tV tV | exact s_o3 hC rfl tV tV tV | exact s_o4 hC rfl tV tV tV tV | exact s_out0 hC rfl | exact s_outO hC rfl rfl rfl)
  · rw [if_neg (by simp at hb; omega)]
    refine nK ?_
    refine s_reg rfl ?_
    refine Run.pure (dd := some 3) rfl rfl (op_assign rfl (Opd.const _)) ?_
    refine Run.nil (FinR.mk ?_)
    refine nK ?_
    refine s_reg rfl ?_
    refine Run.pure (dd := some 10) rfl rfl (op_move rfl (Opd.tmp _ _ rfl)) ?_
    refine Run.pure (dd := some 11) rfl rfl (op_len_fz rfl (by first | exact Opd.tmp _ _ rfl | exact Opd.nil _ _ (Opd.tmp _ _ rfl)) (by first | exact List.length_map _ | rfl)) ?_
    refine Run.pure (dd := some 12) rfl rfl (op_move rfl (Opd.const _)) ?_
    refine Run.nil (FinR.mk ?_)
    refine nK ?_
    refine n_loop (ι := Nat) (fun i => ([(0, .fz (VSg p)), (3, BV (plainB (p.take i))), (10, .fz (VSg p)), (11, IV .i64 p.length), (12, IV .i64 i)], [], 0)) (fun i => i ≤ p.length ∧ pthGo (p.take i) (p.drop i) = pthGo [] p) (fun i => p.length - i) 0 ⟨Nat.zero_le _, rfl⟩ ?_ ?_
    · refine Next.weak [] [] (by rfl) (keeps0 hC _) (by repeat (first | exact trivial | refine ⟨⟨_, rfl, .inl ⟨rfl, rfl⟩⟩, ?_⟩)) (by repeat (first | exact trivial | refine ⟨ent_same rfl rfl rfl tL, ?_⟩ | refine ⟨ent_same rfl rfl (rfEq rfl tU) tL, ?_⟩ | refine ⟨ent_same rfl rfl (flEq rfl (by first | (simp; done) | (simp; omega) | (simp [encP, encAt, encSg, encTl, encW, encN, encY]; done) | simp [maxC, minC])) trivial, ?_⟩)) (fun _ h => by simp at h) rel_intro
    · intro i ⟨hi, ho⟩ K hK
      refine nK ?_
      refine s_reg rfl ?_
      refine Run.pure (dd := some 13) rfl rfl (op_lss rfl (Opd.tmp _ _ rfl) (Opd.tmp _ _ rfl)) ?_
      refine Run.nil (FinR.mk ?_)
      refine nK ?_
      refine n_cond _ rfl (fun hb => ?_) (fun hb => ?_)
      · have hlt : i < p.length := by simp at hb; omega
        have hr1 := row_at' encSg p i hlt
        obtain ⟨q, hq⟩ := prv_row encSg p ⟨0, []⟩ (by omega : i ≤ p.length)
        rw [pth_step hlt] at ho
        have hK1 := fun h => hK (i + 1) ⟨by omega, h⟩ (by omega)
        rw [plain_take hlt] at hK1
        have lx := hs _ (List.getElem_mem hlt)
        generalize p[i] = x at *
        rw [mrg_pos (q := q) fun h => (hq h).1] at ho
        generalize plainB (p.take i) = b at *
        have kx := seg_c x lx
        have k2 := among_c x.k [2, 3] (by simp)
        refine nK ?_
        refine s_reg rfl ?_
        refine Run.pure (dd := some 14) rfl rfl (op_move rfl (Opd.tmp _ _ rfl)) ?_
        refine Run.pure (dd := some 15) rfl rfl (op_idx_fz _ rfl (Opd.tmp _ _ rfl) (Opd.tmp _ _ rfl) tF) ?_
        refine Run.pure (dd := some 16) rfl rfl (op_loadw_fz rfl (Opd.tmp _ _ rfl) rfl) ?_
        refine Run.eff (dd := some 5) rfl rfl (op_alloc rfl rfl rfl rfl) ?_
        refine Run.pure (dd := some 4) rfl rfl (op_assign rfl (Opd.tmp _ _ rfl)) ?_
        refine Run.eff (dd := none) rfl rfl (op_store_flat rfl (Opd.tmp _ _ rfl) (Opd.tmp _ _ rfl) tC rfl rfl (by first | rfl | assumption) tS) ?_
        refine Run.nil (FinR.mk ?_)
        refine nK ?_
        refine s_reg rfl ?_
        refine Run.load (dd := some 17) rfl rfl (op_loadw_flat rfl (Opd.tmp _ _ rfl) tH rfl) ?_
        refine Run.pure (dd := some 18) rfl rfl (op_call_pure (fun _ => kx) rfl (Opd.func _) (Opds.cons _ _ _ _ (Opd.tmp _ _ rfl) Opds.nil)) ?_
        refine Run.pure (dd := some 6) rfl rfl (op_assign rfl (Opd.tmp _ _ rfl)) ?_
        refine Run.nil (FinR.mk ?_)
        refine nK ?_
        refine s_reg rfl ?_
        refine Run.pure (dd := some 19) rfl rfl (op_move rfl (Opd.tmp _ _ rfl)) ?_
        refine Run.pure (dd := some 20) rfl rfl (op_neq rfl (Opd.tmp _ _ rfl) (Opd.const _)) ?_
        refine Run.nil (FinR.mk ?_)
        refine nK ?_
        refine n_cond _ rfl (fun hb => ?_) (fun hb => ?_)
        · rw [if_pos (by simpa using hb)] at ho
          rw [← ho]
          refine nK ?_
          refine s_reg rfl ?_
          refine Run.pure (dd := some 21) rfl rfl (op_move rfl (Opd.tmp _ _ rfl)) ?_
          refine Run.pure (dd := some 2) rfl rfl (op_assign rfl (Opd.tmp _ _ rfl)) ?_
          refine Run.nil (FinR.mk ?_)
          refine nK ?_
          (first | exact s_o1 hC rfl tV | exact s_o2 hC rfl tV tV | exact s_o3 hC rfl tV tV tV | exact s_o4 hC rfl tV tV tV tV | exact s_out0 hC rfl | exact s_outO hC rfl rfl rfl)
        · rw [if_neg (by simpa using hb)] at ho
          refine nK ?_
          refine s_reg rfl ?_
          refine Run.pure (dd := some 22) rfl rfl (op_fld_ptr (by decide) rfl (Opd.tmp _ _ rfl)) ?_
          refine Run.load (dd := some 23) rfl rfl (op_load1_flat rfl (Opd.tmp _ _ rfl) tH rfl) ?_
          refine Run.pure (dd := some 24) rfl rfl (op_call_pure (fun _ => confed_c _) rfl (Opd.func _) (Opds.cons _ _ _ _ (Opd.tmp _ _ rfl) Opds.nil)) ?_
          refine Run.pure (dd := some 25) rfl rfl (op_move rfl (Opd.tmp _ _ rfl)) ?_
          refine Run.pureG (dd := some 26) rfl rfl rfl tG (op_move rfl (Opd.tmp _ _ rfl)) ?_
          refine Run.pure (dd := some 27) rfl rfl (op_pick_and rfl (Opd.tmp _ _ rfl) (Opd.topt _ _ _ rfl tO)) ?_
          refine Run.nil (FinR.mk ?_)
          refine nK ?_
          refine n_cond _ rfl (fun hb => ?_) (fun hb => ?_)
          · rw [if_pos hb] at ho
            rw [← ho]
            refine nK ?_
            refine s_reg rfl ?_
            refine Run.pure (dd := some 2) rfl rfl (op_assign rfl (Opd.const _)) ?_
            refine Run.nil (FinR.mk ?_)
            refine nK ?_
            (first | exact s_o1 hC rfl tV | exact s_o2 hC rfl tV tV | exact s_o3 hC rfl tV tV tV | exact s_o4 hC rfl tV tV tV tV | exact s_out0 hC rfl | exact s_outO hC rfl rfl rfl)
          · rw [if_neg (by rw [hb]; decide)] at ho
            refine nK ?_
            refine s_draw mixed ?_
            refine Run.pure (dd := some 28) rfl rfl (op_move rfl (Opd.tmp _ _ rfl)) ?_
            refine Run.pure (dd := some 29) rfl rfl (op_gtr rfl (Opd.tmp _ _ rfl) (Opd.const _)) ?_
            refine Run.pure (dd := some 30) rfl rfl (op_move rfl (Opd.tmp _ _ rfl)) ?_
            refine Run.pureG (dd := some 31) rfl rfl rfl tG (op_fld_ptr (by decide) rfl (Opd.tmp _ _ rfl)) ?_
            refine Run.loadG (dd := some 32) rfl rfl rfl tG (op_load1_flat rfl (Opd.topt _ _ _ rfl tO) tH rfl) ?_
            refine Run.pureG (dd := some 33) rfl rfl rfl tG (op_buildSlice_fz rfl (RowsF.cons _ _ _ _ _ _ (Opd.const _) tC (by rfl) (RowsF.cons _ _ _ _ _ _ (Opd.const _) tC (by rfl) (RowsF.nil _))) rfl rfl) ?_
            refine Run.pureG (dd := some 34) rfl rfl rfl tG (op_call_pure (fun _ => k2) rfl (Opd.func _) (Opds.cons _ _ _ _ (Opd.topt _ _ _ rfl tO) (Opds.cons _ _ _ _ (Opd.topt _ _ _ rfl tO) Opds.nil))) ?_
            refine Run.pure (dd := some 35) rfl rfl (op_pick_and rfl (Opd.tmp _ _ rfl) (Opd.topt _ _ _ rfl tO)) ?_
            refine Run.pure (dd := some 36) rfl rfl (op_move rfl (Opd.tmp _ _ rfl)) ?_
            refine Run.pureG (dd := some 37) rfl rfl rfl tG (op_move rfl (Opd.tmp _ _ rfl)) ?_
            refine Run.pureG (dd := some 38) rfl rfl rfl tG (op_move rfl (Opd.tmp _ _ rfl)) ?_
            refine Run.pureG (dd := some 39) rfl rfl rfl tG (op_sub rfl (Opd.topt _ _ _ rfl tO) (Opd.const _) tI) ?_
            refine Run.pureG (dd := some 40) rfl rfl rfl tG (op_idx_fz (i - 1) rfl (Opd.topt _ _ _ rfl tO) (Opd.topt _ _ _ rfl tO) (by intro hg; have h0 : 0 < i := (by simp at hg; omega); exact ⟨by omega, (hq h0).2⟩)) ?_
            refine Run.pureG (dd := some 41) rfl rfl rfl tG (op_fld_fz (by decide) rfl (Opd.topt _ _ _ rfl tO) tR) ?_
            refine Run.pureG (dd := some 42) rfl rfl rfl tG (op_load1_fz rfl (Opd.topt _ _ _ rfl tO) rfl) ?_
            refine Run.pureG (dd := some 43) rfl rfl rfl tG (op_fld_ptr (by decide) rfl (Opd.tmp _ _ rfl)) ?_
            refine Run.loadG (dd := some 44) rfl rfl rfl tG (op_load1_flat rfl (Opd.topt _ _ _ rfl tO) tH rfl) ?_
            refine Run.pureG (dd := some 45) rfl rfl rfl tG (op_eql rfl (Opd.topt _ _ _ rfl tO) (Opd.topt _ _ _ rfl tO)) ?_
            refine Run.pure (dd := some 46) rfl rfl (op_pick_and rfl (Opd.tmp _ _ rfl) (Opd.topt _ _ _ rfl tO)) ?_
            refine Run.pure (dd := some 47) rfl rfl (op_move rfl (Opd.tmp _ _ rfl)) ?_
            refine Run.pureG (dd := some 48) rfl rfl rfl tG (op_move rfl (Opd.tmp _ _ rfl)) ?_
            refine Run.pureG (dd := some 49) rfl rfl rfl tG (op_move rfl (Opd.tmp _ _ rfl)) ?_
            refine Run.pureG (dd := some 50) rfl rfl rfl tG (op_sub rfl (Opd.topt _ _ _ rfl tO) (Opd.const _) tI) ?_
            refine Run.pureG (dd := some 51) rfl rfl rfl tG (op_idx_fz (i - 1) rfl (Opd.topt _ _ _ rfl tO) (Opd.topt _ _ _ rfl tO) (by intro hg; have h0 : 0 < i := (by simp at hg; omega); exact ⟨by omega, (hq h0).2⟩)) ?_
            refine Run.pureG (dd := some 52) rfl rfl rfl tG (op_fld_fz (by decide) rfl (Opd.topt _ _ _ rfl tO) tR) ?_
            refine Run.pureG (dd := some 53) rfl rfl rfl tG (op_load1_fz rfl (Opd.topt _ _ _ rfl tO) rfl) ?_
            refine Run.pureG (dd := some 54) rfl rfl rfl tG (op_len_fz rfl (by first | exact Opd.topt _ _ _ rfl tO | exact Opd.nil _ _ (Opd.topt _ _ _ rfl tO)) (by first | exact List.length_map _ | rfl)) ?_
            refine Run.pureG (dd := some 55) rfl rfl rfl tG (op_lss rfl (Opd.topt _ _ _ rfl tO) (Opd.const _)) ?_
            refine Run.pure (dd := some 56) rfl rfl (op_pick_and rfl (Opd.tmp _ _ rfl) (Opd.topt _ _ _ rfl tO)) ?_
            refine Run.nil (FinD.mk (by kernel_rfl) ?_)
            refine nK ?_
            refine n_cond _ rfl (fun hb => ?_) (fun hb => ?_)
            · rw [if_pos hb] at ho
              rw [← ho]
              refine nK ?_
              refine s_reg rfl ?_
              refine Run.pure (dd := some 2) rfl rfl (op_assign rfl (Opd.const _)) ?_
              refine Run.nil (FinR.mk ?_)
              refine nK ?_
              (first | exact s_o1 hC rfl tV | exact s_o2 hC rfl tV tV | exact s_o3 hC rfl tV tV tV | exact s_o4 hC rfl tV tV tV tV | exact s_out0 hC rfl | exact s_outO hC rfl rfl rfl)
            · rw [if_neg (by rw [hb]; decide)] at ho
              refine nK ?_
              refine s_reg rfl ?_
              refine Run.pure (dd := some 57) rfl rfl (op_move rfl (Opd.tmp _ _ rfl)) ?_
              refine Run.pure (dd := some 58) rfl rfl (op_move rfl (Opd.tmp _ _ rfl)) ?_
              refine Run.pureG (dd := some 59) rfl rfl rfl tG (op_fld_ptr (by decide) rfl (Opd.tmp _ _ rfl)) ?_
              refine Run.loadG (dd := some 60) rfl rfl rfl tG (op_load1_flat rfl (Opd.topt _ _ _ rfl tO) tH rfl) ?_
              refine Run.pureG (dd := some 61) rfl rfl rfl tG (op_call_pure (fun _ => confed_c _) rfl (Opd.func _) (Opds.cons _ _ _ _ (Opd.topt _ _ _ rfl tO) Opds.nil)) ?_
              refine Run.pureG (dd := some 62) rfl rfl rfl tG (op_not rfl (Opd.topt _ _ _ rfl tO)) ?_
              refine Run.pure (dd := some 63) rfl rfl (op_pick_or rfl (Opd.tmp _ _ rfl) (Opd.topt _ _ _ rfl tO)) ?_
              refine Run.pure (dd := some 3) rfl rfl (op_assign rfl (Opd.tmp _ _ rfl)) ?_
              refine Run.nil (FinR.mk ?_)
              refine nK ?_
              refine s_reg rfl ?_
              refine Run.pure (dd := some 64) rfl rfl (op_add rfl (Opd.tmp _ _ rfl) (Opd.const _) tI) ?_
              refine Run.pure (dd := some 12) rfl rfl (op_move rfl (Opd.tmp _ _ rfl)) ?_
              refine Run.nil (FinR.mk ?_)
              refine nK ?_
              refine Next.weak [] [] (by rfl) (keeps0 hC _) (by repeat (first | exact trivial | refine ⟨⟨_, rfl, .inl ⟨rfl, rfl⟩⟩, ?_⟩)) (by repeat (first | exact trivial | refine ⟨ent_same rfl rfl rfl tL, ?_⟩ | refine ⟨ent_same rfl rfl (rfEq rfl tU) tL, ?_⟩ | refine ⟨ent_same rfl rfl (flEq rfl (by first | (simp; done) | (simp; omega) | (simp [encP, encAt, encSg, encTl, encW, encN, encY]; done) | simp [maxC, minC])) trivial, ?_⟩)) (fun _ h => by simp at h) (hK1 ho)
      · have hie : i = p.length := by simp at hb; omega
        rw [hie, List.drop_length] at ho
        rw [← ho]
        simp only [pthGo]
        refine nK ?_
        refine s_reg rfl ?_
        refine Run.pure (dd := some 2) rfl rfl (op_assign rfl (Opd.const _)) ?_
        refine Run.nil (FinR.mk ?_)
        refine nK ?_
        (first | exact s_o1 hC rfl tV | exact s_o2 hC rfl tV tV | exact s_o3 hC rfl tV tV tV | exact s_o4 hC rfl tV tV tV tV | exact s_out0 hC rfl | exact s_outO hC rfl rfl rfl)
theorem comm_c (l : List Int) (hn : l.length ≤ 2000000) : Pure Try.prog 79 [VW l] (If .i64 (commE l)) := by
  unfold commE
  refine Meets.intro Try.func79 rfl (Nat.le_of_ble_eq_true rfl) fun C hC => ?_
  simp only [List.map, argEnv, Nat.reduceAdd]
  refine nK ?_
  refine s_reg rfl ?_
  refine Run.pure (dd := some 2) rfl rfl (op_assign rfl (Opd.const _)) ?_
  refine Run.nil (FinR.mk ?_)
  refine nK ?_
  refine s_reg rfl ?_
  refine Run.pure (dd := some 4) rfl rfl (op_move rfl (Opd.tmp _ _ rfl)) ?_
  refine Run.pure (dd := some 5) rfl rfl (op_len_fz rfl (by first | exact Opd.tmp _ _ rfl | exact Opd.nil _ _ (Opd.tmp _ _ rfl)) (by first | exact List.length_map _ | rfl)) ?_
  refine Run.pure (dd := some 6) rfl rfl (op_gtr rfl (Opd.tmp _ _ rfl) (Opd.const _)) ?_
  refine Run.nil (FinR.mk ?_)
  refine nK ?_
  refine n_cond _ rfl (fun hb => ?_) (fun hb => ?_)
  · rw [if_pos (by simp at hb; omega)]
    refine nK ?_
    refine s_reg rfl ?_
    refine Run.pure (dd := some 2) rfl rfl (op_assign rfl (Opd.const _)) ?_
    refine Run.nil (FinR.mk ?_)
    refine nK ?_
    (first | exact s_o1 hC rfl tV | exact s_o2 hC rfl tV tV | exact s_o3 hC rfl tV tV tV | exact s_o4 hC rfl tV tV tV tV | exact s_out0 hC rfl | exact s_outO hC rfl rfl rfl)
  · rw [if_neg (by simp at hb; omega)]
    refine nK ?_
    refine s_reg rfl ?_
    refine Run.pure (dd := some 7) rfl rfl (op_move rfl (Opd.tmp _ _ rfl)) ?_
    refine Run.pure (dd := some 8) rfl rfl (op_len_fz rfl (by first | exact Opd.tmp _ _ rfl | exact Opd.nil _ _ (Opd.tmp _ _ rfl)) (by first | exact List.length_map _ | rfl)) ?_
    refine Run.pure (dd := some 9) rfl rfl (op_move rfl (Opd.const _)) ?_
    refine Run.nil (FinR.mk ?_)
    refine nK ?_
    refine n_loop (ι := Nat) (fun i => ([(0, .fz (VW l)), (7, .fz (VW l)), (8, IV .i64 l.length), (9, IV .i64 i)], [], 0)) (fun i => i ≤ l.length ∧ ascGo (prvG l i) (l.drop i) = ascGo none l) (fun i => l.length - i) 0 ⟨Nat.zero_le _, rfl⟩ ?_ ?_
    · refine Next.weak [] [] (by rfl) (keeps0 hC _) (by repeat (first | exact trivial | refine ⟨⟨_, rfl, .inl ⟨rfl, rfl⟩⟩, ?_⟩)) (by repeat (first | exact trivial | refine ⟨ent_same rfl rfl rfl tL, ?_⟩ | refine ⟨ent_same rfl rfl (rfEq rfl tU) tL, ?_⟩ | refine ⟨ent_same rfl rfl (flEq rfl (by first | (simp; done) | (simp; omega) | (simp [encP, encAt, encSg, encTl, encW, encN, encY]; done) | simp [maxC, minC])) trivial, ?_⟩)) (fun _ h => by simp at h) rel_intro
    · intro i ⟨hi, ho⟩ K hK
      refine nK ?_
      refine s_reg rfl ?_
      refine Run.pure (dd := some 10) rfl rfl (op_lss rfl (Opd.tmp _ _ rfl) (Opd.tmp _ _ rfl)) ?_
      refine Run.nil (FinR.mk ?_)
      refine nK ?_
      refine n_cond _ rfl (fun hb => ?_) (fun hb => ?_)
      · have hlt : i < l.length := by simp at hb; omega
        have hr1 := row_at' encW l i hlt
        obtain ⟨q, hq⟩ := prv_row encW l 0 (by omega : i ≤ l.length)
        rw [asc_step hlt, leP_pos (q := q) fun h => (hq h).1] at ho
        have hK1 := fun h => hK (i + 1) ⟨by omega, h⟩ (by omega)
        generalize l[i] = x at *
        refine nK ?_
        refine s_reg rfl ?_
        refine Run.pure (dd := some 11) rfl rfl (op_move rfl (Opd.tmp _ _ rfl)) ?_
        refine Run.pure (dd := some 3) rfl rfl (op_assign rfl (Opd.tmp _ _ rfl)) ?_
        refine Run.nil (FinR.mk ?_)
        refine nK ?_
        refine s_draw mixed ?_
        refine Run.pure (dd := some 12) rfl rfl (op_move rfl (Opd.tmp _ _ rfl)) ?_
        refine Run.pure (dd := some 13) rfl rfl (op_gtr rfl (Opd.tmp _ _ rfl) (Opd.const _)) ?_
        refine Run.pure (dd := some 14) rfl rfl (op_move rfl (Opd.tmp _ _ rfl)) ?_
        refine Run.pureG (dd := some 15) rfl rfl rfl tG (op_move rfl (Opd.tmp _ _ rfl)) ?_
        refine Run.pureG (dd := some 16) rfl rfl rfl tG (op_move rfl (Opd.tmp _ _ rfl)) ?_
        refine Run.pureG (dd := some 17) rfl rfl rfl tG (op_idx_fz i rfl (Opd.topt _ _ _ rfl tO) (Opd.topt _ _ _ rfl tO) (by intro _; exact ⟨by omega, hr1⟩)) ?_
        refine Run.pureG (dd := some 18) rfl rfl rfl tG (op_load1_fz rfl (Opd.topt _ _ _ rfl tO) rfl) ?_
        refine Run.pureG (dd := some 19) rfl rfl rfl tG (op_move rfl (Opd.tmp _ _ rfl)) ?_
        refine Run.pureG (dd := some 20) rfl rfl rfl tG (op_move rfl (Opd.tmp _ _ rfl)) ?_
        refine Run.pureG (dd := some 21) rfl rfl rfl tG (op_sub rfl (Opd.topt _ _ _ rfl tO) (Opd.const _) tI) ?_
        refine Run.pureG (dd := some 22) rfl rfl rfl tG (op_idx_fz (i - 1) rfl (Opd.topt _ _ _ rfl tO) (Opd.topt _ _ _ rfl tO) (by intro hg; have h0 : 0 < i := (by simp at hg; omega); exact ⟨by omega, (hq h0).2⟩)) ?_
        refine Run.pureG (dd := some 23) rfl rfl rfl tG (op_load1_fz rfl (Opd.topt _ _ _ rfl tO) rfl) ?_
        refine Run.pureG (dd := some 24) rfl rfl rfl tG (op_leq rfl (Opd.topt _ _ _ rfl tO) (Opd.topt _ _ _ rfl tO)) ?_
        refine Run.pure (dd := some 25) rfl rfl (op_pick_and rfl (Opd.tmp _ _ rfl) (Opd.topt _ _ _ rfl tO)) ?_
        refine Run.nil (FinD.mk (by kernel_rfl) ?_)
        refine nK ?_
        refine n_cond _ rfl (fun hb => ?_) (fun hb => ?_)
        · rw [if_pos hb] at ho
          rw [← ho]
          refine nK ?_
          refine s_reg rfl ?_
          refine Run.pure (dd := some 2) rfl rfl (op_assign rfl (Opd.const _)) ?_
          refine Run.nil (FinR.mk ?_)
          refine nK ?_
          (first | exact s_o1 hC rfl tV | exact s_o2 hC rfl tV tV | exact s_o3 hC rfl tV tV tV | exact s_o4 hC rfl tV tV tV tV | exact s_out0 hC rfl | exact s_outO hC rfl rfl rfl)
        · rw [if_neg (by rw [hb]; decide)] at ho
          refine nK ?_
          refine s_reg rfl ?_
          refine Run.pure (dd := some 26) rfl rfl (op_add rfl (Opd.tmp _ _ rfl) (Opd.const _) tI) ?_
          refine Run.pure (dd := some 9) rfl rfl (op_move rfl (Opd.tmp _ _ rfl)) ?_
          refine Run.nil (FinR.mk ?_)
          refine nK ?_
          refine Next.weak [] [] (by rfl) (keeps0 hC _) (by repeat (first | exact trivial | refine ⟨⟨_, rfl, .inl ⟨rfl, rfl⟩⟩, ?_⟩)) (by repeat (first | exact trivial | refine ⟨ent_same rfl rfl rfl tL, ?_⟩ | refine ⟨ent_same rfl rfl (rfEq rfl tU) tL, ?_⟩ | refine ⟨ent_same rfl rfl (flEq rfl (by first | (simp; done) | (simp; omega) | (simp [encP, encAt, encSg, encTl, encW, encN, encY]; done) | simp [maxC, minC])) trivial, ?_⟩)) (fun _ h => by simp at h) (hK1 ho)
      · have hie : i = l.length := by simp at hb; omega
        rw [hie, List.drop_length] at ho
        rw [← ho]
        have hnil : ∀ p, ascGo p [] = 0 := fun p => by cases p <;> rfl
        rw [hnil]
        refine nK ?_
        refine s_reg rfl ?_
        refine Run.pure (dd := some 2) rfl rfl (op_assign rfl (Opd.const _)) ?_
        refine Run.nil (FinR.mk ?_)
        refine nK ?_
        (first | exact s_o1 hC rfl tV | exact s_o2 hC rfl tV tV | exact s_o3 hC rfl tV tV tV | exact s_o4 hC rfl tV tV tV tV | exact s_out0 hC rfl | exact s_outO hC rfl rfl rfl)
theorem att_c (a : Att) (ha : okAt a) : Pure Try.prog 52 [.agg (encAt a)] (If .i64 (attE a)) := by
  have k1 := pth_c a.pa ha.lpa fun s hs => (ha.pa s hs).len
  have k2 := comm_c a.co ha.lco
  have k3 := cls_c a.cl ha.lcl
  have k4 := unk_c a.un ha.lun
  have k5 := fst_c [whenE (decide (a.or' < 0) || decide (2 < a.or')) 5, pthE a.pa, whenE (decide (a.nh = 0)) 1, optE a.hm a.md 0, optE a.hp a.pf 0, optE a.ha a.aa 1, whenE (!a.ha && decide (a.ad ≠ 0)) 1, commE a.co, whenE (decide (a.ho = decide (a.og = 0))) 1, clsE a.cl, unkE a.un] (by simp)
  unfold attE
  generalize pthE a.pa = e1 at *
  generalize commE a.co = e2 at *
  generalize clsE a.cl = e3 at *
  generalize unkE a.un = e4 at *
  refine Meets.intro Try.func52 rfl (Nat.le_of_ble_eq_true rfl) fun C hC => ?_
  simp only [List.map, argEnv, Nat.reduceAdd]
  refine nK ?_
  refine s_reg rfl ?_
  refine Run.eff (dd := some 1) rfl rfl (op_box_flat rfl (Opd.tmp _ _ rfl) tC rfl) ?_
  refine Run.pure (dd := some 2) rfl rfl (op_assign rfl (Opd.const _)) ?_
  refine Run.nil (FinR.mk ?_)
  refine nK ?_
  refine s_draw mixed ?_
  refine Run.pure (dd := some 3) rfl rfl (op_fld_ptr (by decide) rfl (Opd.tmp _ _ rfl)) ?_
  refine Run.load (dd := some 4) rfl rfl (op_load1_flat rfl (Opd.tmp _ _ rfl) tH rfl) ?_
  refine Run.pure (dd := some 5) rfl rfl (op_lss rfl (Opd.tmp _ _ rfl) (Opd.const _)) ?_
  refine Run.pure (dd := some 6) rfl rfl (op_move rfl (Opd.tmp _ _ rfl)) ?_
  refine Run.pureG (dd := some 7) rfl rfl rfl tG (op_fld_ptr (by decide) rfl (Opd.tmp _ _ rfl)) ?_
  refine Run.loadG (dd := some 8) rfl rfl rfl tG (op_load1_flat rfl (Opd.topt _ _ _ rfl tO) tH rfl) ?_
  refine Run.pureG (dd := some 9) rfl rfl rfl tG (op_gtr rfl (Opd.topt _ _ _ rfl tO) (Opd.const _)) ?_
  refine Run.pure (dd := some 10) rfl rfl (op_pick_or rfl (Opd.tmp _ _ rfl) (Opd.topt _ _ _ rfl tO)) ?_
  refine Run.pure (dd := some 11) rfl rfl (op_call_pure (fun _ => when_c _ _) rfl (Opd.func _) (Opds.cons _ _ _ _ (Opd.tmp _ _ rfl) (Opds.cons _ _ _ _ (Opd.const _) Opds.nil))) ?_
  refine Run.pure (dd := some 12) rfl rfl (op_fld_ptr (by decide) rfl (Opd.tmp _ _ rfl)) ?_
  refine Run.load (dd := some 13) rfl rfl (op_load1_flat rfl (Opd.tmp _ _ rfl) tH rfl) ?_
  refine Run.pure (dd := some 14) rfl rfl (op_call_pure (fun _ => k1) rfl (Opd.func _) (Opds.cons _ _ _ _ (Opd.tmp _ _ rfl) Opds.nil)) ?_
  refine Run.pure (dd := some 15) rfl rfl (op_fld_ptr (by decide) rfl (Opd.tmp _ _ rfl)) ?_
  refine Run.load (dd := some 16) rfl rfl (op_load1_flat rfl (Opd.tmp _ _ rfl) tH rfl) ?_
  refine Run.pure (dd := some 17) rfl rfl (op_eql rfl (Opd.tmp _ _ rfl) (Opd.const _)) ?_
  refine Run.pure (dd := some 18) rfl rfl (op_call_pure (fun _ => when_c _ _) rfl (Opd.func _) (Opds.cons _ _ _ _ (Opd.tmp _ _ rfl) (Opds.cons _ _ _ _ (Opd.const _) Opds.nil))) ?_
  refine Run.pure (dd := some 19) rfl rfl (op_fld_ptr (by decide) rfl (Opd.tmp _ _ rfl)) ?_
  refine Run.load (dd := some 20) rfl rfl (op_load1_flat rfl (Opd.tmp _ _ rfl) tH rfl) ?_
  refine Run.pure (dd := some 21) rfl rfl (op_fld_ptr (by decide) rfl (Opd.tmp _ _ rfl)) ?_
  refine Run.load (dd := some 22) rfl rfl (op_load1_flat rfl (Opd.tmp _ _ rfl) tH rfl) ?_
  refine Run.pure (dd := some 23) rfl rfl (op_call_pure (fun _ => opt_c _ _ _) rfl (Opd.func _) (Opds.cons _ _ _ _ (Opd.tmp _ _ rfl) (Opds.cons _ _ _ _ (Opd.tmp _ _ rfl) (Opds.cons _ _ _ _ (Opd.const _) Opds.nil)))) ?_
  refine Run.pure (dd := some 24) rfl rfl (op_fld_ptr (by decide) rfl (Opd.tmp _ _ rfl)) ?_
  refine Run.load (dd := some 25) rfl rfl (op_load1_flat rfl (Opd.tmp _ _ rfl) tH rfl) ?_
  refine Run.pure (dd := some 26) rfl rfl (op_fld_ptr (by decide) rfl (Opd.tmp _ _ rfl)) ?_
  refine Run.load (dd := some 27) rfl rfl (op_load1_flat rfl (Opd.tmp _ _ rfl) tH rfl) ?_
  refine Run.pure (dd := some 28) rfl rfl (op_call_pure (fun _ => opt_c _ _ _) rfl (Opd.func _) (Opds.cons _ _ _ _ (Opd.tmp _ _ rfl) (Opds.cons _ _ _ _ (Opd.tmp _ _ rfl) (Opds.cons _ _ _ _ (Opd.const _) Opds.nil)))) ?_
  refine Run.pure (dd := some 29) rfl rfl (op_fld_ptr (by decide) rfl (Opd.tmp _ _ rfl)) ?_
  refine Run.load (dd := some 30) rfl rfl (op_load1_flat rfl (Opd.tmp _ _ rfl) tH rfl) ?_
  refine Run.pure (dd := some 31) rfl rfl (op_fld_ptr (by decide) rfl (Opd.tmp _ _ rfl)) ?_
  refine Run.load (dd := some 32) rfl rfl (op_load1_flat rfl (Opd.tmp _ _ rfl) tH rfl) ?_
  refine Run.pure (dd := some 33) rfl rfl (op_call_pure (fun _ => opt_c _ _ _) rfl (Opd.func _) (Opds.cons _ _ _ _ (Opd.tmp _ _ rfl) (Opds.cons _ _ _ _ (Opd.tmp _ _ rfl) (Opds.cons _ _ _ _ (Opd.const _) Opds.nil)))) ?_
  refine Run.pure (dd := some 34) rfl rfl (op_fld_ptr (by decide) rfl (Opd.tmp _ _ rfl)) ?_
  refine Run.load (dd := some 35) rfl rfl (op_load1_flat rfl (Opd.tmp _ _ rfl) tH rfl) ?_
  refine Run.pure (dd := some 36) rfl rfl (op_not rfl (Opd.tmp _ _ rfl)) ?_
  refine Run.pure (dd := some 37) rfl rfl (op_move rfl (Opd.tmp _ _ rfl)) ?_
  refine Run.pureG (dd := some 38) rfl rfl rfl tG (op_fld_ptr (by decide) rfl (Opd.tmp _ _ rfl)) ?_
  refine Run.loadG (dd := some 39) rfl rfl rfl tG (op_load1_flat rfl (Opd.topt _ _ _ rfl tO) tH rfl) ?_
  refine Run.pureG (dd := some 40) rfl rfl rfl tG (op_neq rfl (Opd.topt _ _ _ rfl tO) (Opd.const _)) ?_
  refine Run.pure (dd := some 41) rfl rfl (op_pick_and rfl (Opd.tmp _ _ rfl) (Opd.topt _ _ _ rfl tO)) ?_
  refine Run.pure (dd := some 42) rfl rfl (op_call_pure (fun _ => when_c _ _) rfl (Opd.func _) (Opds.cons _ _ _ _ (Opd.tmp _ _ rfl) (Opds.cons _ _ _ _ (Opd.const _) Opds.nil))) ?_
  refine Run.pure (dd := some 43) rfl rfl (op_fld_ptr (by decide) rfl (Opd.tmp _ _ rfl)) ?_
  refine Run.load (dd := some 44) rfl rfl (op_load1_flat rfl (Opd.tmp _ _ rfl) tH rfl) ?_
  refine Run.pure (dd := some 45) rfl rfl (op_call_pure (fun _ => k2) rfl (Opd.func _) (Opds.cons _ _ _ _ (Opd.tmp _ _ rfl) Opds.nil)) ?_
  refine Run.pure (dd := some 46) rfl rfl (op_fld_ptr (by decide) rfl (Opd.tmp _ _ rfl)) ?_
  refine Run.load (dd := some 47) rfl rfl (op_load1_flat rfl (Opd.tmp _ _ rfl) tH rfl) ?_
  refine Run.pure (dd := some 48) rfl rfl (op_fld_ptr (by decide) rfl (Opd.tmp _ _ rfl)) ?_
  refine Run.load (dd := some 49) rfl rfl (op_load1_flat rfl (Opd.tmp _ _ rfl) tH rfl) ?_
  refine Run.pure (dd := some 50) rfl rfl (op_eql rfl (Opd.tmp _ _ rfl) (Opd.const _)) ?_
  refine Run.pure (dd := some 51) rfl rfl (op_eqlB rfl (Opd.tmp _ _ rfl) (Opd.tmp _ _ rfl)) ?_
  refine Run.pure (dd := some 52) rfl rfl (op_call_pure (fun _ => when_c _ _) rfl (Opd.func _) (Opds.cons _ _ _ _ (Opd.tmp _ _ rfl) (Opds.cons _ _ _ _ (Opd.const _) Opds.nil))) ?_
  refine Run.pure (dd := some 53) rfl rfl (op_fld_ptr (by decide) rfl (Opd.tmp _ _ rfl)) ?_
  refine Run.load (dd := some 54) rfl rfl (op_load1_flat rfl (Opd.tmp _ _ rfl) tH rfl) ?_
  refine Run.pure (dd := some 55) rfl rfl (op_call_pure (fun _ => k3) rfl (Opd.func _) (Opds.cons _ _ _ _ (Opd.tmp _ _ rfl) Opds.nil)) ?_
  refine Run.pure (dd := some 56) rfl rfl (op_fld_ptr (by decide) rfl (Opd.tmp _ _ rfl)) ?_
  refine Run.load (dd := some 57) rfl rfl (op_load1_flat rfl (Opd.tmp _ _ rfl) tH rfl) ?_
  refine Run.pure (dd := some 58) rfl rfl (op_call_pure (fun _ => k4) rfl (Opd.func _) (Opds.cons _ _ _ _ (Opd.tmp _ _ rfl) Opds.nil)) ?_
  refine Run.pure (dd := some 59) rfl rfl (op_buildSlice_fz rfl (RowsF.cons _ _ _ _ _ _ (Opd.tmp _ _ rfl) tC (by rfl) (RowsF.cons _ _ _ _ _ _ (Opd.tmp _ _ rfl) tC (by rfl) (RowsF.cons _ _ _ _ _ _ (Opd.tmp _ _ rfl) tC (by rfl) (RowsF.cons _ _ _ _ _ _ (Opd.tmp _ _ rfl) tC (by rfl) (RowsF.cons _ _ _ _ _ _ (Opd.tmp _ _ rfl) tC (by rfl) (RowsF.cons _ _ _ _ _ _ (Opd.tmp _ _ rfl) tC (by rfl) (RowsF.cons _ _ _ _ _ _ (Opd.tmp _ _ rfl) tC (by rfl) (RowsF.cons _ _ _ _ _ _ (Opd.tmp _ _ rfl) tC (by rfl) (RowsF.cons _ _ _ _ _ _ (Opd.tmp _ _ rfl) tC (by rfl) (RowsF.cons _ _ _ _ _ _ (Opd.tmp _ _ rfl) tC (by rfl) (RowsF.cons _ _ _ _ _ _ (Opd.tmp _ _ rfl) tC (by rfl) (RowsF.nil _)))))))))))) rfl rfl) ?_
  refine Run.pure (dd := some 60) rfl rfl (op_call_pure (fun _ => k5) rfl (Opd.func _) (Opds.cons _ _ _ _ (Opd.tmp _ _ rfl) Opds.nil)) ?_
  refine Run.pure (dd := some 2) rfl rfl (op_assign rfl (Opd.tmp _ _ rfl)) ?_
  refine Run.nil (FinD.mk (by kernel_rfl) ?_)
  refine nK ?_
  (first | exact s_o1 hC rfl tV | exact s_o2 hC rfl tV tV | exact s_o3 hC rfl tV tV tV | exact s_o4 hC rfl tV tV tV tV | exact s_out0 hC rfl | exact s_outO hC rfl rfl rfl)
end Go.Proofs.Ytfkcbglnadjnnaa
/- The reference's order of checks. No program in sight. -/
namespace Go.Pl
open Go Go.RT
set_option linter.all false
theorem among4 (k : Int) : (!amongB k [1, 2, 3, 4]) = (decide (k < 1) || decide (4 < k)) := by
  rw [Bool.eq_iff_iff]; simp [amongB]; omega
theorem among14 (k : Int) : amongB k [1, 4] = (decide (k = 1) || decide (k = 4)) := by
  rw [Bool.eq_iff_iff]; simp [amongB]; omega
theorem conf34 (k : Int) : confB k = (decide (k = 3) || decide (k = 4)) := by
  rw [Bool.eq_iff_iff]; simp [confB, amongB]; omega
theorem among23 {k : Int} (h : (!amongB k [1, 2, 3, 4]) = false) : amongB k [2, 3] = !amongB k [1, 4] := by
  rw [among4] at h
  rw [Bool.eq_iff_iff]; simp [amongB] at h ⊢; omega
def rsegX (x : Seg) (s : List Seg) (pr : Option Seg) : Int := if segE x ≠ 0 then segE x else if (confB x.k && plainB s) = true then 1 else if mrgB pr x = true then 1 else 0
theorem pth_step2 {l : List Seg} {i : Nat} (h : i < l.length) : pthGo (l.take i) (l.drop i) = if rsegX l[i] (l.take i) (prvG l i) ≠ 0 then rsegX l[i] (l.take i) (prvG l i) else pthGo (l.take (i + 1)) (l.drop (i + 1)) := by
  rw [pth_step h]
  unfold rsegX
  by_cases h1 : segE l[i] ≠ 0
  · simp only [if_pos h1]
  · simp only [if_neg h1]
    by_cases h2 : (confB l[i].k && plainB (l.take i)) = true
    · simp only [if_pos h2]; rfl
    · simp only [if_neg h2]
      by_cases h3 : mrgB (prvG l i) l[i] = true
      · simp only [if_pos h3]; rfl
      · simp only [if_neg h3]; rfl
theorem asc_one {l : List Int} (h : 0 < l.length) : ascGo (prvG l 1) (l.drop 1) = ascGo none l := by
  have := asc_step h
  simp only [prvG_zero, leP, List.drop_zero] at this
  exact this.symm
theorem f_c {x : Int} {l : List Int} (h : x ≠ 0) : fstI (x :: l) = x := by simp only [fstI]; rw [if_pos h]
theorem f_n {x : Int} {l : List Int} (h : x = 0) : fstI (x :: l) = fstI l := by simp only [fstI]; rw [if_neg (by simp [h])]
theorem when_t {b : Bool} {e : Int} (h : b = true) : whenE b e = e := by unfold whenE; rw [if_pos h]
theorem when_f {b : Bool} {e : Int} (h : b = false) : whenE b e = 0 := by unfold whenE; rw [if_neg (by simp [h])]
theorem opt_r {b : Bool} {n low : Int} (h : (b && (decide (n < low) || decide (4294967295 < n))) = true) : optE b n low = 5 := by unfold optE; rw [if_pos h]
theorem opt_i {b : Bool} {n low : Int} (h : (b && (decide (n < low) || decide (4294967295 < n))) = false) (h2 : (!b && decide (n ≠ 0)) = true) : optE b n low = 1 := by unfold optE; rw [if_neg (by rw [h]; decide), if_pos h2]
theorem opt_f {b : Bool} {n low : Int} (h : (b && (decide (n < low) || decide (4294967295 < n))) = false) (h2 : (!b && decide (n ≠ 0)) = false) : optE b n low = 0 := by unfold optE; rw [if_neg (by rw [h]; decide), if_neg (by rw [h2]; decide)]
theorem orig_eq (b : Bool) (n : Int) : decide (b ≠ decide (n ≠ 0)) = decide (b = decide (n = 0)) := by
  by_cases h : n = 0 <;> cases b <;> simp [h]
end Go.Pl
namespace Go.Proofs.Ytfkcbglnadjnnaa
open Go Go.RT Go.Proofs Go.Pl
set_option linter.all false
set_option maxRecDepth 20000
theorem word_c (n : Int) : Pure Try.prog 58 [If .i64 n] (Bf (!(decide (n < 0) || decide (4294967295 < n)))) := by
  have e : (!(decide (n < 0) || decide (4294967295 < n))) = (decide (0 ≤ n) && decide (n ≤ 4294967295)) := by
    rw [Bool.eq_iff_iff]; simp
  rw [e]
  refine Meets.intro Try.func58 rfl (Nat.le_of_ble_eq_true rfl) fun C hC => ?_
  simp only [List.map, argEnv, Nat.reduceAdd]
  refine nK ?_
  refine s_reg rfl ?_
  refine Run.pure (dd := some 2) rfl rfl (op_assign rfl (Opd.const _)) ?_
  refine Run.nil (FinR.mk ?_)
  refine nK ?_
  refine s_reg rfl ?_
  refine Run.pure (dd := some 3) rfl rfl (op_move rfl (Opd.tmp _ _ rfl)) ?_
  refine Run.pure (dd := some 4) rfl rfl (op_geq rfl (Opd.tmp _ _ rfl) (Opd.const _)) ?_
  refine Run.pure (dd := some 5) rfl rfl (op_move rfl (Opd.tmp _ _ rfl)) ?_
  refine Run.pureG (dd := some 6) rfl rfl rfl tG (op_move rfl (Opd.tmp _ _ rfl)) ?_
  refine Run.pureG (dd := some 7) rfl rfl rfl tG (op_leq rfl (Opd.topt _ _ _ rfl tO) (Opd.const _)) ?_
  refine Run.pure (dd := some 8) rfl rfl (op_pick_and rfl (Opd.tmp _ _ rfl) (Opd.topt _ _ _ rfl tO)) ?_
  refine Run.pure (dd := some 2) rfl rfl (op_assign rfl (Opd.tmp _ _ rfl)) ?_
  refine Run.nil (FinR.mk ?_)
  refine nK ?_
  (first | exact s_o1 hC rfl tV | exact s_o2 hC rfl tV tV | exact s_o3 hC rfl tV tV tV | exact s_o4 hC rfl tV tV tV tV | exact s_out0 hC rfl | exact s_outO hC rfl rfl rfl)
theorem isset_c (k : Int) : Pure Try.prog 100 [If .i64 k] (Bf (amongB k [1, 4])) := by
  rw [among14]
  refine Meets.intro Try.func100 rfl (Nat.le_of_ble_eq_true rfl) fun C hC => ?_
  simp only [List.map, argEnv, Nat.reduceAdd]
  refine nK ?_
  refine s_reg rfl ?_
  refine Run.pure (dd := some 2) rfl rfl (op_assign rfl (Opd.const _)) ?_
  refine Run.nil (FinR.mk ?_)
  refine nK ?_
  refine s_reg rfl ?_
  refine Run.pure (dd := some 3) rfl rfl (op_move rfl (Opd.tmp _ _ rfl)) ?_
  refine Run.pure (dd := some 4) rfl rfl (op_eql rfl (Opd.tmp _ _ rfl) (Opd.const _)) ?_
  refine Run.pure (dd := some 5) rfl rfl (op_move rfl (Opd.tmp _ _ rfl)) ?_
  refine Run.pureG (dd := some 6) rfl rfl rfl tG (op_move rfl (Opd.tmp _ _ rfl)) ?_
  refine Run.pureG (dd := some 7) rfl rfl rfl tG (op_eql rfl (Opd.topt _ _ _ rfl tO) (Opd.const _)) ?_
  refine Run.pure (dd := some 8) rfl rfl (op_pick_or rfl (Opd.tmp _ _ rfl) (Opd.topt _ _ _ rfl tO)) ?_
  refine Run.pure (dd := some 2) rfl rfl (op_assign rfl (Opd.tmp _ _ rfl)) ?_
  refine Run.nil (FinR.mk ?_)
  refine nK ?_
  (first | exact s_o1 hC rfl tV | exact s_o2 hC rfl tV tV | exact s_o3 hC rfl tV tV tV | exact s_o4 hC rfl tV tV tV tV | exact s_out0 hC rfl | exact s_outO hC rfl rfl rfl)
theorem isconf_c (k : Int) : Pure Try.prog 101 [If .i64 k] (Bf (confB k)) := by
  rw [conf34]
  refine Meets.intro Try.func101 rfl (Nat.le_of_ble_eq_true rfl) fun C hC => ?_
  simp only [List.map, argEnv, Nat.reduceAdd]
  refine nK ?_
  refine s_reg rfl ?_
  refine Run.pure (dd := some 2) rfl rfl (op_assign rfl (Opd.const _)) ?_
  refine Run.nil (FinR.mk ?_)
  refine nK ?_
  refine s_reg rfl ?_
  refine Run.pure (dd := some 3) rfl rfl (op_move rfl (Opd.tmp _ _ rfl)) ?_
  refine Run.pure (dd := some 4) rfl rfl (op_eql rfl (Opd.tmp _ _ rfl) (Opd.const _)) ?_
  refine Run.pure (dd := some 5) rfl rfl (op_move rfl (Opd.tmp _ _ rfl)) ?_
  refine Run.pureG (dd := some 6) rfl rfl rfl tG (op_move rfl (Opd.tmp _ _ rfl)) ?_
  refine Run.pureG (dd := some 7) rfl rfl rfl tG (op_eql rfl (Opd.topt _ _ _ rfl tO) (Opd.const _)) ?_
  refine Run.pure (dd := some 8) rfl rfl (op_pick_or rfl (Opd.tmp _ _ rfl) (Opd.topt _ _ _ rfl tO)) ?_
  refine Run.pure (dd := some 2) rfl rfl (op_assign rfl (Opd.tmp _ _ rfl)) ?_
  refine Run.nil (FinR.mk ?_)
  refine nK ?_
  (first | exact s_o1 hC rfl tV | exact s_o2 hC rfl tV tV | exact s_o3 hC rfl tV tV tV | exact s_o4 hC rfl tV tV tV tV | exact s_out0 hC rfl | exact s_outO hC rfl rfl rfl)
theorem rseg_c (p : List Seg) (i : Nat) (x : Seg) (hn : p.length ≤ 2000000) (hi : i < p.length) (hx : p[i]? = some x) (hs : x.as'.length ≤ 2000000) : Pure Try.prog 85 [VSg p, If .i64 i] (If .i64 (rsegX x (p.take i) (prvG p i))) := by
  have hr1 : (p.map encSg)[i]? = some (encSg x) := by rw [List.getElem?_map, hx]; rfl
  obtain ⟨q, hq⟩ := prv_row encSg p ⟨0, []⟩ (by omega : i ≤ p.length)
  have hsx : segE x = if (decide (x.k < 1) || decide (4 < x.k)) = true then 15 else if x.as'.length = 0 then 1 else if 255 < x.as'.length then 4 else if rngGo x.as' ≠ 0 then rngGo x.as' else if amongB x.k [1, 4] = true then ascGo none x.as' else 0 := by
    rw [← among4]; rfl
  unfold rsegX
  rw [mrg_pos (q := q) fun h => (hq h).1]
  refine Meets.intro Try.func85 rfl (Nat.le_of_ble_eq_true rfl) fun C hC => ?_
  simp only [List.map, argEnv, Nat.reduceAdd]
  refine nK ?_
  refine s_reg rfl ?_
  refine Run.pure (dd := some 4) rfl rfl (op_assign rfl (Opd.const _)) ?_
  refine Run.nil (FinR.mk ?_)
  refine nK ?_
  refine s_reg rfl ?_
  refine Run.pure (dd := some 11) rfl rfl (op_move rfl (Opd.tmp _ _ rfl)) ?_
  refine Run.pure (dd := some 12) rfl rfl (op_move rfl (Opd.tmp _ _ rfl)) ?_
  refine Run.pure (dd := some 13) rfl rfl (op_idx_fz i rfl (Opd.tmp _ _ rfl) (Opd.tmp _ _ rfl) (by intro _; exact ⟨by omega, hr1⟩)) ?_
  refine Run.pure (dd := some 14) rfl rfl (op_loadw_fz rfl (Opd.tmp _ _ rfl) rfl) ?_
  refine Run.eff (dd := some 5) rfl rfl (op_alloc rfl rfl rfl rfl) ?_
  refine Run.eff (dd := none) rfl rfl (op_store_flat rfl (Opd.tmp _ _ rfl) (Opd.tmp _ _ rfl) tC rfl rfl (by first | rfl | assumption) tS) ?_
  refine Run.nil (FinR.mk ?_)
  refine nK ?_
  refine s_reg rfl ?_
  refine Run.pure (dd := some 15) rfl rfl (op_fld_ptr (by decide) rfl (Opd.tmp _ _ rfl)) ?_
  refine Run.load (dd := some 16) rfl rfl (op_load1_flat rfl (Opd.tmp _ _ rfl) tH rfl) ?_
  refine Run.pure (dd := some 17) rfl rfl (op_lss rfl (Opd.tmp _ _ rfl) (Opd.const _)) ?_
  refine Run.pure (dd := some 18) rfl rfl (op_move rfl (Opd.tmp _ _ rfl)) ?_
  refine Run.pureG (dd := some 19) rfl rfl rfl tG (op_fld_ptr (by decide) rfl (Opd.tmp _ _ rfl)) ?_
  refine Run.loadG (dd := some 20) rfl rfl rfl tG (op_load1_flat rfl (Opd.topt _ _ _ rfl tO) tH rfl) ?_
  refine Run.pureG (dd := some 21) rfl rfl rfl tG (op_gtr rfl (Opd.topt _ _ _ rfl tO) (Opd.const _)) ?_
  refine Run.pure (dd := some 22) rfl rfl (op_pick_or rfl (Opd.tmp _ _ rfl) (Opd.topt _ _ _ rfl tO)) ?_
  refine Run.nil (FinR.mk ?_)
  refine nK ?_
  refine n_cond _ rfl (fun hb => ?_) (fun hb => ?_)
  · rw [if_pos hb] at hsx
    rw [hsx, if_pos (by decide)]
    refine nK ?_
    refine s_reg rfl ?_
    refine Run.pure (dd := some 4) rfl rfl (op_assign rfl (Opd.const _)) ?_
    refine Run.nil (FinR.mk ?_)
    refine nK ?_
    (first | exact s_o1 hC rfl tV | exact s_o2 hC rfl tV tV | exact s_o3 hC rfl tV tV tV | exact s_o4 hC rfl tV tV tV tV | exact s_out0 hC rfl | exact s_outO hC rfl rfl rfl)
  · rw [if_neg (by rw [hb]; decide)] at hsx
    have hk : (!amongB x.k [1, 2, 3, 4]) = false := (among4 _).trans hb
    refine nK ?_
    refine s_reg rfl ?_
    refine Run.pure (dd := some 23) rfl rfl (op_fld_ptr (by decide) rfl (Opd.tmp _ _ rfl)) ?_
    refine Run.load (dd := some 24) rfl rfl (op_load1_flat rfl (Opd.tmp _ _ rfl) tH rfl) ?_
    refine Run.pure (dd := some 25) rfl rfl (op_len_fz rfl (by first | exact Opd.tmp _ _ rfl | exact Opd.nil _ _ (Opd.tmp _ _ rfl)) (by first | exact List.length_map _ | rfl)) ?_
    refine Run.pure (dd := some 26) rfl rfl (op_eql rfl (Opd.tmp _ _ rfl) (Opd.const _)) ?_
    refine Run.nil (FinR.mk ?_)
    refine nK ?_
    refine n_cond _ rfl (fun hb => ?_) (fun hb => ?_)
    · rw [if_pos (by simpa using hb)] at hsx
      rw [hsx, if_pos (by decide)]
      refine nK ?_
      refine s_reg rfl ?_
      refine Run.pure (dd := some 4) rfl rfl (op_assign rfl (Opd.const _)) ?_
      refine Run.nil (FinR.mk ?_)
      refine nK ?_
      (first | exact s_o1 hC rfl tV | exact s_o2 hC rfl tV tV | exact s_o3 hC rfl tV tV tV | exact s_o4 hC rfl tV tV tV tV | exact s_out0 hC rfl | exact s_outO hC rfl rfl rfl)
    · have hpos : 0 < x.as'.length := by
        have : ¬ x.as'.length = 0 := by simpa using hb
        omega
      rw [if_neg (by omega)] at hsx
      refine nK ?_
      refine s_reg rfl ?_
      refine Run.pure (dd := some 27) rfl rfl (op_fld_ptr (by decide) rfl (Opd.tmp _ _ rfl)) ?_
      refine Run.load (dd := some 28) rfl rfl (op_load1_flat rfl (Opd.tmp _ _ rfl) tH rfl) ?_
      refine Run.pure (dd := some 29) rfl rfl (op_len_fz rfl (by first | exact Opd.tmp _ _ rfl | exact Opd.nil _ _ (Opd.tmp _ _ rfl)) (by first | exact List.length_map _ | rfl)) ?_
      refine Run.pure (dd := some 30) rfl rfl (op_gtr rfl (Opd.tmp _ _ rfl) (Opd.const _)) ?_
      refine Run.nil (FinR.mk ?_)
      refine nK ?_
      refine n_cond _ rfl (fun hb => ?_) (fun hb => ?_)
      · rw [if_pos (by simp at hb; omega)] at hsx
        rw [hsx, if_pos (by decide)]
        refine nK ?_
        refine s_reg rfl ?_
        refine Run.pure (dd := some 4) rfl rfl (op_assign rfl (Opd.const _)) ?_
        refine Run.nil (FinR.mk ?_)
        refine nK ?_
        (first | exact s_o1 hC rfl tV | exact s_o2 hC rfl tV tV | exact s_o3 hC rfl tV tV tV | exact s_o4 hC rfl tV tV tV tV | exact s_out0 hC rfl | exact s_outO hC rfl rfl rfl)
      · rw [if_neg (by simp at hb; omega)] at hsx
        refine nK ?_
        refine s_reg rfl ?_
        refine Run.pure (dd := some 31) rfl rfl (op_fld_ptr (by decide) rfl (Opd.tmp _ _ rfl)) ?_
        refine Run.load (dd := some 32) rfl rfl (op_load1_flat rfl (Opd.tmp _ _ rfl) tH rfl) ?_
        refine Run.pure (dd := some 33) rfl rfl (op_len_fz rfl (by first | exact Opd.tmp _ _ rfl | exact Opd.nil _ _ (Opd.tmp _ _ rfl)) (by first | exact List.length_map _ | rfl)) ?_
        refine Run.pure (dd := some 34) rfl rfl (op_move rfl (Opd.const _)) ?_
        refine Run.nil (FinR.mk ?_)
        refine nK ?_
        refine n_loop (ι := Nat) (fun j => ([(0, .fz (VSg p)), (1, IV .i64 i), (5, .ptr 0 2 0 0), (32, .fz (VI x.as')), (33, IV .i64 x.as'.length), (34, IV .i64 j)], [(0, some (.flat 2 [encSg x]))], 1)) (fun j => j ≤ x.as'.length ∧ rngGo (x.as'.drop j) = rngGo x.as') (fun j => x.as'.length - j) 0 ⟨Nat.zero_le _, rfl⟩ ?_ ?_
        · refine Next.weakS [5] [] (by rfl) (by first | exact keeps0 hC _ | exact keepsN hC _ rfl) (by repeat (first | exact trivial | refine ⟨⟨_, rfl, .inl ⟨rfl, rfl⟩⟩, ?_⟩ | refine ⟨⟨_, rfl, .inl ⟨slEq rfl tN, rfl⟩⟩, ?_⟩ | refine ⟨⟨_, rfl, .inl ⟨ivEq tX, rfl⟩⟩, ?_⟩)) (by repeat (first | exact trivial | refine ⟨ent_same rfl rfl rfl tL, ?_⟩ | refine ⟨ent_same rfl rfl (rfEq rfl tU) tL, ?_⟩ | refine ⟨ent_same rfl rfl (flEq rfl (by first | (simp; done) | (simp; omega) | (simp [encP, encAt, encSg, encTl, encW, encN, encY]; done) | simp [maxC, minC])) trivial, ?_⟩)) rfl (rel_intro)
        · intro j ⟨hj, ho⟩ K hK
          refine nK ?_
          refine s_reg rfl ?_
          refine Run.pure (dd := some 35) rfl rfl (op_lss rfl (Opd.tmp _ _ rfl) (Opd.tmp _ _ rfl)) ?_
          refine Run.nil (FinR.mk ?_)
          refine nK ?_
          refine n_cond _ rfl (fun hb => ?_) (fun hb => ?_)
          · have hlt : j < x.as'.length := by simp at hb; omega
            have hr2 := row_at' encN x.as' j hlt
            rw [List.drop_eq_getElem_cons hlt] at ho
            simp only [rngGo] at ho
            have hK1 := fun h => hK (j + 1) ⟨by omega, h⟩ (by omega)
            generalize x.as'[j] = y at *
            refine nK ?_
            refine s_reg rfl ?_
            refine Run.pure (dd := some 36) rfl rfl (op_idx_fz _ rfl (Opd.tmp _ _ rfl) (Opd.tmp _ _ rfl) tF) ?_
            refine Run.pure (dd := some 37) rfl rfl (op_load1_fz rfl (Opd.tmp _ _ rfl) rfl) ?_
            refine Run.pure (dd := some 7) rfl rfl (op_assign rfl (Opd.tmp _ _ rfl)) ?_
            refine Run.nil (FinR.mk ?_)
            refine nK ?_
            refine s_reg rfl ?_
            refine Run.pure (dd := some 38) rfl rfl (op_move rfl (Opd.tmp _ _ rfl)) ?_
            refine Run.pure (dd := some 39) rfl rfl (op_lss rfl (Opd.tmp _ _ rfl) (Opd.const _)) ?_
            refine Run.pure (dd := some 40) rfl rfl (op_move rfl (Opd.tmp _ _ rfl)) ?_
            refine Run.pureG (dd := some 41) rfl rfl rfl tG (op_move rfl (Opd.tmp _ _ rfl)) ?_
            refine Run.pureG (dd := some 42) rfl rfl rfl tG (op_gtr rfl (Opd.topt _ _ _ rfl tO) (Opd.const _)) ?_
            refine Run.pure (dd := some 43) rfl rfl (op_pick_or rfl (Opd.tmp _ _ rfl) (Opd.topt _ _ _ rfl tO)) ?_
            refine Run.nil (FinR.mk ?_)
            refine nK ?_
            refine n_cond _ rfl (fun hb => ?_) (fun hb => ?_)
            · rw [if_pos hb] at ho
              rw [← ho, if_pos (by decide)] at hsx
              rw [hsx, if_pos (by decide)]
              refine nK ?_
              refine s_reg rfl ?_
              refine Run.pure (dd := some 4) rfl rfl (op_assign rfl (Opd.const _)) ?_
              refine Run.nil (FinR.mk ?_)
              refine nK ?_
              (first | exact s_o1 hC rfl tV | exact s_o2 hC rfl tV tV | exact s_o3 hC rfl tV tV tV | exact s_o4 hC rfl tV tV tV tV | exact s_out0 hC rfl | exact s_outO hC rfl rfl rfl)
            · rw [if_neg (by rw [hb]; decide)] at ho
              refine nK ?_
              refine s_reg rfl ?_
              refine Run.pure (dd := some 44) rfl rfl (op_add rfl (Opd.tmp _ _ rfl) (Opd.const _) tI) ?_
              refine Run.pure (dd := some 34) rfl rfl (op_move rfl (Opd.tmp _ _ rfl)) ?_
              refine Run.nil (FinR.mk ?_)
              refine nK ?_
              refine Next.weakS [5] [] (by rfl) (by first | exact keeps0 hC _ | exact keepsN hC _ rfl) (by repeat (first | exact trivial | refine ⟨⟨_, rfl, .inl ⟨rfl, rfl⟩⟩, ?_⟩ | refine ⟨⟨_, rfl, .inl ⟨slEq rfl tN, rfl⟩⟩, ?_⟩ | refine ⟨⟨_, rfl, .inl ⟨ivEq tX, rfl⟩⟩, ?_⟩)) (by repeat (first | exact trivial | refine ⟨ent_same rfl rfl rfl tL, ?_⟩ | refine ⟨ent_same rfl rfl (rfEq rfl tU) tL, ?_⟩ | refine ⟨ent_same rfl rfl (flEq rfl (by first | (simp; done) | (simp; omega) | (simp [encP, encAt, encSg, encTl, encW, encN, encY]; done) | simp [maxC, minC])) trivial, ?_⟩)) rfl ((hK1 ho))
          · have hje : j = x.as'.length := by simp at hb; omega
            rw [hje, List.drop_length] at ho
            rw [← ho, show rngGo [] = 0 from rfl, if_neg (by decide : ¬ ((0 : Int) ≠ 0))] at hsx
            clear hK ho
            rw [among23 hk]
            have h1 := asc_one hpos
            generalize hm : amongB x.k [1, 4] = m at *
            have kset : Pure Try.prog 100 [If .i64 x.k] (Bf m) := by rw [← hm]; exact isset_c _
            refine nK ?_
            refine s_reg rfl ?_
            refine Run.pure (dd := some 8) rfl rfl (op_assign rfl (Opd.const _)) ?_
            refine Run.nil (FinR.mk ?_)
            refine nK ?_
            refine n_loop (ι := Nat) (fun j => ([(0, .fz (VSg p)), (1, IV .i64 i), (5, .ptr 0 2 0 0), (8, IV .i64 j)], [(0, some (.flat 2 [encSg x]))], 1)) (fun j => (1 ≤ j ∧ j ≤ x.as'.length) ∧ (if m = true then ascGo (prvG x.as' j) (x.as'.drop j) else 0) = if m = true then ascGo none x.as' else 0) (fun j => x.as'.length - j) 1 ⟨⟨Nat.le_refl _, hpos⟩, by rw [h1]⟩ ?_ ?_
            · refine Next.weakS [5] [] (by rfl) (by first | exact keeps0 hC _ | exact keepsN hC _ rfl) (by repeat (first | exact trivial | refine ⟨⟨_, rfl, .inl ⟨rfl, rfl⟩⟩, ?_⟩ | refine ⟨⟨_, rfl, .inl ⟨slEq rfl tN, rfl⟩⟩, ?_⟩ | refine ⟨⟨_, rfl, .inl ⟨ivEq tX, rfl⟩⟩, ?_⟩)) (by repeat (first | exact trivial | refine ⟨ent_same rfl rfl rfl tL, ?_⟩ | refine ⟨ent_same rfl rfl (rfEq rfl tU) tL, ?_⟩ | refine ⟨ent_same rfl rfl (flEq rfl (by first | (simp; done) | (simp; omega) | (simp [encP, encAt, encSg, encTl, encW, encN, encY]; done) | simp [maxC, minC])) trivial, ?_⟩)) rfl (rel_intro)
            · intro j ⟨⟨hj1, hj⟩, ho⟩ K hK
              refine nK ?_
              refine s_reg rfl ?_
              refine Run.pure (dd := some 45) rfl rfl (op_move rfl (Opd.tmp _ _ rfl)) ?_
              refine Run.pure (dd := some 46) rfl rfl (op_fld_ptr (by decide) rfl (Opd.tmp _ _ rfl)) ?_
              refine Run.load (dd := some 47) rfl rfl (op_load1_flat rfl (Opd.tmp _ _ rfl) tH rfl) ?_
              refine Run.pure (dd := some 48) rfl rfl (op_len_fz rfl (by first | exact Opd.tmp _ _ rfl | exact Opd.nil _ _ (Opd.tmp _ _ rfl)) (by first | exact List.length_map _ | rfl)) ?_
              refine Run.pure (dd := some 49) rfl rfl (op_lss rfl (Opd.tmp _ _ rfl) (Opd.tmp _ _ rfl)) ?_
              refine Run.nil (FinR.mk ?_)
              refine nK ?_
              refine n_cond _ rfl (fun hb => ?_) (fun hb => ?_)
              · have hlt : j < x.as'.length := by simp at hb; omega
                have hr2 := row_at' encN x.as' j hlt
                obtain ⟨z, hz⟩ := prv_row encN x.as' 0 (by omega : j ≤ x.as'.length)
                have hbad := asc_bad (x := x.as'[j]) hlt rfl (fun h => (hz h).1) ho
                have hgood := asc_good (x := x.as'[j]) hlt rfl (fun h => (hz h).1) ho
                have hz2 := (hz (by omega)).2
                have h0 : decide (0 < (j : Int)) = true := by simp; omega
                rw [h0, Bool.true_and] at hbad hgood
                have hK1 := fun h => hK (j + 1) ⟨⟨by omega, by omega⟩, h⟩ (by omega)
                generalize x.as'[j] = y at *
                refine nK ?_
                refine s_draw mixed ?_
                refine Run.pure (dd := some 52) rfl rfl (op_fld_ptr (by decide) rfl (Opd.tmp _ _ rfl)) ?_
                refine Run.load (dd := some 53) rfl rfl (op_load1_flat rfl (Opd.tmp _ _ rfl) tH rfl) ?_
                refine Run.pure (dd := some 54) rfl rfl (op_call_pure (fun _ => kset) rfl (Opd.func _) (Opds.cons _ _ _ _ (Opd.tmp _ _ rfl) Opds.nil)) ?_
                refine Run.pure (dd := some 55) rfl rfl (op_move rfl (Opd.tmp _ _ rfl)) ?_
                refine Run.pureG (dd := some 56) rfl rfl rfl tG (op_fld_ptr (by decide) rfl (Opd.tmp _ _ rfl)) ?_
                refine Run.loadG (dd := some 57) rfl rfl rfl tG (op_load1_flat rfl (Opd.topt _ _ _ rfl tO) tH rfl) ?_
                refine Run.pureG (dd := some 58) rfl rfl rfl tG (op_move rfl (Opd.tmp _ _ rfl)) ?_
                refine Run.pureG (dd := some 59) rfl rfl rfl tG (op_idx_fz j rfl (Opd.topt _ _ _ rfl tO) (Opd.topt _ _ _ rfl tO) (by intro _; exact ⟨by omega, hr2⟩)) ?_
                refine Run.pureG (dd := some 60) rfl rfl rfl tG (op_load1_fz rfl (Opd.topt _ _ _ rfl tO) rfl) ?_
                refine Run.pureG (dd := some 61) rfl rfl rfl tG (op_fld_ptr (by decide) rfl (Opd.tmp _ _ rfl)) ?_
                refine Run.loadG (dd := some 62) rfl rfl rfl tG (op_load1_flat rfl (Opd.topt _ _ _ rfl tO) tH rfl) ?_
                refine Run.pureG (dd := some 63) rfl rfl rfl tG (op_move rfl (Opd.tmp _ _ rfl)) ?_
                refine Run.pureG (dd := some 64) rfl rfl rfl tG (op_sub rfl (Opd.topt _ _ _ rfl tO) (Opd.const _) tI) ?_
                refine Run.pureG (dd := some 65) rfl rfl rfl tG (op_idx_fz (j - 1) rfl (Opd.topt _ _ _ rfl tO) (Opd.topt _ _ _ rfl tO) (by intro hg; exact ⟨by omega, hz2⟩)) ?_
                refine Run.pureG (dd := some 66) rfl rfl rfl tG (op_load1_fz rfl (Opd.topt _ _ _ rfl tO) rfl) ?_
                refine Run.pureG (dd := some 67) rfl rfl rfl tG (op_leq rfl (Opd.topt _ _ _ rfl tO) (Opd.topt _ _ _ rfl tO)) ?_
                refine Run.pure (dd := some 68) rfl rfl (op_pick_and rfl (Opd.tmp _ _ rfl) (Opd.topt _ _ _ rfl tO)) ?_
                refine Run.nil (FinD.mk (by kernel_rfl) ?_)
                refine nK ?_
                refine n_cond _ rfl (fun hb => ?_) (fun hb => ?_)
                · rw [hbad hb] at hsx
                  rw [hsx, if_pos (by decide)]
                  refine nK ?_
                  refine s_reg rfl ?_
                  refine Run.pure (dd := some 4) rfl rfl (op_assign rfl (Opd.const _)) ?_
                  refine Run.nil (FinR.mk ?_)
                  refine nK ?_
                  (first | exact s_o1 hC rfl tV | exact s_o2 hC rfl tV tV | exact s_o3 hC rfl tV tV tV | exact s_o4 hC rfl tV tV tV tV | exact s_out0 hC rfl | exact s_outO hC rfl rfl rfl)
                · refine nK ?_
                  refine s_reg rfl ?_
                  refine Run.pure (dd := some 50) rfl rfl (op_move rfl (Opd.tmp _ _ rfl)) ?_
                  refine Run.pure (dd := some 51) rfl rfl (op_add rfl (Opd.tmp _ _ rfl) (Opd.const _) tI) ?_
                  refine Run.pure (dd := some 8) rfl rfl (op_assign rfl (Opd.tmp _ _ rfl)) ?_
                  refine Run.nil (FinR.mk ?_)
                  refine nK ?_
                  refine Next.weakS [5] [] (by rfl) (by first | exact keeps0 hC _ | exact keepsN hC _ rfl) (by repeat (first | exact trivial | refine ⟨⟨_, rfl, .inl ⟨rfl, rfl⟩⟩, ?_⟩ | refine ⟨⟨_, rfl, .inl ⟨slEq rfl tN, rfl⟩⟩, ?_⟩ | refine ⟨⟨_, rfl, .inl ⟨ivEq tX, rfl⟩⟩, ?_⟩)) (by repeat (first | exact trivial | refine ⟨ent_same rfl rfl rfl tL, ?_⟩ | refine ⟨ent_same rfl rfl (rfEq rfl tU) tL, ?_⟩ | refine ⟨ent_same rfl rfl (flEq rfl (by first | (simp; done) | (simp; omega) | (simp [encP, encAt, encSg, encTl, encW, encN, encY]; done) | simp [maxC, minC])) trivial, ?_⟩)) rfl ((hK1 (hgood hb)))
              · have hje : j = x.as'.length := by simp at hb; omega
                rw [hje, List.drop_length] at ho
                have hnil : ∀ p, ascGo p [] = 0 := fun p => by cases p <;> rfl
                rw [hnil, ite_self] at ho
                rw [← ho] at hsx
                rw [hsx, if_neg (by decide : ¬ ((0 : Int) ≠ 0))]
                clear hK ho
                have kset' : Pure Try.prog 100 [If .i64 x.k] (Bf m) := kset
                refine nK ?_
                refine s_reg rfl ?_
                refine Run.pure (dd := some 69) rfl rfl (op_fld_ptr (by decide) rfl (Opd.tmp _ _ rfl)) ?_
                refine Run.load (dd := some 70) rfl rfl (op_load1_flat rfl (Opd.tmp _ _ rfl) tH rfl) ?_
                refine Run.pure (dd := some 71) rfl rfl (op_call_pure (fun _ => isconf_c _) rfl (Opd.func _) (Opds.cons _ _ _ _ (Opd.tmp _ _ rfl) Opds.nil)) ?_
                refine Run.nil (FinR.mk ?_)
                refine nK ?_
                refine n_cond _ rfl (fun hb => ?_) (fun hb => ?_)
                · have hcf : confB x.k = true := hb
                  rw [hcf, Bool.true_and]
                  refine nK ?_
                  refine s_reg rfl ?_
                  refine Run.pure (dd := some 72) rfl rfl (op_move rfl (Opd.tmp _ _ rfl)) ?_
                  refine Run.pure (dd := some 73) rfl rfl (op_move rfl (Opd.tmp _ _ rfl)) ?_
                  refine Run.pure (dd := some 74) rfl rfl (op_slice_fz (l := 0) (h := i) (rs := (p.take i).map encSg) rfl (Opd.tmp _ _ rfl) (Bnd.no _) (Bnd.yes _ _ _ _ _ (Opd.tmp _ _ rfl) (by intro _; rfl)) (by intro _; exact ⟨Nat.zero_le _, by simp; omega, by simp [List.map_take]⟩)) ?_
                  refine Run.pure (dd := some 75) rfl rfl (op_len_fz rfl (by first | exact Opd.tmp _ _ rfl | exact Opd.nil _ _ (Opd.tmp _ _ rfl)) (by first | exact List.length_map _ | rfl)) ?_
                  refine Run.pure (dd := some 76) rfl rfl (op_move rfl (Opd.const _)) ?_
                  refine Run.nil (FinR.mk ?_)
                  refine nK ?_
                  have hlt' : (p.take i).length = i := by rw [List.length_take]; omega
                  refine n_loop (ι := Nat) (fun j => ([(0, .fz (VSg p)), (1, IV .i64 i), (5, .ptr 0 2 0 0), (74, .fz (VSg (p.take i))), (75, IV .i64 (p.take i).length), (76, IV .i64 j)], [(0, some (.flat 2 [encSg x]))], 1)) (fun j => j ≤ (p.take i).length ∧ plainB ((p.take i).drop j) = plainB (p.take i)) (fun j => (p.take i).length - j) 0 ⟨Nat.zero_le _, rfl⟩ ?_ ?_
                  · refine Next.weakS [5] [] (by rfl) (by first | exact keeps0 hC _ | exact keepsN hC _ rfl) (by repeat (first | exact trivial | refine ⟨⟨_, rfl, .inl ⟨rfl, rfl⟩⟩, ?_⟩ | refine ⟨⟨_, rfl, .inl ⟨slEq rfl tN, rfl⟩⟩, ?_⟩ | refine ⟨⟨_, rfl, .inl ⟨ivEq tX, rfl⟩⟩, ?_⟩)) (by repeat (first | exact trivial | refine ⟨ent_same rfl rfl rfl tL, ?_⟩ | refine ⟨ent_same rfl rfl (rfEq rfl tU) tL, ?_⟩ | refine ⟨ent_same rfl rfl (flEq rfl (by first | (simp; done) | (simp; omega) | (simp [encP, encAt, encSg, encTl, encW, encN, encY]; done) | simp [maxC, minC])) trivial, ?_⟩)) rfl (rel_intro)
                  · intro j ⟨hj, ho⟩ K hK
                    refine nK ?_
                    refine s_reg rfl ?_
                    refine Run.pure (dd := some 77) rfl rfl (op_lss rfl (Opd.tmp _ _ rfl) (Opd.tmp _ _ rfl)) ?_
                    refine Run.nil (FinR.mk ?_)
                    refine nK ?_
                    refine n_cond _ rfl (fun hb => ?_) (fun hb => ?_)
                    · have hlt : j < (p.take i).length := by simp at hb; rw [hlt']; omega
                      have hr2 := row_at' encSg (p.take i) j hlt
                      rw [List.drop_eq_getElem_cons hlt] at ho
                      have hs : ∀ x (t : List Seg), plainB (x :: t) = (!confB x.k || plainB t) := fun _ _ => rfl
                      rw [hs] at ho
                      have hK1 := fun h => hK (j + 1) ⟨by omega, h⟩ (by omega)
                      generalize (p.take i)[j] = y at *
                      refine nK ?_
                      refine s_reg rfl ?_
                      refine Run.pure (dd := some 78) rfl rfl (op_idx_fz _ rfl (Opd.tmp _ _ rfl) (Opd.tmp _ _ rfl) tF) ?_
                      refine Run.pure (dd := some 79) rfl rfl (op_loadw_fz rfl (Opd.tmp _ _ rfl) rfl) ?_
                      refine Run.eff (dd := some 10) rfl rfl (op_alloc rfl rfl rfl rfl) ?_
                      refine Run.eff (dd := none) rfl rfl (op_store_flat rfl (Opd.tmp _ _ rfl) (Opd.tmp _ _ rfl) tC rfl rfl (by first | rfl | assumption) tS) ?_
                      refine Run.nil (FinR.mk ?_)
                      refine nK ?_
                      refine s_reg rfl ?_
                      refine Run.pure (dd := some 80) rfl rfl (op_fld_ptr (by decide) rfl (Opd.tmp _ _ rfl)) ?_
                      refine Run.load (dd := some 81) rfl rfl (op_load1_flat rfl (Opd.tmp _ _ rfl) tH rfl) ?_
                      refine Run.pure (dd := some 82) rfl rfl (op_call_pure (fun _ => isconf_c _) rfl (Opd.func _) (Opds.cons _ _ _ _ (Opd.tmp _ _ rfl) Opds.nil)) ?_
                      refine Run.pure (dd := some 83) rfl rfl (op_not rfl (Opd.tmp _ _ rfl)) ?_
                      refine Run.nil (FinR.mk ?_)
                      refine nK ?_
                      refine n_cond _ rfl (fun hb => ?_) (fun hb => ?_)
                      · rw [hb, Bool.true_or] at ho
                        rw [← ho, if_pos rfl]
                        refine nK ?_
                        refine s_reg rfl ?_
                        refine Run.pure (dd := some 4) rfl rfl (op_assign rfl (Opd.const _)) ?_
                        refine Run.nil (FinR.mk ?_)
                        refine nK ?_
                        (first | exact s_o1 hC rfl tV | exact s_o2 hC rfl tV tV | exact s_o3 hC rfl tV tV tV | exact s_o4 hC rfl tV tV tV tV | exact s_out0 hC rfl | exact s_outO hC rfl rfl rfl)
                      · rw [hb, Bool.false_or] at ho
                        refine nK ?_
                        refine s_reg rfl ?_
                        refine Run.pure (dd := some 84) rfl rfl (op_add rfl (Opd.tmp _ _ rfl) (Opd.const _) tI) ?_
                        refine Run.pure (dd := some 76) rfl rfl (op_move rfl (Opd.tmp _ _ rfl)) ?_
                        refine Run.nil (FinR.mk ?_)
                        refine nK ?_
                        refine Next.weakS [5] [] (by rfl) (by first | exact keeps0 hC _ | exact keepsN hC _ rfl) (by repeat (first | exact trivial | refine ⟨⟨_, rfl, .inl ⟨rfl, rfl⟩⟩, ?_⟩ | refine ⟨⟨_, rfl, .inl ⟨slEq rfl tN, rfl⟩⟩, ?_⟩ | refine ⟨⟨_, rfl, .inl ⟨ivEq tX, rfl⟩⟩, ?_⟩)) (by repeat (first | exact trivial | refine ⟨ent_same rfl rfl rfl tL, ?_⟩ | refine ⟨ent_same rfl rfl (rfEq rfl tU) tL, ?_⟩ | refine ⟨ent_same rfl rfl (flEq rfl (by first | (simp; done) | (simp; omega) | (simp [encP, encAt, encSg, encTl, encW, encN, encY]; done) | simp [maxC, minC])) trivial, ?_⟩)) rfl ((hK1 ho))
                    · have hje : j = (p.take i).length := by simp at hb; rw [hlt']; omega
                      rw [hje, List.drop_length] at ho
                      rw [← ho, show plainB [] = false from rfl, if_neg (by decide)]
                      clear hK ho
                      refine nK ?_
                      refine s_draw mixed ?_
                      refine Run.pure (dd := some 85) rfl rfl (op_move rfl (Opd.tmp _ _ rfl)) ?_
                      refine Run.pure (dd := some 86) rfl rfl (op_gtr rfl (Opd.tmp _ _ rfl) (Opd.const _)) ?_
                      refine Run.pure (dd := some 87) rfl rfl (op_move rfl (Opd.tmp _ _ rfl)) ?_
                      refine Run.pureG (dd := some 88) rfl rfl rfl tG (op_fld_ptr (by decide) rfl (Opd.tmp _ _ rfl)) ?_
                      refine Run.loadG (dd := some 89) rfl rfl rfl tG (op_load1_flat rfl (Opd.topt _ _ _ rfl tO) tH rfl) ?_
                      refine Run.pureG (dd := some 90) rfl rfl rfl tG (op_call_pure (fun _ => kset') rfl (Opd.func _) (Opds.cons _ _ _ _ (Opd.topt _ _ _ rfl tO) Opds.nil)) ?_
                      refine Run.pureG (dd := some 91) rfl rfl rfl tG (op_not rfl (Opd.topt _ _ _ rfl tO)) ?_
                      refine Run.pure (dd := some 92) rfl rfl (op_pick_and rfl (Opd.tmp _ _ rfl) (Opd.topt _ _ _ rfl tO)) ?_
                      refine Run.pure (dd := some 93) rfl rfl (op_move rfl (Opd.tmp _ _ rfl)) ?_
                      refine Run.pureG (dd := some 94) rfl rfl rfl tG (op_move rfl (Opd.tmp _ _ rfl)) ?_
                      refine Run.pureG (dd := some 95) rfl rfl rfl tG (op_move rfl (Opd.tmp _ _ rfl)) ?_
                      refine Run.pureG (dd := some 96) rfl rfl rfl tG (op_sub rfl (Opd.topt _ _ _ rfl tO) (Opd.const _) tI) ?_
                      refine Run.pureG (dd := some 97) rfl rfl rfl tG (op_idx_fz (i - 1) rfl (Opd.topt _ _ _ rfl tO) (Opd.topt _ _ _ rfl tO) (by intro hg; have h0 : 0 < i := (by simp at hg; omega); exact ⟨by omega, (hq h0).2⟩)) ?_
                      refine Run.pureG (dd := some 98) rfl rfl rfl tG (op_fld_fz (by decide) rfl (Opd.topt _ _ _ rfl tO) tR) ?_
                      refine Run.pureG (dd := some 99) rfl rfl rfl tG (op_load1_fz rfl (Opd.topt _ _ _ rfl tO) rfl) ?_
                      refine Run.pureG (dd := some 100) rfl rfl rfl tG (op_fld_ptr (by decide) rfl (Opd.tmp _ _ rfl)) ?_
                      refine Run.loadG (dd := some 101) rfl rfl rfl tG (op_load1_flat rfl (Opd.topt _ _ _ rfl tO) tH rfl) ?_
                      refine Run.pureG (dd := some 102) rfl rfl rfl tG (op_eql rfl (Opd.topt _ _ _ rfl tO) (Opd.topt _ _ _ rfl tO)) ?_
                      refine Run.pure (dd := some 103) rfl rfl (op_pick_and rfl (Opd.tmp _ _ rfl) (Opd.topt _ _ _ rfl tO)) ?_
                      refine Run.pure (dd := some 104) rfl rfl (op_move rfl (Opd.tmp _ _ rfl)) ?_
                      refine Run.pureG (dd := some 105) rfl rfl rfl tG (op_move rfl (Opd.tmp _ _ rfl)) ?_
                      refine Run.pureG (dd := some 106) rfl rfl rfl tG (op_move rfl (Opd.tmp _ _ rfl)) ?_
                      refine Run.pureG (dd := some 107) rfl rfl rfl tG (op_sub rfl (Opd.topt _ _ _ rfl tO) (Opd.const _) tI) ?_
                      refine Run.pureG (dd := some 108) rfl rfl rfl tG (op_idx_fz (i - 1) rfl (Opd.topt _ _ _ rfl tO) (Opd.topt _ _ _ rfl tO) (by intro hg; have h0 : 0 < i := (by simp at hg; omega); exact ⟨by omega, (hq h0).2⟩)) ?_
                      refine Run.pureG (dd := some 109) rfl rfl rfl tG (op_fld_fz (by decide) rfl (Opd.topt _ _ _ rfl tO) tR) ?_
                      refine Run.pureG (dd := some 110) rfl rfl rfl tG (op_load1_fz rfl (Opd.topt _ _ _ rfl tO) rfl) ?_
                      refine Run.pureG (dd := some 111) rfl rfl rfl tG (op_len_fz rfl (by first | exact Opd.topt _ _ _ rfl tO | exact Opd.nil _ _ (Opd.topt _ _ _ rfl tO)) (by first | exact List.length_map _ | rfl)) ?_
                      refine Run.pureG (dd := some 112) rfl rfl rfl tG (op_lss rfl (Opd.topt _ _ _ rfl tO) (Opd.const _)) ?_
                      refine Run.pure (dd := some 113) rfl rfl (op_pick_and rfl (Opd.tmp _ _ rfl) (Opd.topt _ _ _ rfl tO)) ?_
                      refine Run.nil (FinD.mk (by kernel_rfl) ?_)
                      refine nK ?_
                      refine n_cond _ rfl (fun hb => ?_) (fun hb => ?_)
                      · rw [if_pos hb]
                        refine nK ?_
                        refine s_reg rfl ?_
                        refine Run.pure (dd := some 4) rfl rfl (op_assign rfl (Opd.const _)) ?_
                        refine Run.nil (FinR.mk ?_)
                        refine nK ?_
                        (first | exact s_o1 hC rfl tV | exact s_o2 hC rfl tV tV | exact s_o3 hC rfl tV tV tV | exact s_o4 hC rfl tV tV tV tV | exact s_out0 hC rfl | exact s_outO hC rfl rfl rfl)
                      · rw [if_neg (by rw [hb]; decide)]
                        refine nK ?_
                        refine s_reg rfl ?_
                        refine Run.pure (dd := some 4) rfl rfl (op_assign rfl (Opd.const _)) ?_
                        refine Run.nil (FinR.mk ?_)
                        refine nK ?_
                        (first | exact s_o1 hC rfl tV | exact s_o2 hC rfl tV tV | exact s_o3 hC rfl tV tV tV | exact s_o4 hC rfl tV tV tV tV | exact s_out0 hC rfl | exact s_outO hC rfl rfl rfl)
                · have hcf : confB x.k = false := hb
                  rw [hcf, Bool.false_and, if_neg (by decide)]
                  refine nK ?_
                  refine s_draw mixed ?_
                  refine Run.pure (dd := some 85) rfl rfl (op_move rfl (Opd.tmp _ _ rfl)) ?_
                  refine Run.pure (dd := some 86) rfl rfl (op_gtr rfl (Opd.tmp _ _ rfl) (Opd.const _)) ?_
                  refine Run.pure (dd := some 87) rfl rfl (op_move rfl (Opd.tmp _ _ rfl)) ?_
                  refine Run.pureG (dd := some 88) rfl rfl rfl tG (op_fld_ptr (by decide) rfl (Opd.tmp _ _ rfl)) ?_
                  refine Run.loadG (dd := some 89) rfl rfl rfl tG (op_load1_flat rfl (Opd.topt _ _ _ rfl tO) tH rfl) ?_
                  refine Run.pureG (dd := some 90) rfl rfl rfl tG (op_call_pure (fun _ => kset') rfl (Opd.func _) (Opds.cons _ _ _ _ (Opd.topt _ _ _ rfl tO) Opds.nil)) ?_
                  refine Run.pureG (dd := some 91) rfl rfl rfl tG (op_not rfl (Opd.topt _ _ _ rfl tO)) ?_
                  refine Run.pure (dd := some 92) rfl rfl (op_pick_and rfl (Opd.tmp _ _ rfl) (Opd.topt _ _ _ rfl tO)) ?_
                  refine Run.pure (dd := some 93) rfl rfl (op_move rfl (Opd.tmp _ _ rfl)) ?_
                  refine Run.pureG (dd := some 94) rfl rfl rfl tG (op_move rfl (Opd.tmp _ _ rfl)) ?_
                  refine Run.pureG (dd := some 95) rfl rfl rfl tG (op_move rfl (Opd.tmp _ _ rfl)) ?_
                  refine Run.pureG (dd := some 96) rfl rfl rfl tG (op_sub rfl (Opd.topt _ _ _ rfl tO) (Opd.const _) tI) ?_
                  refine Run.pureG (dd := some 97) rfl rfl rfl tG (op_idx_fz (i - 1) rfl (Opd.topt _ _ _ rfl tO) (Opd.topt _ _ _ rfl tO) (by intro hg; have h0 : 0 < i := (by simp at hg; omega); exact ⟨by omega, (hq h0).2⟩)) ?_
                  refine Run.pureG (dd := some 98) rfl rfl rfl tG (op_fld_fz (by decide) rfl (Opd.topt _ _ _ rfl tO) tR) ?_
                  refine Run.pureG (dd := some 99) rfl rfl rfl tG (op_load1_fz rfl (Opd.topt _ _ _ rfl tO) rfl) ?_
                  refine Run.pureG (dd := some 100) rfl rfl rfl tG (op_fld_ptr (by decide) rfl (Opd.tmp _ _ rfl)) ?_
                  refine Run.loadG (dd := some 101) rfl rfl rfl tG (op_load1_flat rfl (Opd.topt _ _ _ rfl tO) tH rfl) ?_
                  refine Run.pureG (dd := some 102) rfl rfl rfl tG (op_eql rfl (Opd.topt _ _ _ rfl tO) (Opd.topt _ _ _ rfl tO)) ?_
                  refine Run.pure (dd := some 103) rfl rfl (op_pick_and rfl (Opd.tmp _ _ rfl) (Opd.topt _ _ _ rfl tO)) ?_
                  refine Run.pure (dd := some 104) rfl rfl (op_move rfl (Opd.tmp _ _ rfl)) ?_
                  refine Run.pureG (dd := some 105) rfl rfl rfl tG (op_move rfl (Opd.tmp _ _ rfl)) ?_
                  refine Run.pureG (dd := some 106) rfl rfl rfl tG (op_move rfl (Opd.tmp _ _ rfl)) ?_
                  refine Run.pureG (dd := some 107) rfl rfl rfl tG (op_sub rfl (Opd.topt _ _ _ rfl tO) (Opd.const _) tI) ?_
                  refine Run.pureG (dd := some 108) rfl rfl rfl tG (op_idx_fz (i - 1) rfl (Opd.topt _ _ _ rfl tO) (Opd.topt _ _ _ rfl tO) (by intro hg; have h0 : 0 < i := (by simp at hg; omega); exact ⟨by omega, (hq h0).2⟩)) ?_
                  refine Run.pureG (dd := some 109) rfl rfl rfl tG (op_fld_fz (by decide) rfl (Opd.topt _ _ _ rfl tO) tR) ?_
                  refine Run.pureG (dd := some 110) rfl rfl rfl tG (op_load1_fz rfl (Opd.topt _ _ _ rfl tO) rfl) ?_
                  refine Run.pureG (dd := some 111) rfl rfl rfl tG (op_len_fz rfl (by first | exact Opd.topt _ _ _ rfl tO | exact Opd.nil _ _ (Opd.topt _ _ _ rfl tO)) (by first | exact List.length_map _ | rfl)) ?_
                  refine Run.pureG (dd := some 112) rfl rfl rfl tG (op_lss rfl (Opd.topt _ _ _ rfl tO) (Opd.const _)) ?_
                  refine Run.pure (dd := some 113) rfl rfl (op_pick_and rfl (Opd.tmp _ _ rfl) (Opd.topt _ _ _ rfl tO)) ?_
                  refine Run.nil (FinD.mk (by kernel_rfl) ?_)
                  refine nK ?_
                  refine n_cond _ rfl (fun hb => ?_) (fun hb => ?_)
                  · rw [if_pos hb]
                    refine nK ?_
                    refine s_reg rfl ?_
                    refine Run.pure (dd := some 4) rfl rfl (op_assign rfl (Opd.const _)) ?_
                    refine Run.nil (FinR.mk ?_)
                    refine nK ?_
                    (first | exact s_o1 hC rfl tV | exact s_o2 hC rfl tV tV | exact s_o3 hC rfl tV tV tV | exact s_o4 hC rfl tV tV tV tV | exact s_out0 hC rfl | exact s_outO hC rfl rfl rfl)
                  · rw [if_neg (by rw [hb]; decide)]
                    refine nK ?_
                    refine s_reg rfl ?_
                    refine Run.pure (dd := some 4) rfl rfl (op_assign rfl (Opd.const _)) ?_
                    refine Run.nil (FinR.mk ?_)
                    refine nK ?_
                    (first | exact s_o1 hC rfl tV | exact s_o2 hC rfl tV tV | exact s_o3 hC rfl tV tV tV | exact s_o4 hC rfl tV tV tV tV | exact s_out0 hC rfl | exact s_outO hC rfl rfl rfl)
theorem rpth_c (p : List Seg) (hn : p.length ≤ 2000000) (hs : ∀ s ∈ p, s.as'.length ≤ 2000000) : Pure Try.prog 57 [VSg p] (If .i64 (pthE p)) := by
  unfold pthE
  refine Meets.intro Try.func57 rfl (Nat.le_of_ble_eq_true rfl) fun C hC => ?_
  simp only [List.map, argEnv, Nat.reduceAdd]
  refine nK ?_
  refine s_reg rfl ?_
  refine Run.pure (dd := some 2) rfl rfl (op_assign rfl (Opd.const _)) ?_
  refine Run.nil (FinR.mk ?_)
  refine nK ?_
  refine s_reg rfl ?_
  refine Run.pure (dd := some 5) rfl rfl (op_move rfl (Opd.tmp _ _ rfl)) ?_
  refine Run.pure (dd := some 6) rfl rfl (op_len_fz rfl (by first | exact Opd.tmp _ _ rfl | exact Opd.nil _ _ (Opd.tmp _ _ rfl)) (by first | exact List.length_map _ | rfl)) ?_
  refine Run.pure (dd := some 7) rfl rfl (op_gtr rfl (Opd.tmp _ _ rfl) (Opd.const _)) ?_
  refine Run.nil (FinR.mk ?_)
  refine nK ?_
  refine n_cond _ rfl (fun hb => ?_) (fun hb => ?_)
  · rw [if_pos (by simp at hb; omega)]
    refine nK ?_
    refine s_reg rfl ?_
    refine Run.pure (dd := some 2) rfl rfl (op_assign rfl (Opd.const _)) ?_
    refine Run.nil (FinR.mk ?_)
    refine nK ?_
    (first | exact s_o1 hC rfl tV | exact s_o2 hC rfl tV tV | exact s_o3 hC rfl tV tV tV | exact s_o4 hC rfl tV tV tV tV | exact s_out0 hC rfl | exact s_outO hC rfl rfl rfl)
  · rw [if_neg (by simp at hb; omega)]
    refine nK ?_
    refine s_reg rfl ?_
    refine Run.pure (dd := some 8) rfl rfl (op_move rfl (Opd.tmp _ _ rfl)) ?_
    refine Run.pure (dd := some 9) rfl rfl (op_len_fz rfl (by first | exact Opd.tmp _ _ rfl | exact Opd.nil _ _ (Opd.tmp _ _ rfl)) (by first | exact List.length_map _ | rfl)) ?_
    refine Run.pure (dd := some 10) rfl rfl (op_move rfl (Opd.const _)) ?_
    refine Run.nil (FinR.mk ?_)
    refine nK ?_
    refine n_loop (ι := Nat) (fun i => ([(0, .fz (VSg p)), (9, IV .i64 p.length), (10, IV .i64 i)], [], 0)) (fun i => i ≤ p.length ∧ pthGo (p.take i) (p.drop i) = pthGo [] p) (fun i => p.length - i) 0 ⟨Nat.zero_le _, rfl⟩ ?_ ?_
    · refine Next.weak [] [] (by rfl) (keeps0 hC _) (by repeat (first | exact trivial | refine ⟨⟨_, rfl, .inl ⟨rfl, rfl⟩⟩, ?_⟩)) (by repeat (first | exact trivial | refine ⟨ent_same rfl rfl rfl tL, ?_⟩ | refine ⟨ent_same rfl rfl (rfEq rfl tU) tL, ?_⟩ | refine ⟨ent_same rfl rfl (flEq rfl (by first | (simp; done) | (simp; omega) | (simp [encP, encAt, encSg, encTl, encW, encN, encY]; done) | simp [maxC, minC])) trivial, ?_⟩)) (fun _ h => by simp at h) rel_intro
    · intro i ⟨hi, ho⟩ K hK
      refine nK ?_
      refine s_reg rfl ?_
      refine Run.pure (dd := some 11) rfl rfl (op_lss rfl (Opd.tmp _ _ rfl) (Opd.tmp _ _ rfl)) ?_
      refine Run.nil (FinR.mk ?_)
      refine nK ?_
      refine n_cond _ rfl (fun hb => ?_) (fun hb => ?_)
      · have hlt : i < p.length := by simp at hb; omega
        rw [pth_step2 hlt] at ho
        have hK1 := fun h => hK (i + 1) ⟨by omega, h⟩ (by omega)
        have ks := rseg_c p i p[i] hn hlt (List.getElem?_eq_getElem hlt) (hs _ (List.getElem_mem hlt))
        generalize rsegX p[i] (p.take i) (prvG p i) = e at *
        refine nK ?_
        refine s_reg rfl ?_
        refine Run.pure (dd := some 12) rfl rfl (op_move rfl (Opd.tmp _ _ rfl)) ?_
        refine Run.pure (dd := some 3) rfl rfl (op_assign rfl (Opd.tmp _ _ rfl)) ?_
        refine Run.nil (FinR.mk ?_)
        refine nK ?_
        refine s_reg rfl ?_
        refine Run.pure (dd := some 13) rfl rfl (op_move rfl (Opd.tmp _ _ rfl)) ?_
        refine Run.pure (dd := some 14) rfl rfl (op_move rfl (Opd.tmp _ _ rfl)) ?_
        refine Run.pure (dd := some 15) rfl rfl (op_call_pure (fun _ => ks) rfl (Opd.func _) (Opds.cons _ _ _ _ (Opd.tmp _ _ rfl) (Opds.cons _ _ _ _ (Opd.tmp _ _ rfl) Opds.nil))) ?_
        refine Run.pure (dd := some 4) rfl rfl (op_assign rfl (Opd.tmp _ _ rfl)) ?_
        refine Run.nil (FinR.mk ?_)
        refine nK ?_
        refine s_reg rfl ?_
        refine Run.pure (dd := some 16) rfl rfl (op_move rfl (Opd.tmp _ _ rfl)) ?_
        refine Run.pure (dd := some 17) rfl rfl (op_neq rfl (Opd.tmp _ _ rfl) (Opd.const _)) ?_
        refine Run.nil (FinR.mk ?_)
        refine nK ?_
        refine n_cond _ rfl (fun hb => ?_) (fun hb => ?_)
        · rw [if_pos (by simpa using hb)] at ho
          rw [← ho]
          refine nK ?_
          refine s_reg rfl ?_
          refine Run.pure (dd := some 18) rfl rfl (op_move rfl (Opd.tmp _ _ rfl)) ?_
          refine Run.pure (dd := some 2) rfl rfl (op_assign rfl (Opd.tmp _ _ rfl)) ?_
          refine Run.nil (FinR.mk ?_)
          refine nK ?_
          (first | exact s_o1 hC rfl tV | exact s_o2 hC rfl tV tV | exact s_o3 hC rfl tV tV tV | exact s_o4 hC rfl tV tV tV tV | exact s_out0 hC rfl | exact s_outO hC rfl rfl rfl)
        · rw [if_neg (by simpa using hb)] at ho
          refine nK ?_
          refine s_reg rfl ?_
          refine Run.pure (dd := some 19) rfl rfl (op_add rfl (Opd.tmp _ _ rfl) (Opd.const _) tI) ?_
          refine Run.pure (dd := some 10) rfl rfl (op_move rfl (Opd.tmp _ _ rfl)) ?_
          refine Run.nil (FinR.mk ?_)
          refine nK ?_
          refine Next.weak [] [] (by rfl) (keeps0 hC _) (by repeat (first | exact trivial | refine ⟨⟨_, rfl, .inl ⟨rfl, rfl⟩⟩, ?_⟩)) (by repeat (first | exact trivial | refine ⟨ent_same rfl rfl rfl tL, ?_⟩ | refine ⟨ent_same rfl rfl (rfEq rfl tU) tL, ?_⟩ | refine ⟨ent_same rfl rfl (flEq rfl (by first | (simp; done) | (simp; omega) | (simp [encP, encAt, encSg, encTl, encW, encN, encY]; done) | simp [maxC, minC])) trivial, ?_⟩)) (fun _ h => by simp at h) (hK1 ho)
      · have hie : i = p.length := by simp at hb; omega
        rw [hie, List.drop_length] at ho
        rw [← ho]
        simp only [pthGo]
        refine nK ?_
        refine s_reg rfl ?_
        refine Run.pure (dd := some 2) rfl rfl (op_assign rfl (Opd.const _)) ?_
        refine Run.nil (FinR.mk ?_)
        refine nK ?_
        (first | exact s_o1 hC rfl tV | exact s_o2 hC rfl tV tV | exact s_o3 hC rfl tV tV tV | exact s_o4 hC rfl tV tV tV tV | exact s_out0 hC rfl | exact s_outO hC rfl rfl rfl)
theorem rcomm_c (l : List Int) (hn : l.length ≤ 2000000) : Pure Try.prog 59 [VW l] (If .i64 (commE l)) := by
  unfold commE
  refine Meets.intro Try.func59 rfl (Nat.le_of_ble_eq_true rfl) fun C hC => ?_
  simp only [List.map, argEnv, Nat.reduceAdd]
  refine nK ?_
  refine s_reg rfl ?_
  refine Run.pure (dd := some 2) rfl rfl (op_assign rfl (Opd.const _)) ?_
  refine Run.nil (FinR.mk ?_)
  refine nK ?_
  refine s_reg rfl ?_
  refine Run.pure (dd := some 4) rfl rfl (op_move rfl (Opd.tmp _ _ rfl)) ?_
  refine Run.pure (dd := some 5) rfl rfl (op_len_fz rfl (by first | exact Opd.tmp _ _ rfl | exact Opd.nil _ _ (Opd.tmp _ _ rfl)) (by first | exact List.length_map _ | rfl)) ?_
  refine Run.pure (dd := some 6) rfl rfl (op_gtr rfl (Opd.tmp _ _ rfl) (Opd.const _)) ?_
  refine Run.nil (FinR.mk ?_)
  refine nK ?_
  refine n_cond _ rfl (fun hb => ?_) (fun hb => ?_)
  · rw [if_pos (by simp at hb; omega)]
    refine nK ?_
    refine s_reg rfl ?_
    refine Run.pure (dd := some 2) rfl rfl (op_assign rfl (Opd.const _)) ?_
    refine Run.nil (FinR.mk ?_)
    refine nK ?_
    (first | exact s_o1 hC rfl tV | exact s_o2 hC rfl tV tV | exact s_o3 hC rfl tV tV tV | exact s_o4 hC rfl tV tV tV tV | exact s_out0 hC rfl | exact s_outO hC rfl rfl rfl)
  · rw [if_neg (by simp at hb; omega)]
    by_cases h0 : l.length = 0
    · have hl : l = [] := by simpa using h0
      subst hl
      refine nK ?_
      refine s_reg rfl ?_
      refine Run.pure (dd := some 3) rfl rfl (op_assign rfl (Opd.const _)) ?_
      refine Run.nil (FinR.mk ?_)
      refine nK ?_
      refine n_loop (ι := Nat) (fun i => ([(0, .fz (VW [])), (3, IV .i64 1)], [], 0)) (fun _ => True) (fun i => 0) 1 trivial ?_ ?_
      · refine Next.weak [] [] (by rfl) (keeps0 hC _) (by repeat (first | exact trivial | refine ⟨⟨_, rfl, .inl ⟨rfl, rfl⟩⟩, ?_⟩)) (by repeat (first | exact trivial | refine ⟨ent_same rfl rfl rfl tL, ?_⟩ | refine ⟨ent_same rfl rfl (rfEq rfl tU) tL, ?_⟩ | refine ⟨ent_same rfl rfl (flEq rfl (by first | (simp; done) | (simp; omega) | (simp [encP, encAt, encSg, encTl, encW, encN, encY]; done) | simp [maxC, minC])) trivial, ?_⟩)) (fun _ h => by simp at h) rel_intro
      · intro i _ K hK
        refine nK ?_
        refine s_reg rfl ?_
        refine Run.pure (dd := some 7) rfl rfl (op_move rfl (Opd.tmp _ _ rfl)) ?_
        refine Run.pure (dd := some 8) rfl rfl (op_move rfl (Opd.tmp _ _ rfl)) ?_
        refine Run.pure (dd := some 9) rfl rfl (op_len_fz rfl (by first | exact Opd.tmp _ _ rfl | exact Opd.nil _ _ (Opd.tmp _ _ rfl)) (by first | exact List.length_map _ | rfl)) ?_
        refine Run.pure (dd := some 10) rfl rfl (op_lss rfl (Opd.tmp _ _ rfl) (Opd.tmp _ _ rfl)) ?_
        refine Run.nil (FinR.mk ?_)
        refine nK ?_
        refine n_cond _ rfl (fun hb => ?_) (fun hb => ?_)
        · exfalso; simp at hb
        · refine nK ?_
          refine s_reg rfl ?_
          refine Run.pure (dd := some 2) rfl rfl (op_assign rfl (Opd.const _)) ?_
          refine Run.nil (FinR.mk ?_)
          refine nK ?_
          (first | exact s_o1 hC rfl tV | exact s_o2 hC rfl tV tV | exact s_o3 hC rfl tV tV tV | exact s_o4 hC rfl tV tV tV tV | exact s_out0 hC rfl | exact s_outO hC rfl rfl rfl)
    · have h1 := asc_one (l := l) (by omega)
      refine nK ?_
      refine s_reg rfl ?_
      refine Run.pure (dd := some 3) rfl rfl (op_assign rfl (Opd.const _)) ?_
      refine Run.nil (FinR.mk ?_)
      refine nK ?_
      refine n_loop (ι := Nat) (fun i => ([(0, .fz (VW l)), (3, IV .i64 i)], [], 0)) (fun i => (1 ≤ i ∧ i ≤ l.length) ∧ ascGo (prvG l i) (l.drop i) = ascGo none l) (fun i => l.length - i) 1 ⟨⟨Nat.le_refl _, by omega⟩, h1⟩ ?_ ?_
      · refine Next.weak [] [] (by rfl) (keeps0 hC _) (by repeat (first | exact trivial | refine ⟨⟨_, rfl, .inl ⟨rfl, rfl⟩⟩, ?_⟩)) (by repeat (first | exact trivial | refine ⟨ent_same rfl rfl rfl tL, ?_⟩ | refine ⟨ent_same rfl rfl (rfEq rfl tU) tL, ?_⟩ | refine ⟨ent_same rfl rfl (flEq rfl (by first | (simp; done) | (simp; omega) | (simp [encP, encAt, encSg, encTl, encW, encN, encY]; done) | simp [maxC, minC])) trivial, ?_⟩)) (fun _ h => by simp at h) rel_intro
      · intro i ⟨⟨hi1, hi⟩, ho⟩ K hK
        refine nK ?_
        refine s_reg rfl ?_
        refine Run.pure (dd := some 7) rfl rfl (op_move rfl (Opd.tmp _ _ rfl)) ?_
        refine Run.pure (dd := some 8) rfl rfl (op_move rfl (Opd.tmp _ _ rfl)) ?_
        refine Run.pure (dd := some 9) rfl rfl (op_len_fz rfl (by first | exact Opd.tmp _ _ rfl | exact Opd.nil _ _ (Opd.tmp _ _ rfl)) (by first | exact List.length_map _ | rfl)) ?_
        refine Run.pure (dd := some 10) rfl rfl (op_lss rfl (Opd.tmp _ _ rfl) (Opd.tmp _ _ rfl)) ?_
        refine Run.nil (FinR.mk ?_)
        refine nK ?_
        refine n_cond _ rfl (fun hb => ?_) (fun hb => ?_)
        · have hlt : i < l.length := by simp at hb; omega
          have hr1 := row_at' encW l i hlt
          obtain ⟨q, hq⟩ := prv_row encW l 0 (by omega : i ≤ l.length)
          rw [asc_step hlt, leP_pos (q := q) fun h => (hq h).1] at ho
          have hq2 := (hq (by omega)).2
          have h0 : decide (0 < (i : Int)) = true := by simp; omega
          rw [h0, Bool.true_and] at ho
          have hK1 := fun h => hK (i + 1) ⟨⟨by omega, by omega⟩, h⟩ (by omega)
          generalize l[i] = x at *
          refine nK ?_
          refine s_draw mixed ?_
          refine Run.pure (dd := some 13) rfl rfl (op_move rfl (Opd.tmp _ _ rfl)) ?_
          refine Run.pure (dd := some 14) rfl rfl (op_move rfl (Opd.tmp _ _ rfl)) ?_
          refine Run.pure (dd := some 15) rfl rfl (op_idx_fz i rfl (Opd.tmp _ _ rfl) (Opd.tmp _ _ rfl) (by intro _; exact ⟨by omega, hr1⟩)) ?_
          refine Run.pure (dd := some 16) rfl rfl (op_load1_fz rfl (Opd.tmp _ _ rfl) rfl) ?_
          refine Run.pure (dd := some 17) rfl rfl (op_move rfl (Opd.tmp _ _ rfl)) ?_
          refine Run.pure (dd := some 18) rfl rfl (op_move rfl (Opd.tmp _ _ rfl)) ?_
          refine Run.pure (dd := some 19) rfl rfl (op_sub rfl (Opd.tmp _ _ rfl) (Opd.const _) tI) ?_
          refine Run.pure (dd := some 20) rfl rfl (op_idx_fz (i - 1) rfl (Opd.tmp _ _ rfl) (Opd.tmp _ _ rfl) (by intro hg; exact ⟨by omega, hq2⟩)) ?_
          refine Run.pure (dd := some 21) rfl rfl (op_load1_fz rfl (Opd.tmp _ _ rfl) rfl) ?_
          refine Run.pure (dd := some 22) rfl rfl (op_leq rfl (Opd.tmp _ _ rfl) (Opd.tmp _ _ rfl)) ?_
          refine Run.nil (FinD.mk (by kernel_rfl) ?_)
          refine nK ?_
          refine n_cond _ rfl (fun hb => ?_) (fun hb => ?_)
          · rw [if_pos hb] at ho
            rw [← ho]
            refine nK ?_
            refine s_reg rfl ?_
            refine Run.pure (dd := some 2) rfl rfl (op_assign rfl (Opd.const _)) ?_
            refine Run.nil (FinR.mk ?_)
            refine nK ?_
            (first | exact s_o1 hC rfl tV | exact s_o2 hC rfl tV tV | exact s_o3 hC rfl tV tV tV | exact s_o4 hC rfl tV tV tV tV | exact s_out0 hC rfl | exact s_outO hC rfl rfl rfl)
          · rw [if_neg (by rw [hb]; decide)] at ho
            refine nK ?_
            refine s_reg rfl ?_
            refine Run.pure (dd := some 11) rfl rfl (op_move rfl (Opd.tmp _ _ rfl)) ?_
            refine Run.pure (dd := some 12) rfl rfl (op_add rfl (Opd.tmp _ _ rfl) (Opd.const _) tI) ?_
            refine Run.pure (dd := some 3) rfl rfl (op_assign rfl (Opd.tmp _ _ rfl)) ?_
            refine Run.nil (FinR.mk ?_)
            refine nK ?_
            refine Next.weak [] [] (by rfl) (keeps0 hC _) (by repeat (first | exact trivial | refine ⟨⟨_, rfl, .inl ⟨rfl, rfl⟩⟩, ?_⟩)) (by repeat (first | exact trivial | refine ⟨ent_same rfl rfl rfl tL, ?_⟩ | refine ⟨ent_same rfl rfl (rfEq rfl tU) tL, ?_⟩ | refine ⟨ent_same rfl rfl (flEq rfl (by first | (simp; done) | (simp; omega) | (simp [encP, encAt, encSg, encTl, encW, encN, encY]; done) | simp [maxC, minC])) trivial, ?_⟩)) (fun _ h => by simp at h) (hK1 ho)
        · have hie : i = l.length := by simp at hb; omega
          rw [hie, List.drop_length] at ho
          rw [← ho]
          have hnil : ∀ p, ascGo p [] = 0 := fun p => by cases p <;> rfl
          rw [hnil]
          refine nK ?_
          refine s_reg rfl ?_
          refine Run.pure (dd := some 2) rfl rfl (op_assign rfl (Opd.const _)) ?_
          refine Run.nil (FinR.mk ?_)
          refine nK ?_
          (first | exact s_o1 hC rfl tV | exact s_o2 hC rfl tV tV | exact s_o3 hC rfl tV tV tV | exact s_o4 hC rfl tV tV tV tV | exact s_out0 hC rfl | exact s_outO hC rfl rfl rfl)
open Go Go.RT Go.Proofs Go.Pl
set_option maxRecDepth 20000
set_option maxHeartbeats 4000000
theorem ratt_c (a : Att) (ha : okAt a) : Pure Try.prog 36 [.agg (encAt a)] (If .i64 (attE a)) := by
  have k1 := rpth_c a.pa ha.lpa fun s hs => (ha.pa s hs).len
  have k2 := rcomm_c a.co ha.lco
  have l1 := ha.lcl
  have l2 := ha.lun
  unfold attE
  have hcls : clsE a.cl = if 64 < a.cl.length then 4 else zerosGo a.cl := rfl
  have hunk : unkE a.un = if 64 < a.un.length then 4 else unkGo none a.un := rfl
  refine Meets.intro Try.func36 rfl (Nat.le_of_ble_eq_true rfl) fun C hC => ?_
  simp only [List.map, argEnv, Nat.reduceAdd]
  refine nK ?_
  refine s_reg rfl ?_
  refine Run.eff (dd := some 1) rfl rfl (op_box_flat rfl (Opd.tmp _ _ rfl) tC rfl) ?_
  refine Run.pure (dd := some 2) rfl rfl (op_assign rfl (Opd.const _)) ?_
  refine Run.nil (FinR.mk ?_)
  refine nK ?_
  refine s_reg rfl ?_
  refine Run.pure (dd := some 9) rfl rfl (op_fld_ptr (by decide) rfl (Opd.tmp _ _ rfl)) ?_
  refine Run.load (dd := some 10) rfl rfl (op_load1_flat rfl (Opd.tmp _ _ rfl) tH rfl) ?_
  refine Run.pure (dd := some 11) rfl rfl (op_lss rfl (Opd.tmp _ _ rfl) (Opd.const _)) ?_
  refine Run.pure (dd := some 12) rfl rfl (op_move rfl (Opd.tmp _ _ rfl)) ?_
  refine Run.pureG (dd := some 13) rfl rfl rfl tG (op_fld_ptr (by decide) rfl (Opd.tmp _ _ rfl)) ?_
  refine Run.loadG (dd := some 14) rfl rfl rfl tG (op_load1_flat rfl (Opd.topt _ _ _ rfl tO) tH rfl) ?_
  refine Run.pureG (dd := some 15) rfl rfl rfl tG (op_gtr rfl (Opd.topt _ _ _ rfl tO) (Opd.const _)) ?_
  refine Run.pure (dd := some 16) rfl rfl (op_pick_or rfl (Opd.tmp _ _ rfl) (Opd.topt _ _ _ rfl tO)) ?_
  refine Run.nil (FinR.mk ?_)
  refine nK ?_
  refine n_cond _ rfl (fun hb => ?_) (fun hb => ?_)
  · rw [f_c (by rw [when_t hb]; decide), when_t hb]
    refine nK ?_
    refine s_reg rfl ?_
    refine Run.pure (dd := some 2) rfl rfl (op_assign rfl (Opd.const _)) ?_
    refine Run.nil (FinR.mk ?_)
    refine nK ?_
    (first | exact s_o1 hC rfl tV | exact s_o2 hC rfl tV tV | exact s_o3 hC rfl tV tV tV | exact s_o4 hC rfl tV tV tV tV | exact s_out0 hC rfl | exact s_outO hC rfl rfl rfl)
  · rw [f_n (when_f hb)]
    generalize pthE a.pa = e1 at *
    refine nK ?_
    refine s_reg rfl ?_
    refine Run.pure (dd := some 17) rfl rfl (op_fld_ptr (by decide) rfl (Opd.tmp _ _ rfl)) ?_
    refine Run.load (dd := some 18) rfl rfl (op_load1_flat rfl (Opd.tmp _ _ rfl) tH rfl) ?_
    refine Run.pure (dd := some 19) rfl rfl (op_call_pure (fun _ => k1) rfl (Opd.func _) (Opds.cons _ _ _ _ (Opd.tmp _ _ rfl) Opds.nil)) ?_
    refine Run.pure (dd := some 3) rfl rfl (op_assign rfl (Opd.tmp _ _ rfl)) ?_
    refine Run.nil (FinR.mk ?_)
    refine nK ?_
    refine s_reg rfl ?_
    refine Run.pure (dd := some 20) rfl rfl (op_move rfl (Opd.tmp _ _ rfl)) ?_
    refine Run.pure (dd := some 21) rfl rfl (op_neq rfl (Opd.tmp _ _ rfl) (Opd.const _)) ?_
    refine Run.nil (FinR.mk ?_)
    refine nK ?_
    refine n_cond _ rfl (fun hb => ?_) (fun hb => ?_)
    · rw [f_c (by simpa using hb)]
      refine nK ?_
      refine s_reg rfl ?_
      refine Run.pure (dd := some 22) rfl rfl (op_move rfl (Opd.tmp _ _ rfl)) ?_
      refine Run.pure (dd := some 2) rfl rfl (op_assign rfl (Opd.tmp _ _ rfl)) ?_
      refine Run.nil (FinR.mk ?_)
      refine nK ?_
      (first | exact s_o1 hC rfl tV | exact s_o2 hC rfl tV tV | exact s_o3 hC rfl tV tV tV | exact s_o4 hC rfl tV tV tV tV | exact s_out0 hC rfl | exact s_outO hC rfl rfl rfl)
    · rw [f_n (by simpa using hb)]
      refine nK ?_
      refine s_reg rfl ?_
      refine Run.pure (dd := some 24) rfl rfl (op_fld_ptr (by decide) rfl (Opd.tmp _ _ rfl)) ?_
      refine Run.load (dd := some 25) rfl rfl (op_load1_flat rfl (Opd.tmp _ _ rfl) tH rfl) ?_
      refine Run.pure (dd := some 26) rfl rfl (op_eql rfl (Opd.tmp _ _ rfl) (Opd.const _)) ?_
      refine Run.pure (dd := some 23) rfl rfl (op_assign rfl (Opd.tmp _ _ rfl)) ?_
      refine Run.nil (FinR.mk ?_)
      refine nK ?_
      refine n_cond _ rfl (fun hb => ?_) (fun hb => ?_)
      · rw [f_c (by rw [when_t hb]; decide), when_t hb]
        refine nK ?_
        refine s_reg rfl ?_
        refine Run.pure (dd := some 2) rfl rfl (op_assign rfl (Opd.const _)) ?_
        refine Run.nil (FinR.mk ?_)
        refine nK ?_
        (first | exact s_o1 hC rfl tV | exact s_o2 hC rfl tV tV | exact s_o3 hC rfl tV tV tV | exact s_o4 hC rfl tV tV tV tV | exact s_out0 hC rfl | exact s_outO hC rfl rfl rfl)
      · rw [f_n (when_f hb)]
        refine nK ?_
        refine s_reg rfl ?_
        refine Run.pure (dd := some 28) rfl rfl (op_fld_ptr (by decide) rfl (Opd.tmp _ _ rfl)) ?_
        refine Run.load (dd := some 29) rfl rfl (op_load1_flat rfl (Opd.tmp _ _ rfl) tH rfl) ?_
        refine Run.pure (dd := some 30) rfl rfl (op_move rfl (Opd.tmp _ _ rfl)) ?_
        refine Run.pureG (dd := some 31) rfl rfl rfl tG (op_fld_ptr (by decide) rfl (Opd.tmp _ _ rfl)) ?_
        refine Run.loadG (dd := some 32) rfl rfl rfl tG (op_load1_flat rfl (Opd.topt _ _ _ rfl tO) tH rfl) ?_
        refine Run.pureG (dd := some 33) rfl rfl rfl tG (op_call_pure (fun _ => word_c _) rfl (Opd.func _) (Opds.cons _ _ _ _ (Opd.topt _ _ _ rfl tO) Opds.nil)) ?_
        refine Run.pureG (dd := some 34) rfl rfl rfl tG (op_not rfl (Opd.topt _ _ _ rfl tO)) ?_
        refine Run.pure (dd := some 35) rfl rfl (op_pick_and rfl (Opd.tmp _ _ rfl) (Opd.topt _ _ _ rfl tO)) ?_
        refine Run.pure (dd := some 27) rfl rfl (op_assign rfl (Opd.tmp _ _ rfl)) ?_
        refine Run.nil (FinR.mk ?_)
        refine nK ?_
        refine n_cond _ rfl (fun hb => ?_) (fun hb => ?_)
        · rw [Bool.not_not] at hb
          rw [f_c (by rw [opt_r hb]; decide), opt_r hb]
          refine nK ?_
          refine s_reg rfl ?_
          refine Run.pure (dd := some 2) rfl rfl (op_assign rfl (Opd.const _)) ?_
          refine Run.nil (FinR.mk ?_)
          refine nK ?_
          (first | exact s_o1 hC rfl tV | exact s_o2 hC rfl tV tV | exact s_o3 hC rfl tV tV tV | exact s_o4 hC rfl tV tV tV tV | exact s_out0 hC rfl | exact s_outO hC rfl rfl rfl)
        · have hb1 : (a.hm && (decide (a.md < 0) || decide (4294967295 < a.md))) = false := by rw [Bool.not_not] at hb; exact hb
          refine nK ?_
          refine s_reg rfl ?_
          refine Run.pure (dd := some 37) rfl rfl (op_fld_ptr (by decide) rfl (Opd.tmp _ _ rfl)) ?_
          refine Run.load (dd := some 38) rfl rfl (op_load1_flat rfl (Opd.tmp _ _ rfl) tH rfl) ?_
          refine Run.pure (dd := some 39) rfl rfl (op_not rfl (Opd.tmp _ _ rfl)) ?_
          refine Run.pure (dd := some 40) rfl rfl (op_move rfl (Opd.tmp _ _ rfl)) ?_
          refine Run.pureG (dd := some 41) rfl rfl rfl tG (op_fld_ptr (by decide) rfl (Opd.tmp _ _ rfl)) ?_
          refine Run.loadG (dd := some 42) rfl rfl rfl tG (op_load1_flat rfl (Opd.topt _ _ _ rfl tO) tH rfl) ?_
          refine Run.pureG (dd := some 43) rfl rfl rfl tG (op_neq rfl (Opd.topt _ _ _ rfl tO) (Opd.const _)) ?_
          refine Run.pure (dd := some 44) rfl rfl (op_pick_and rfl (Opd.tmp _ _ rfl) (Opd.topt _ _ _ rfl tO)) ?_
          refine Run.pure (dd := some 36) rfl rfl (op_assign rfl (Opd.tmp _ _ rfl)) ?_
          refine Run.nil (FinR.mk ?_)
          refine nK ?_
          refine n_cond _ rfl (fun hb => ?_) (fun hb => ?_)
          · rw [f_c (by rw [opt_i hb1 hb]; decide), opt_i hb1 hb]
            refine nK ?_
            refine s_reg rfl ?_
            refine Run.pure (dd := some 2) rfl rfl (op_assign rfl (Opd.const _)) ?_
            refine Run.nil (FinR.mk ?_)
            refine nK ?_
            (first | exact s_o1 hC rfl tV | exact s_o2 hC rfl tV tV | exact s_o3 hC rfl tV tV tV | exact s_o4 hC rfl tV tV tV tV | exact s_out0 hC rfl | exact s_outO hC rfl rfl rfl)
          · rw [f_n (opt_f hb1 hb)]
            refine nK ?_
            refine s_reg rfl ?_
            refine Run.pure (dd := some 46) rfl rfl (op_fld_ptr (by decide) rfl (Opd.tmp _ _ rfl)) ?_
            refine Run.load (dd := some 47) rfl rfl (op_load1_flat rfl (Opd.tmp _ _ rfl) tH rfl) ?_
            refine Run.pure (dd := some 48) rfl rfl (op_move rfl (Opd.tmp _ _ rfl)) ?_
            refine Run.pureG (dd := some 49) rfl rfl rfl tG (op_fld_ptr (by decide) rfl (Opd.tmp _ _ rfl)) ?_
            refine Run.loadG (dd := some 50) rfl rfl rfl tG (op_load1_flat rfl (Opd.topt _ _ _ rfl tO) tH rfl) ?_
            refine Run.pureG (dd := some 51) rfl rfl rfl tG (op_call_pure (fun _ => word_c _) rfl (Opd.func _) (Opds.cons _ _ _ _ (Opd.topt _ _ _ rfl tO) Opds.nil)) ?_
            refine Run.pureG (dd := some 52) rfl rfl rfl tG (op_not rfl (Opd.topt _ _ _ rfl tO)) ?_
            refine Run.pure (dd := some 53) rfl rfl (op_pick_and rfl (Opd.tmp _ _ rfl) (Opd.topt _ _ _ rfl tO)) ?_
            refine Run.pure (dd := some 45) rfl rfl (op_assign rfl (Opd.tmp _ _ rfl)) ?_
            refine Run.nil (FinR.mk ?_)
            refine nK ?_
            refine n_cond _ rfl (fun hb => ?_) (fun hb => ?_)
            · rw [Bool.not_not] at hb
              rw [f_c (by rw [opt_r hb]; decide), opt_r hb]
              refine nK ?_
              refine s_reg rfl ?_
              refine Run.pure (dd := some 2) rfl rfl (op_assign rfl (Opd.const _)) ?_
              refine Run.nil (FinR.mk ?_)
              refine nK ?_
              (first | exact s_o1 hC rfl tV | exact s_o2 hC rfl tV tV | exact s_o3 hC rfl tV tV tV | exact s_o4 hC rfl tV tV tV tV | exact s_out0 hC rfl | exact s_outO hC rfl rfl rfl)
            · have hb2 : (a.hp && (decide (a.pf < 0) || decide (4294967295 < a.pf))) = false := by rw [Bool.not_not] at hb; exact hb
              refine nK ?_
              refine s_reg rfl ?_
              refine Run.pure (dd := some 55) rfl rfl (op_fld_ptr (by decide) rfl (Opd.tmp _ _ rfl)) ?_
              refine Run.load (dd := some 56) rfl rfl (op_load1_flat rfl (Opd.tmp _ _ rfl) tH rfl) ?_
              refine Run.pure (dd := some 57) rfl rfl (op_not rfl (Opd.tmp _ _ rfl)) ?_
              refine Run.pure (dd := some 58) rfl rfl (op_move rfl (Opd.tmp _ _ rfl)) ?_
              refine Run.pureG (dd := some 59) rfl rfl rfl tG (op_fld_ptr (by decide) rfl (Opd.tmp _ _ rfl)) ?_
              refine Run.loadG (dd := some 60) rfl rfl rfl tG (op_load1_flat rfl (Opd.topt _ _ _ rfl tO) tH rfl) ?_
              refine Run.pureG (dd := some 61) rfl rfl rfl tG (op_neq rfl (Opd.topt _ _ _ rfl tO) (Opd.const _)) ?_
              refine Run.pure (dd := some 62) rfl rfl (op_pick_and rfl (Opd.tmp _ _ rfl) (Opd.topt _ _ _ rfl tO)) ?_
              refine Run.pure (dd := some 54) rfl rfl (op_assign rfl (Opd.tmp _ _ rfl)) ?_
              refine Run.nil (FinR.mk ?_)
              refine nK ?_
              refine n_cond _ rfl (fun hb => ?_) (fun hb => ?_)
              · rw [f_c (by rw [opt_i hb2 hb]; decide), opt_i hb2 hb]
                refine nK ?_
                refine s_reg rfl ?_
                refine Run.pure (dd := some 2) rfl rfl (op_assign rfl (Opd.const _)) ?_
                refine Run.nil (FinR.mk ?_)
                refine nK ?_
                (first | exact s_o1 hC rfl tV | exact s_o2 hC rfl tV tV | exact s_o3 hC rfl tV tV tV | exact s_o4 hC rfl tV tV tV tV | exact s_out0 hC rfl | exact s_outO hC rfl rfl rfl)
              · rw [f_n (opt_f hb2 hb)]
                refine nK ?_
                refine s_reg rfl ?_
                refine Run.pure (dd := some 64) rfl rfl (op_fld_ptr (by decide) rfl (Opd.tmp _ _ rfl)) ?_
                refine Run.load (dd := some 65) rfl rfl (op_load1_flat rfl (Opd.tmp _ _ rfl) tH rfl) ?_
                refine Run.pure (dd := some 66) rfl rfl (op_move rfl (Opd.tmp _ _ rfl)) ?_
                refine Run.pureG (dd := some 67) rfl rfl rfl tG (op_fld_ptr (by decide) rfl (Opd.tmp _ _ rfl)) ?_
                refine Run.loadG (dd := some 68) rfl rfl rfl tG (op_load1_flat rfl (Opd.topt _ _ _ rfl tO) tH rfl) ?_
                refine Run.pureG (dd := some 69) rfl rfl rfl tG (op_lss rfl (Opd.topt _ _ _ rfl tO) (Opd.const _)) ?_
                refine Run.pureG (dd := some 70) rfl rfl rfl tG (op_move rfl (Opd.topt _ _ _ rfl tO)) ?_
                refine Run.pureG (dd := some 71) rfl rfl rfl tG (op_fld_ptr (by decide) rfl (Opd.tmp _ _ rfl)) ?_
                refine Run.loadG (dd := some 72) rfl rfl rfl tG (op_load1_flat rfl (Opd.topt _ _ _ rfl tO) tH rfl) ?_
                refine Run.pureG (dd := some 73) rfl rfl rfl tG (op_gtr rfl (Opd.topt _ _ _ rfl tO) (Opd.const _)) ?_
                refine Run.pureG (dd := some 74) rfl rfl rfl tG (op_pick_or rfl (Opd.topt _ _ _ rfl tO) (Opd.topt _ _ _ rfl tO)) ?_
                refine Run.pure (dd := some 75) rfl rfl (op_pick_and rfl (Opd.tmp _ _ rfl) (Opd.topt _ _ _ rfl tO)) ?_
                refine Run.pure (dd := some 63) rfl rfl (op_assign rfl (Opd.tmp _ _ rfl)) ?_
                refine Run.nil (FinR.mk ?_)
                refine nK ?_
                refine n_cond _ rfl (fun hb => ?_) (fun hb => ?_)
                · rw [f_c (by rw [opt_r hb]; decide), opt_r hb]
                  refine nK ?_
                  refine s_reg rfl ?_
                  refine Run.pure (dd := some 2) rfl rfl (op_assign rfl (Opd.const _)) ?_
                  refine Run.nil (FinR.mk ?_)
                  refine nK ?_
                  (first | exact s_o1 hC rfl tV | exact s_o2 hC rfl tV tV | exact s_o3 hC rfl tV tV tV | exact s_o4 hC rfl tV tV tV tV | exact s_out0 hC rfl | exact s_outO hC rfl rfl rfl)
                · have hb3 : (a.ha && (decide (a.aa < 1) || decide (4294967295 < a.aa))) = false := hb
                  have hor : ∀ (x y z : Bool), (x && (y || z)) = ((x && y) || (x && z)) := by decide
                  refine nK ?_
                  refine s_reg rfl ?_
                  refine Run.pure (dd := some 77) rfl rfl (op_fld_ptr (by decide) rfl (Opd.tmp _ _ rfl)) ?_
                  refine Run.load (dd := some 78) rfl rfl (op_load1_flat rfl (Opd.tmp _ _ rfl) tH rfl) ?_
                  refine Run.pure (dd := some 79) rfl rfl (op_not rfl (Opd.tmp _ _ rfl)) ?_
                  refine Run.pure (dd := some 80) rfl rfl (op_move rfl (Opd.tmp _ _ rfl)) ?_
                  refine Run.pureG (dd := some 81) rfl rfl rfl tG (op_fld_ptr (by decide) rfl (Opd.tmp _ _ rfl)) ?_
                  refine Run.loadG (dd := some 82) rfl rfl rfl tG (op_load1_flat rfl (Opd.topt _ _ _ rfl tO) tH rfl) ?_
                  refine Run.pureG (dd := some 83) rfl rfl rfl tG (op_neq rfl (Opd.topt _ _ _ rfl tO) (Opd.const _)) ?_
                  refine Run.pureG (dd := some 84) rfl rfl rfl tG (op_move rfl (Opd.topt _ _ _ rfl tO)) ?_
                  refine Run.pureG (dd := some 85) rfl rfl rfl tG (op_fld_ptr (by decide) rfl (Opd.tmp _ _ rfl)) ?_
                  refine Run.loadG (dd := some 86) rfl rfl rfl tG (op_load1_flat rfl (Opd.topt _ _ _ rfl tO) tH rfl) ?_
                  refine Run.pureG (dd := some 87) rfl rfl rfl tG (op_neq rfl (Opd.topt _ _ _ rfl tO) (Opd.const _)) ?_
                  refine Run.pureG (dd := some 88) rfl rfl rfl tG (op_pick_or rfl (Opd.topt _ _ _ rfl tO) (Opd.topt _ _ _ rfl tO)) ?_
                  refine Run.pure (dd := some 89) rfl rfl (op_pick_and rfl (Opd.tmp _ _ rfl) (Opd.topt _ _ _ rfl tO)) ?_
                  refine Run.pure (dd := some 76) rfl rfl (op_assign rfl (Opd.tmp _ _ rfl)) ?_
                  refine Run.nil (FinR.mk ?_)
                  refine nK ?_
                  refine n_cond _ rfl (fun hb => ?_) (fun hb => ?_)
                  · have hb4 : ((!a.ha && decide (a.aa ≠ 0)) || (!a.ha && decide (a.ad ≠ 0))) = true := (hor _ _ _).symm.trans hb
                    by_cases h5 : (!a.ha && decide (a.aa ≠ 0)) = true
                    · rw [f_c (by rw [opt_i hb3 h5]; decide), opt_i hb3 h5]
                      refine nK ?_
                      refine s_reg rfl ?_
                      refine Run.pure (dd := some 2) rfl rfl (op_assign rfl (Opd.const _)) ?_
                      refine Run.nil (FinR.mk ?_)
                      refine nK ?_
                      (first | exact s_o1 hC rfl tV | exact s_o2 hC rfl tV tV | exact s_o3 hC rfl tV tV tV | exact s_o4 hC rfl tV tV tV tV | exact s_out0 hC rfl | exact s_outO hC rfl rfl rfl)
                    · have h5 : (!a.ha && decide (a.aa ≠ 0)) = false := by simpa using h5
                      have h6 : (!a.ha && decide (a.ad ≠ 0)) = true := by rw [h5, Bool.false_or] at hb4; exact hb4
                      rw [f_n (opt_f hb3 h5), f_c (by rw [when_t h6]; decide), when_t h6]
                      refine nK ?_
                      refine s_reg rfl ?_
                      refine Run.pure (dd := some 2) rfl rfl (op_assign rfl (Opd.const _)) ?_
                      refine Run.nil (FinR.mk ?_)
                      refine nK ?_
                      (first | exact s_o1 hC rfl tV | exact s_o2 hC rfl tV tV | exact s_o3 hC rfl tV tV tV | exact s_o4 hC rfl tV tV tV tV | exact s_out0 hC rfl | exact s_outO hC rfl rfl rfl)
                  · have hb4 : ((!a.ha && decide (a.aa ≠ 0)) || (!a.ha && decide (a.ad ≠ 0))) = false := (hor _ _ _).symm.trans hb
                    obtain ⟨h5, h6⟩ := Bool.or_eq_false_iff.1 hb4
                    rw [f_n (opt_f hb3 h5), f_n (when_f h6)]
                    clear hb4 h5 h6 hb3 hb2 hb1
                    generalize commE a.co = e2 at *
                    refine nK ?_
                    refine s_reg rfl ?_
                    refine Run.pure (dd := some 90) rfl rfl (op_fld_ptr (by decide) rfl (Opd.tmp _ _ rfl)) ?_
                    refine Run.load (dd := some 91) rfl rfl (op_load1_flat rfl (Opd.tmp _ _ rfl) tH rfl) ?_
                    refine Run.pure (dd := some 92) rfl rfl (op_call_pure (fun _ => k2) rfl (Opd.func _) (Opds.cons _ _ _ _ (Opd.tmp _ _ rfl) Opds.nil)) ?_
                    refine Run.pure (dd := some 4) rfl rfl (op_assign rfl (Opd.tmp _ _ rfl)) ?_
                    refine Run.nil (FinR.mk ?_)
                    refine nK ?_
                    refine s_reg rfl ?_
                    refine Run.pure (dd := some 93) rfl rfl (op_move rfl (Opd.tmp _ _ rfl)) ?_
                    refine Run.pure (dd := some 94) rfl rfl (op_neq rfl (Opd.tmp _ _ rfl) (Opd.const _)) ?_
                    refine Run.nil (FinR.mk ?_)
                    refine nK ?_
                    refine n_cond _ rfl (fun hb => ?_) (fun hb => ?_)
                    · rw [f_c (by simpa using hb)]
                      refine nK ?_
                      refine s_reg rfl ?_
                      refine Run.pure (dd := some 95) rfl rfl (op_move rfl (Opd.tmp _ _ rfl)) ?_
                      refine Run.pure (dd := some 2) rfl rfl (op_assign rfl (Opd.tmp _ _ rfl)) ?_
                      refine Run.nil (FinR.mk ?_)
                      refine nK ?_
                      (first | exact s_o1 hC rfl tV | exact s_o2 hC rfl tV tV | exact s_o3 hC rfl tV tV tV | exact s_o4 hC rfl tV tV tV tV | exact s_out0 hC rfl | exact s_outO hC rfl rfl rfl)
                    · rw [f_n (by simpa using hb)]
                      refine nK ?_
                      refine s_reg rfl ?_
                      refine Run.pure (dd := some 96) rfl rfl (op_fld_ptr (by decide) rfl (Opd.tmp _ _ rfl)) ?_
                      refine Run.load (dd := some 97) rfl rfl (op_load1_flat rfl (Opd.tmp _ _ rfl) tH rfl) ?_
                      refine Run.pure (dd := some 98) rfl rfl (op_fld_ptr (by decide) rfl (Opd.tmp _ _ rfl)) ?_
                      refine Run.load (dd := some 99) rfl rfl (op_load1_flat rfl (Opd.tmp _ _ rfl) tH rfl) ?_
                      refine Run.pure (dd := some 100) rfl rfl (op_neq rfl (Opd.tmp _ _ rfl) (Opd.const _)) ?_
                      refine Run.pure (dd := some 101) rfl rfl (op_neqB rfl (Opd.tmp _ _ rfl) (Opd.tmp _ _ rfl)) ?_
                      refine Run.nil (FinR.mk ?_)
                      refine nK ?_
                      refine n_cond _ rfl (fun hb => ?_) (fun hb => ?_)
                      · have h7 := (orig_eq a.ho a.og).symm.trans hb
                        rw [f_c (by rw [when_t h7]; decide), when_t h7]
                        refine nK ?_
                        refine s_reg rfl ?_
                        refine Run.pure (dd := some 2) rfl rfl (op_assign rfl (Opd.const _)) ?_
                        refine Run.nil (FinR.mk ?_)
                        refine nK ?_
                        (first | exact s_o1 hC rfl tV | exact s_o2 hC rfl tV tV | exact s_o3 hC rfl tV tV tV | exact s_o4 hC rfl tV tV tV tV | exact s_out0 hC rfl | exact s_outO hC rfl rfl rfl)
                      · have h7 := (orig_eq a.ho a.og).symm.trans hb
                        rw [f_n (when_f h7)]
                        refine nK ?_
                        refine s_reg rfl ?_
                        refine Run.pure (dd := some 102) rfl rfl (op_fld_ptr (by decide) rfl (Opd.tmp _ _ rfl)) ?_
                        refine Run.load (dd := some 103) rfl rfl (op_load1_flat rfl (Opd.tmp _ _ rfl) tH rfl) ?_
                        refine Run.pure (dd := some 104) rfl rfl (op_len_fz rfl (by first | exact Opd.tmp _ _ rfl | exact Opd.nil _ _ (Opd.tmp _ _ rfl)) (by first | exact List.length_map _ | rfl)) ?_
                        refine Run.pure (dd := some 105) rfl rfl (op_gtr rfl (Opd.tmp _ _ rfl) (Opd.const _)) ?_
                        refine Run.nil (FinR.mk ?_)
                        refine nK ?_
                        refine n_cond _ rfl (fun hb => ?_) (fun hb => ?_)
                        · rw [if_pos (by simp at hb; omega)] at hcls
                          rw [f_c (by rw [hcls]; decide), hcls]
                          refine nK ?_
                          refine s_reg rfl ?_
                          refine Run.pure (dd := some 2) rfl rfl (op_assign rfl (Opd.const _)) ?_
                          refine Run.nil (FinR.mk ?_)
                          refine nK ?_
                          (first | exact s_o1 hC rfl tV | exact s_o2 hC rfl tV tV | exact s_o3 hC rfl tV tV tV | exact s_o4 hC rfl tV tV tV tV | exact s_out0 hC rfl | exact s_outO hC rfl rfl rfl)
                        · rw [if_neg (by simp at hb; omega)] at hcls
                          refine nK ?_
                          refine s_reg rfl ?_
                          refine Run.pure (dd := some 106) rfl rfl (op_fld_ptr (by decide) rfl (Opd.tmp _ _ rfl)) ?_
                          refine Run.load (dd := some 107) rfl rfl (op_load1_flat rfl (Opd.tmp _ _ rfl) tH rfl) ?_
                          refine Run.pure (dd := some 108) rfl rfl (op_len_fz rfl (by first | exact Opd.tmp _ _ rfl | exact Opd.nil _ _ (Opd.tmp _ _ rfl)) (by first | exact List.length_map _ | rfl)) ?_
                          refine Run.pure (dd := some 109) rfl rfl (op_move rfl (Opd.const _)) ?_
                          refine Run.nil (FinR.mk ?_)
                          refine nK ?_
                          refine n_loop (ι := Nat) (fun i => ([(1, .ptr 0 16 0 0), (107, .fz (VW a.cl)), (108, IV .i64 a.cl.length), (109, IV .i64 i)], [(0, some (.flat 16 [encAt a]))], 1)) (fun i => i ≤ a.cl.length ∧ zerosGo (a.cl.drop i) = zerosGo a.cl) (fun i => a.cl.length - i) 0 ⟨Nat.zero_le _, rfl⟩ ?_ ?_
                          · refine Next.weakS [1] [] (by rfl) (by first | exact keeps0 hC _ | exact keepsN hC _ rfl) (by repeat (first | exact trivial | refine ⟨⟨_, rfl, .inl ⟨rfl, rfl⟩⟩, ?_⟩ | refine ⟨⟨_, rfl, .inl ⟨slEq rfl tN, rfl⟩⟩, ?_⟩ | refine ⟨⟨_, rfl, .inl ⟨ivEq tX, rfl⟩⟩, ?_⟩)) (by repeat (first | exact trivial | refine ⟨ent_same rfl rfl rfl tL, ?_⟩ | refine ⟨ent_same rfl rfl (rfEq rfl tU) tL, ?_⟩ | refine ⟨ent_same rfl rfl (flEq rfl (by first | (simp; done) | (simp; omega) | (simp [encP, encAt, encSg, encTl, encW, encN, encY]; done) | simp [maxC, minC])) trivial, ?_⟩)) rfl (rel_intro)
                          · intro i ⟨hi, ho⟩ K hK
                            refine nK ?_
                            refine s_reg rfl ?_
                            refine Run.pure (dd := some 110) rfl rfl (op_lss rfl (Opd.tmp _ _ rfl) (Opd.tmp _ _ rfl)) ?_
                            refine Run.nil (FinR.mk ?_)
                            refine nK ?_
                            refine n_cond _ rfl (fun hb => ?_) (fun hb => ?_)
                            · have hlt : i < a.cl.length := by simp at hb; omega
                              have hr1 := row_at' encW a.cl i hlt
                              rw [List.drop_eq_getElem_cons hlt] at ho
                              simp only [zerosGo] at ho
                              have hK1 := fun h => hK (i + 1) ⟨by omega, h⟩ (by omega)
                              generalize a.cl[i] = x at *
                              refine nK ?_
                              refine s_reg rfl ?_
                              refine Run.pure (dd := some 111) rfl rfl (op_idx_fz _ rfl (Opd.tmp _ _ rfl) (Opd.tmp _ _ rfl) tF) ?_
                              refine Run.pure (dd := some 112) rfl rfl (op_load1_fz rfl (Opd.tmp _ _ rfl) rfl) ?_
                              refine Run.pure (dd := some 6) rfl rfl (op_assign rfl (Opd.tmp _ _ rfl)) ?_
                              refine Run.nil (FinR.mk ?_)
                              refine nK ?_
                              refine s_reg rfl ?_
                              refine Run.pure (dd := some 113) rfl rfl (op_move rfl (Opd.tmp _ _ rfl)) ?_
                              refine Run.pure (dd := some 114) rfl rfl (op_eql rfl (Opd.tmp _ _ rfl) (Opd.const _)) ?_
                              refine Run.nil (FinR.mk ?_)
                              refine nK ?_
                              refine n_cond _ rfl (fun hb => ?_) (fun hb => ?_)
                              · rw [if_pos (by simpa using hb)] at ho
                                rw [← ho] at hcls
                                rw [f_c (by rw [hcls]; decide), hcls]
                                refine nK ?_
                                refine s_reg rfl ?_
                                refine Run.pure (dd := some 2) rfl rfl (op_assign rfl (Opd.const _)) ?_
                                refine Run.nil (FinR.mk ?_)
                                refine nK ?_
                                (first | exact s_o1 hC rfl tV | exact s_o2 hC rfl tV tV | exact s_o3 hC rfl tV tV tV | exact s_o4 hC rfl tV tV tV tV | exact s_out0 hC rfl | exact s_outO hC rfl rfl rfl)
                              · rw [if_neg (by simpa using hb)] at ho
                                refine nK ?_
                                refine s_reg rfl ?_
                                refine Run.pure (dd := some 115) rfl rfl (op_add rfl (Opd.tmp _ _ rfl) (Opd.const _) tI) ?_
                                refine Run.pure (dd := some 109) rfl rfl (op_move rfl (Opd.tmp _ _ rfl)) ?_
                                refine Run.nil (FinR.mk ?_)
                                refine nK ?_
                                refine Next.weakS [1] [] (by rfl) (by first | exact keeps0 hC _ | exact keepsN hC _ rfl) (by repeat (first | exact trivial | refine ⟨⟨_, rfl, .inl ⟨rfl, rfl⟩⟩, ?_⟩ | refine ⟨⟨_, rfl, .inl ⟨slEq rfl tN, rfl⟩⟩, ?_⟩ | refine ⟨⟨_, rfl, .inl ⟨ivEq tX, rfl⟩⟩, ?_⟩)) (by repeat (first | exact trivial | refine ⟨ent_same rfl rfl rfl tL, ?_⟩ | refine ⟨ent_same rfl rfl (rfEq rfl tU) tL, ?_⟩ | refine ⟨ent_same rfl rfl (flEq rfl (by first | (simp; done) | (simp; omega) | (simp [encP, encAt, encSg, encTl, encW, encN, encY]; done) | simp [maxC, minC])) trivial, ?_⟩)) rfl ((hK1 ho))
                            · have hie : i = a.cl.length := by simp at hb; omega
                              rw [hie, List.drop_length] at ho
                              rw [← ho] at hcls
                              simp only [zerosGo] at hcls
                              rw [f_n hcls]
                              clear hK ho
                              refine nK ?_
                              refine s_reg rfl ?_
                              refine Run.pure (dd := some 116) rfl rfl (op_fld_ptr (by decide) rfl (Opd.tmp _ _ rfl)) ?_
                              refine Run.load (dd := some 117) rfl rfl (op_load1_flat rfl (Opd.tmp _ _ rfl) tH rfl) ?_
                              refine Run.pure (dd := some 118) rfl rfl (op_len_fz rfl (by first | exact Opd.tmp _ _ rfl | exact Opd.nil _ _ (Opd.tmp _ _ rfl)) (by first | exact List.length_map _ | rfl)) ?_
                              refine Run.pure (dd := some 119) rfl rfl (op_gtr rfl (Opd.tmp _ _ rfl) (Opd.const _)) ?_
                              refine Run.nil (FinR.mk ?_)
                              refine nK ?_
                              refine n_cond _ rfl (fun hb => ?_) (fun hb => ?_)
                              · rw [if_pos (by simp at hb; omega)] at hunk
                                rw [f_c (by rw [hunk]; decide), hunk]
                                refine nK ?_
                                refine s_reg rfl ?_
                                refine Run.pure (dd := some 2) rfl rfl (op_assign rfl (Opd.const _)) ?_
                                refine Run.nil (FinR.mk ?_)
                                refine nK ?_
                                (first | exact s_o1 hC rfl tV | exact s_o2 hC rfl tV tV | exact s_o3 hC rfl tV tV tV | exact s_o4 hC rfl tV tV tV tV | exact s_out0 hC rfl | exact s_outO hC rfl rfl rfl)
                              · rw [if_neg (by simp at hb; omega)] at hunk
                                refine nK ?_
                                refine s_reg rfl ?_
                                refine Run.pure (dd := some 120) rfl rfl (op_fld_ptr (by decide) rfl (Opd.tmp _ _ rfl)) ?_
                                refine Run.load (dd := some 121) rfl rfl (op_load1_flat rfl (Opd.tmp _ _ rfl) tH rfl) ?_
                                refine Run.pure (dd := some 122) rfl rfl (op_len_fz rfl (by first | exact Opd.tmp _ _ rfl | exact Opd.nil _ _ (Opd.tmp _ _ rfl)) (by first | exact List.length_map _ | rfl)) ?_
                                refine Run.pure (dd := some 123) rfl rfl (op_move rfl (Opd.const _)) ?_
                                refine Run.nil (FinR.mk ?_)
                                refine nK ?_
                                refine n_loop (ι := Nat) (fun i => ([(1, .ptr 0 16 0 0), (121, .fz (VTl a.un)), (122, IV .i64 a.un.length), (123, IV .i64 i)], [(0, some (.flat 16 [encAt a]))], 1)) (fun i => i ≤ a.un.length ∧ unkGo (prvG a.un i) (a.un.drop i) = unkGo none a.un) (fun i => a.un.length - i) 0 ⟨Nat.zero_le _, rfl⟩ ?_ ?_
                                · refine Next.weakS [1] [] (by rfl) (by first | exact keeps0 hC _ | exact keepsN hC _ rfl) (by repeat (first | exact trivial | refine ⟨⟨_, rfl, .inl ⟨rfl, rfl⟩⟩, ?_⟩ | refine ⟨⟨_, rfl, .inl ⟨slEq rfl tN, rfl⟩⟩, ?_⟩ | refine ⟨⟨_, rfl, .inl ⟨ivEq tX, rfl⟩⟩, ?_⟩)) (by repeat (first | exact trivial | refine ⟨ent_same rfl rfl rfl tL, ?_⟩ | refine ⟨ent_same rfl rfl (rfEq rfl tU) tL, ?_⟩ | refine ⟨ent_same rfl rfl (flEq rfl (by first | (simp; done) | (simp; omega) | (simp [encP, encAt, encSg, encTl, encW, encN, encY]; done) | simp [maxC, minC])) trivial, ?_⟩)) rfl (rel_intro)
                                · intro i ⟨hi, ho⟩ K hK
                                  refine nK ?_
                                  refine s_reg rfl ?_
                                  refine Run.pure (dd := some 124) rfl rfl (op_lss rfl (Opd.tmp _ _ rfl) (Opd.tmp _ _ rfl)) ?_
                                  refine Run.nil (FinR.mk ?_)
                                  refine nK ?_
                                  refine n_cond _ rfl (fun hb => ?_) (fun hb => ?_)
                                  · have hlt : i < a.un.length := by simp at hb; omega
                                    have hr1 := row_at' encTl a.un i hlt
                                    obtain ⟨q, hq⟩ := prv_row encTl a.un ⟨0, []⟩ (by omega : i ≤ a.un.length)
                                    rw [unk_step hlt] at ho
                                    have hK1 := fun h => hK (i + 1) ⟨by omega, h⟩ (by omega)
                                    generalize a.un[i] = x at *
                                    rw [leT_pos (q := q) fun h => (hq h).1] at ho
                                    have h10 : (decide (x.k ≤ 10) || decide (255 < x.k)) = (decide (x.k < 11) || decide (255 < x.k)) := by
                                      have : decide (x.k ≤ 10) = decide (x.k < 11) := by simp; omega
                                      rw [this]
                                    rw [h10] at ho
                                    refine nK ?_
                                    refine s_reg rfl ?_
                                    refine Run.pure (dd := some 125) rfl rfl (op_move rfl (Opd.tmp _ _ rfl)) ?_
                                    refine Run.pure (dd := some 126) rfl rfl (op_idx_fz _ rfl (Opd.tmp _ _ rfl) (Opd.tmp _ _ rfl) tF) ?_
                                    refine Run.pure (dd := some 127) rfl rfl (op_loadw_fz rfl (Opd.tmp _ _ rfl) rfl) ?_
                                    refine Run.eff (dd := some 8) rfl rfl (op_alloc rfl rfl rfl rfl) ?_
                                    refine Run.pure (dd := some 7) rfl rfl (op_assign rfl (Opd.tmp _ _ rfl)) ?_
                                    refine Run.eff (dd := none) rfl rfl (op_store_flat rfl (Opd.tmp _ _ rfl) (Opd.tmp _ _ rfl) tC rfl rfl (by first | rfl | assumption) tS) ?_
                                    refine Run.nil (FinR.mk ?_)
                                    refine nK ?_
                                    refine s_reg rfl ?_
                                    refine Run.pure (dd := some 129) rfl rfl (op_fld_ptr (by decide) rfl (Opd.tmp _ _ rfl)) ?_
                                    refine Run.load (dd := some 130) rfl rfl (op_load1_flat rfl (Opd.tmp _ _ rfl) tH rfl) ?_
                                    refine Run.pure (dd := some 131) rfl rfl (op_lss rfl (Opd.tmp _ _ rfl) (Opd.const _)) ?_
                                    refine Run.pure (dd := some 132) rfl rfl (op_move rfl (Opd.tmp _ _ rfl)) ?_
                                    refine Run.pureG (dd := some 133) rfl rfl rfl tG (op_fld_ptr (by decide) rfl (Opd.tmp _ _ rfl)) ?_
                                    refine Run.loadG (dd := some 134) rfl rfl rfl tG (op_load1_flat rfl (Opd.topt _ _ _ rfl tO) tH rfl) ?_
                                    refine Run.pureG (dd := some 135) rfl rfl rfl tG (op_gtr rfl (Opd.topt _ _ _ rfl tO) (Opd.const _)) ?_
                                    refine Run.pure (dd := some 136) rfl rfl (op_pick_or rfl (Opd.tmp _ _ rfl) (Opd.topt _ _ _ rfl tO)) ?_
                                    refine Run.pure (dd := some 128) rfl rfl (op_assign rfl (Opd.tmp _ _ rfl)) ?_
                                    refine Run.nil (FinR.mk ?_)
                                    refine nK ?_
                                    refine n_cond _ rfl (fun hb => ?_) (fun hb => ?_)
                                    · rw [if_pos hb] at ho
                                      rw [← ho] at hunk
                                      rw [f_c (by rw [hunk]; decide), hunk]
                                      refine nK ?_
                                      refine s_reg rfl ?_
                                      refine Run.pure (dd := some 2) rfl rfl (op_assign rfl (Opd.const _)) ?_
                                      refine Run.nil (FinR.mk ?_)
                                      refine nK ?_
                                      (first | exact s_o1 hC rfl tV | exact s_o2 hC rfl tV tV | exact s_o3 hC rfl tV tV tV | exact s_o4 hC rfl tV tV tV tV | exact s_out0 hC rfl | exact s_outO hC rfl rfl rfl)
                                    · rw [if_neg (by rw [hb]; decide)] at ho
                                      refine nK ?_
                                      refine s_draw mixed ?_
                                      refine Run.pure (dd := some 138) rfl rfl (op_move rfl (Opd.tmp _ _ rfl)) ?_
                                      refine Run.pure (dd := some 139) rfl rfl (op_gtr rfl (Opd.tmp _ _ rfl) (Opd.const _)) ?_
                                      refine Run.pure (dd := some 140) rfl rfl (op_move rfl (Opd.tmp _ _ rfl)) ?_
                                      refine Run.pureG (dd := some 141) rfl rfl rfl tG (op_fld_ptr (by decide) rfl (Opd.tmp _ _ rfl)) ?_
                                      refine Run.loadG (dd := some 142) rfl rfl rfl tG (op_load1_flat rfl (Opd.topt _ _ _ rfl tO) tH rfl) ?_
                                      refine Run.pureG (dd := some 143) rfl rfl rfl tG (op_fld_ptr (by decide) rfl (Opd.tmp _ _ rfl)) ?_
                                      refine Run.loadG (dd := some 144) rfl rfl rfl tG (op_load1_flat rfl (Opd.topt _ _ _ rfl tO) tH rfl) ?_
                                      refine Run.pureG (dd := some 145) rfl rfl rfl tG (op_move rfl (Opd.tmp _ _ rfl)) ?_
                                      refine Run.pureG (dd := some 146) rfl rfl rfl tG (op_sub rfl (Opd.topt _ _ _ rfl tO) (Opd.const _) tI) ?_
                                      refine Run.pureG (dd := some 147) rfl rfl rfl tG (op_idx_fz (i - 1) rfl (Opd.topt _ _ _ rfl tO) (Opd.topt _ _ _ rfl tO) (by intro hg; have h0 : 0 < i := (by simp at hg; omega); exact ⟨by omega, (hq h0).2⟩)) ?_
                                      refine Run.pureG (dd := some 148) rfl rfl rfl tG (op_fld_fz (by decide) rfl (Opd.topt _ _ _ rfl tO) tR) ?_
                                      refine Run.pureG (dd := some 149) rfl rfl rfl tG (op_load1_fz rfl (Opd.topt _ _ _ rfl tO) rfl) ?_
                                      refine Run.pureG (dd := some 150) rfl rfl rfl tG (op_leq rfl (Opd.topt _ _ _ rfl tO) (Opd.topt _ _ _ rfl tO)) ?_
                                      refine Run.pure (dd := some 151) rfl rfl (op_pick_and rfl (Opd.tmp _ _ rfl) (Opd.topt _ _ _ rfl tO)) ?_
                                      refine Run.pure (dd := some 137) rfl rfl (op_assign rfl (Opd.tmp _ _ rfl)) ?_
                                      refine Run.nil (FinD.mk (by kernel_rfl) ?_)
                                      refine nK ?_
                                      refine n_cond _ rfl (fun hb => ?_) (fun hb => ?_)
                                      · rw [if_pos hb] at ho
                                        rw [← ho] at hunk
                                        rw [f_c (by rw [hunk]; decide), hunk]
                                        refine nK ?_
                                        refine s_reg rfl ?_
                                        refine Run.pure (dd := some 2) rfl rfl (op_assign rfl (Opd.const _)) ?_
                                        refine Run.nil (FinR.mk ?_)
                                        refine nK ?_
                                        (first | exact s_o1 hC rfl tV | exact s_o2 hC rfl tV tV | exact s_o3 hC rfl tV tV tV | exact s_o4 hC rfl tV tV tV tV | exact s_out0 hC rfl | exact s_outO hC rfl rfl rfl)
                                      · rw [if_neg (by rw [hb]; decide)] at ho
                                        refine nK ?_
                                        refine s_reg rfl ?_
                                        refine Run.pure (dd := some 153) rfl rfl (op_fld_ptr (by decide) rfl (Opd.tmp _ _ rfl)) ?_
                                        refine Run.load (dd := some 154) rfl rfl (op_load1_flat rfl (Opd.tmp _ _ rfl) tH rfl) ?_
                                        refine Run.pure (dd := some 155) rfl rfl (op_len_fz rfl (by first | exact Opd.tmp _ _ rfl | exact Opd.nil _ _ (Opd.tmp _ _ rfl)) (by first | exact List.length_map _ | rfl)) ?_
                                        refine Run.pure (dd := some 156) rfl rfl (op_gtr rfl (Opd.tmp _ _ rfl) (Opd.const _)) ?_
                                        refine Run.pure (dd := some 152) rfl rfl (op_assign rfl (Opd.tmp _ _ rfl)) ?_
                                        refine Run.nil (FinR.mk ?_)
                                        refine nK ?_
                                        refine n_cond _ rfl (fun hb => ?_) (fun hb => ?_)
                                        · rw [if_pos (by simp at hb; omega)] at ho
                                          rw [← ho] at hunk
                                          rw [f_c (by rw [hunk]; decide), hunk]
                                          refine nK ?_
                                          refine s_reg rfl ?_
                                          refine Run.pure (dd := some 2) rfl rfl (op_assign rfl (Opd.const _)) ?_
                                          refine Run.nil (FinR.mk ?_)
                                          refine nK ?_
                                          (first | exact s_o1 hC rfl tV | exact s_o2 hC rfl tV tV | exact s_o3 hC rfl tV tV tV | exact s_o4 hC rfl tV tV tV tV | exact s_out0 hC rfl | exact s_outO hC rfl rfl rfl)
                                        · rw [if_neg (by simp at hb; omega)] at ho
                                          refine nK ?_
                                          refine s_reg rfl ?_
                                          refine Run.pure (dd := some 157) rfl rfl (op_add rfl (Opd.tmp _ _ rfl) (Opd.const _) tI) ?_
                                          refine Run.pure (dd := some 123) rfl rfl (op_move rfl (Opd.tmp _ _ rfl)) ?_
                                          refine Run.nil (FinR.mk ?_)
                                          refine nK ?_
                                          refine Next.weakS [1] [] (by rfl) (by first | exact keeps0 hC _ | exact keepsN hC _ rfl) (by repeat (first | exact trivial | refine ⟨⟨_, rfl, .inl ⟨rfl, rfl⟩⟩, ?_⟩ | refine ⟨⟨_, rfl, .inl ⟨slEq rfl tN, rfl⟩⟩, ?_⟩ | refine ⟨⟨_, rfl, .inl ⟨ivEq tX, rfl⟩⟩, ?_⟩)) (by repeat (first | exact trivial | refine ⟨ent_same rfl rfl rfl tL, ?_⟩ | refine ⟨ent_same rfl rfl (rfEq rfl tU) tL, ?_⟩ | refine ⟨ent_same rfl rfl (flEq rfl (by first | (simp; done) | (simp; omega) | (simp [encP, encAt, encSg, encTl, encW, encN, encY]; done) | simp [maxC, minC])) trivial, ?_⟩)) rfl ((hK1 ho))
                                  · have hie : i = a.un.length := by simp at hb; omega
                                    rw [hie, List.drop_length] at ho
                                    have hnil : ∀ p, unkGo p [] = 0 := fun p => by cases p <;> rfl
                                    rw [hnil] at ho
                                    rw [← ho] at hunk
                                    rw [f_n hunk]
                                    simp only [fstI]
                                    refine nK ?_
                                    refine s_reg rfl ?_
                                    refine Run.pure (dd := some 2) rfl rfl (op_assign rfl (Opd.const _)) ?_
                                    refine Run.nil (FinR.mk ?_)
                                    refine nK ?_
                                    (first | exact s_o1 hC rfl tV | exact s_o2 hC rfl tV tV | exact s_o3 hC rfl tV tV tV | exact s_o4 hC rfl tV tV tV tV | exact s_out0 hC rfl | exact s_outO hC rfl rfl rfl)
end Go.Proofs.Ytfkcbglnadjnnaa
/- Lists of path-vector routes. No program in sight. -/
namespace Go.Pl
open Go Go.RT
set_option linter.all false
def pvE (r : Pvr) : Int := if (!validB r.px) = true then 1 else if (decide (r.pe < -1) || decide (16 ≤ r.pe)) = true then 5 else if (decide (r.kd < 0) || decide (3 < r.kd)) = true then 15 else attE r.t
def badV : Option Pvr → Pvr → Bool
  | none, _ => false
  | some q, x => decide (0 ≤ ordV q x)
def chkV : Option Pvr → List Pvr → Int
  | _, [] => 0
  | p, x :: t => if pvE x ≠ 0 then pvE x else if badV p x = true then 16 else chkV (some x) t
def listV (l : List Pvr) : Int := if 2000 < l.length then 4 else chkV none l
theorem chkV_step {l : List Pvr} {i : Nat} (h : i < l.length) : chkV (prvG l i) (l.drop i) = if pvE l[i] ≠ 0 then pvE l[i] else if badV (prvG l i) l[i] = true then 16 else chkV (prvG l (i + 1)) (l.drop (i + 1)) := by
  rw [List.drop_eq_getElem_cons h, prvG_succ h]; rfl
theorem badV_pos {i : Nat} {q x : Pvr} {l : List Pvr} (hq : 0 < i → prvG l i = some q) : badV (prvG l i) x = (decide (0 < (i : Int)) && decide (0 ≤ ordV q x)) := by
  by_cases h0 : 0 < i
  · rw [hq h0]; simp [badV, h0]
  · have : i = 0 := by omega
    subst this; simp [prvG, badV]
def ascV : Option Pvr → List Pvr → Bool
  | _, [] => true
  | p, x :: t => if badV p x = true then false else ascV (some x) t
theorem ascV_step {l : List Pvr} {i : Nat} (h : i < l.length) : ascV (prvG l i) (l.drop i) = if badV (prvG l i) l[i] = true then false else ascV (prvG l (i + 1)) (l.drop (i + 1)) := by
  rw [List.drop_eq_getElem_cons h, prvG_succ h]; rfl
theorem ascV_one {l : List Pvr} (h : 0 < l.length) : ascV (prvG l 1) (l.drop 1) = ascV none l := by
  have := ascV_step h
  simp only [prvG_zero, badV, List.drop_zero] at this
  exact this.symm
theorem ltV.trans {a b c : Pvr} (h1 : ltV a b) (h2 : ltV b c) : ltV a c := by
  unfold ltV at *
  rcases h1 with h1 | ⟨e1, h1⟩ <;> rcases h2 with h2 | ⟨e2, h2⟩
  · exact .inl (h1.trans h2)
  · exact .inl (e2 ▸ h1)
  · exact .inl (e1 ▸ h2)
  · exact .inr ⟨e1.trans e2, by omega⟩
theorem ltV.irr {a : Pvr} (h : ltV a a) : False := by
  unfold ltV at h
  rcases h with h | ⟨_, h⟩
  · exact h.irr
  · omega
theorem ascV_iff : ∀ (l : List Pvr) (p : Option Pvr), ascV p l = true ↔ l.Pairwise ltV ∧ ∀ q, p = some q → ∀ x ∈ l, ltV q x
  | [], p => by simp [ascV]
  | x :: t, p => by
    simp only [ascV]
    by_cases h : badV p x = true
    · rw [if_pos h]
      constructor
      · intro k; cases k
      · rintro ⟨_, k⟩
        cases p with
        | none => cases h
        | some q =>
          have := k q rfl x (List.mem_cons_self ..)
          rw [← ordV_neg] at this
          simp [badV] at h; omega
    · rw [if_neg h, ascV_iff t (some x)]
      constructor
      · rintro ⟨k1, k2⟩
        refine ⟨List.pairwise_cons.2 ⟨fun y hy => k2 x rfl y hy, k1⟩, fun q hq y hy => ?_⟩
        subst hq
        have hqx : ltV q x := by rw [← ordV_neg]; simp [badV] at h; omega
        rcases List.mem_cons.1 hy with rfl | hy
        · exact hqx
        · exact hqx.trans (k2 x rfl y hy)
      · rintro ⟨k1, k2⟩
        obtain ⟨k3, k4⟩ := List.pairwise_cons.1 k1
        exact ⟨k4, fun q hq y hy => by cases hq; exact k3 y hy⟩
end Go.Pl
namespace Go.Proofs.Ytfkcbglnadjnnaa
open Go Go.RT Go.Proofs Go.Pl
set_option linter.all false
set_option maxRecDepth 20000
theorem pvchk_c (r : Pvr) (h : okPv r) : Pure Try.prog 33 [.agg (encPv r)] (If .i64 (pvE r)) := by
  have kv := valid_any r.px h.px
  have ka := att_c r.t h.t
  unfold pvE
  refine Meets.intro Try.func33 rfl (Nat.le_of_ble_eq_true rfl) fun C hC => ?_
  simp only [List.map, argEnv, Nat.reduceAdd]
  refine nK ?_
  refine s_reg rfl ?_
  refine Run.eff (dd := some 1) rfl rfl (op_box_flat rfl (Opd.tmp _ _ rfl) tC rfl) ?_
  refine Run.pure (dd := some 2) rfl rfl (op_assign rfl (Opd.const _)) ?_
  refine Run.nil (FinR.mk ?_)
  refine nK ?_
  refine s_reg rfl ?_
  refine Run.pure (dd := some 4) rfl rfl (op_fld_ptr (by decide) rfl (Opd.tmp _ _ rfl)) ?_
  refine Run.load (dd := some 5) rfl rfl (op_loadn_flat rfl (Opd.tmp _ _ rfl) tH tR tR) ?_
  refine Run.pure (dd := some 6) rfl rfl (op_call_pure (fun _ => kv) rfl (Opd.func _) (Opds.cons _ _ _ _ (Opd.tmp _ _ rfl) Opds.nil)) ?_
  refine Run.pure (dd := some 7) rfl rfl (op_not rfl (Opd.tmp _ _ rfl)) ?_
  refine Run.pure (dd := some 3) rfl rfl (op_assign rfl (Opd.tmp _ _ rfl)) ?_
  refine Run.nil (FinR.mk ?_)
  refine nK ?_
  refine n_cond _ rfl (fun hb => ?_) (fun hb => ?_)
  · rw [if_pos hb]
    refine nK ?_
    refine s_reg rfl ?_
    refine Run.pure (dd := some 2) rfl rfl (op_assign rfl (Opd.const _)) ?_
    refine Run.nil (FinR.mk ?_)
    refine nK ?_
    (first | exact s_o1 hC rfl tV | exact s_o2 hC rfl tV tV | exact s_o3 hC rfl tV tV tV | exact s_o4 hC rfl tV tV tV tV | exact s_out0 hC rfl | exact s_outO hC rfl rfl rfl)
  · rw [if_neg (by rw [hb]; decide)]
    refine nK ?_
    refine s_reg rfl ?_
    refine Run.pure (dd := some 9) rfl rfl (op_fld_ptr (by decide) rfl (Opd.tmp _ _ rfl)) ?_
    refine Run.load (dd := some 10) rfl rfl (op_load1_flat rfl (Opd.tmp _ _ rfl) tH rfl) ?_
    refine Run.pure (dd := some 11) rfl rfl (op_lss rfl (Opd.tmp _ _ rfl) (Opd.const _)) ?_
    refine Run.pure (dd := some 12) rfl rfl (op_move rfl (Opd.tmp _ _ rfl)) ?_
    refine Run.pureG (dd := some 13) rfl rfl rfl tG (op_fld_ptr (by decide) rfl (Opd.tmp _ _ rfl)) ?_
    refine Run.loadG (dd := some 14) rfl rfl rfl tG (op_load1_flat rfl (Opd.topt _ _ _ rfl tO) tH rfl) ?_
    refine Run.pureG (dd := some 15) rfl rfl rfl tG (op_geq rfl (Opd.topt _ _ _ rfl tO) (Opd.const _)) ?_
    refine Run.pure (dd := some 16) rfl rfl (op_pick_or rfl (Opd.tmp _ _ rfl) (Opd.topt _ _ _ rfl tO)) ?_
    refine Run.pure (dd := some 8) rfl rfl (op_assign rfl (Opd.tmp _ _ rfl)) ?_
    refine Run.nil (FinR.mk ?_)
    refine nK ?_
    refine n_cond _ rfl (fun hb => ?_) (fun hb => ?_)
    · rw [if_pos hb]
      refine nK ?_
      refine s_reg rfl ?_
      refine Run.pure (dd := some 2) rfl rfl (op_assign rfl (Opd.const _)) ?_
      refine Run.nil (FinR.mk ?_)
      refine nK ?_
      (first | exact s_o1 hC rfl tV | exact s_o2 hC rfl tV tV | exact s_o3 hC rfl tV tV tV | exact s_o4 hC rfl tV tV tV tV | exact s_out0 hC rfl | exact s_outO hC rfl rfl rfl)
    · rw [if_neg (by rw [hb]; decide)]
      refine nK ?_
      refine s_reg rfl ?_
      refine Run.pure (dd := some 18) rfl rfl (op_fld_ptr (by decide) rfl (Opd.tmp _ _ rfl)) ?_
      refine Run.load (dd := some 19) rfl rfl (op_load1_flat rfl (Opd.tmp _ _ rfl) tH rfl) ?_
      refine Run.pure (dd := some 20) rfl rfl (op_lss rfl (Opd.tmp _ _ rfl) (Opd.const _)) ?_
      refine Run.pure (dd := some 21) rfl rfl (op_move rfl (Opd.tmp _ _ rfl)) ?_
      refine Run.pureG (dd := some 22) rfl rfl rfl tG (op_fld_ptr (by decide) rfl (Opd.tmp _ _ rfl)) ?_
      refine Run.loadG (dd := some 23) rfl rfl rfl tG (op_load1_flat rfl (Opd.topt _ _ _ rfl tO) tH rfl) ?_
      refine Run.pureG (dd := some 24) rfl rfl rfl tG (op_gtr rfl (Opd.topt _ _ _ rfl tO) (Opd.const _)) ?_
      refine Run.pure (dd := some 25) rfl rfl (op_pick_or rfl (Opd.tmp _ _ rfl) (Opd.topt _ _ _ rfl tO)) ?_
      refine Run.pure (dd := some 17) rfl rfl (op_assign rfl (Opd.tmp _ _ rfl)) ?_
      refine Run.nil (FinR.mk ?_)
      refine nK ?_
      refine n_cond _ rfl (fun hb => ?_) (fun hb => ?_)
      · rw [if_pos hb]
        refine nK ?_
        refine s_reg rfl ?_
        refine Run.pure (dd := some 2) rfl rfl (op_assign rfl (Opd.const _)) ?_
        refine Run.nil (FinR.mk ?_)
        refine nK ?_
        (first | exact s_o1 hC rfl tV | exact s_o2 hC rfl tV tV | exact s_o3 hC rfl tV tV tV | exact s_o4 hC rfl tV tV tV tV | exact s_out0 hC rfl | exact s_outO hC rfl rfl rfl)
      · rw [if_neg (by rw [hb]; decide)]
        refine nK ?_
        refine s_reg rfl ?_
        refine Run.pure (dd := some 26) rfl rfl (op_fld_ptr (by decide) rfl (Opd.tmp _ _ rfl)) ?_
        refine Run.load (dd := some 27) rfl rfl (op_loadn_flat rfl (Opd.tmp _ _ rfl) tH tR tR) ?_
        refine Run.pure (dd := some 28) rfl rfl (op_call_pure (fun _ => ka) rfl (Opd.func _) (Opds.cons _ _ _ _ (Opd.tmp _ _ rfl) Opds.nil)) ?_
        refine Run.pure (dd := some 2) rfl rfl (op_assign rfl (Opd.tmp _ _ rfl)) ?_
        refine Run.nil (FinR.mk ?_)
        refine nK ?_
        (first | exact s_o1 hC rfl tV | exact s_o2 hC rfl tV tV | exact s_o3 hC rfl tV tV tV | exact s_o4 hC rfl tV tV tV tV | exact s_out0 hC rfl | exact s_outO hC rfl rfl rfl)
theorem lchk_c (l : List Pvr) (h : ∀ r ∈ l, okPv r) (hn : l.length ≤ 2000000) : Pure Try.prog 11 [VPv l] (If .i64 (listV l)) := by
  unfold listV
  refine Meets.intro Try.func11 rfl (Nat.le_of_ble_eq_true rfl) fun C hC => ?_
  simp only [List.map, argEnv, Nat.reduceAdd]
  refine nK ?_
  refine s_reg rfl ?_
  refine Run.pure (dd := some 2) rfl rfl (op_assign rfl (Opd.const _)) ?_
  refine Run.nil (FinR.mk ?_)
  refine nK ?_
  refine s_reg rfl ?_
  refine Run.pure (dd := some 6) rfl rfl (op_move rfl (Opd.tmp _ _ rfl)) ?_
  refine Run.pure (dd := some 7) rfl rfl (op_len_fz rfl (by first | exact Opd.tmp _ _ rfl | exact Opd.nil _ _ (Opd.tmp _ _ rfl)) (by first | exact List.length_map _ | rfl)) ?_
  refine Run.pure (dd := some 8) rfl rfl (op_gtr rfl (Opd.tmp _ _ rfl) (Opd.const _)) ?_
  refine Run.nil (FinR.mk ?_)
  refine nK ?_
  refine n_cond _ rfl (fun hb => ?_) (fun hb => ?_)
  · rw [if_pos (by simp at hb; omega)]
    refine nK ?_
    refine s_reg rfl ?_
    refine Run.pure (dd := some 2) rfl rfl (op_assign rfl (Opd.const _)) ?_
    refine Run.nil (FinR.mk ?_)
    refine nK ?_
    (first | exact s_o1 hC rfl tV | exact s_o2 hC rfl tV tV | exact s_o3 hC rfl tV tV tV | exact s_o4 hC rfl tV tV tV tV | exact s_out0 hC rfl | exact s_outO hC rfl rfl rfl)
  · rw [if_neg (by simp at hb; omega)]
    refine nK ?_
    refine s_reg rfl ?_
    refine Run.pure (dd := some 9) rfl rfl (op_move rfl (Opd.tmp _ _ rfl)) ?_
    refine Run.pure (dd := some 10) rfl rfl (op_len_fz rfl (by first | exact Opd.tmp _ _ rfl | exact Opd.nil _ _ (Opd.tmp _ _ rfl)) (by first | exact List.length_map _ | rfl)) ?_
    refine Run.pure (dd := some 11) rfl rfl (op_move rfl (Opd.const _)) ?_
    refine Run.nil (FinR.mk ?_)
    refine nK ?_
    refine n_loop (ι := Nat) (fun i => ([(0, .fz (VPv l)), (9, .fz (VPv l)), (10, IV .i64 l.length), (11, IV .i64 i)], [], 0)) (fun i => i ≤ l.length ∧ chkV (prvG l i) (l.drop i) = chkV none l) (fun i => l.length - i) 0 ⟨Nat.zero_le _, rfl⟩ ?_ ?_
    · refine Next.weak [] [] (by rfl) (keeps0 hC _) (by repeat (first | exact trivial | refine ⟨⟨_, rfl, .inl ⟨rfl, rfl⟩⟩, ?_⟩)) (by repeat (first | exact trivial | refine ⟨ent_same rfl rfl rfl tL, ?_⟩ | refine ⟨ent_same rfl rfl (rfEq rfl tU) tL, ?_⟩ | refine ⟨ent_same rfl rfl (flEq rfl (by first | (simp; done) | (simp; omega) | (simp [encP, encPv, encAt, encSg, encTl, encW, encN, encY]; done) | simp [maxC, minC])) trivial, ?_⟩)) (fun _ h => by simp at h) rel_intro
    · intro i ⟨hi, ho⟩ K hK
      refine nK ?_
      refine s_reg rfl ?_
      refine Run.pure (dd := some 12) rfl rfl (op_lss rfl (Opd.tmp _ _ rfl) (Opd.tmp _ _ rfl)) ?_
      refine Run.nil (FinR.mk ?_)
      refine nK ?_
      refine n_cond _ rfl (fun hb => ?_) (fun hb => ?_)
      · have hlt : i < l.length := by simp at hb; omega
        have hr1 := row_at' encPv l i hlt
        obtain ⟨q, hq⟩ := prv_row encPv l l[i] (by omega : i ≤ l.length)
        rw [chkV_step hlt, badV_pos (q := q) fun h => (hq h).1] at ho
        have hK1 := fun h => hK (i + 1) ⟨by omega, h⟩ (by omega)
        have okx := h _ (List.getElem_mem hlt)
        generalize l[i] = x at *
        have kp := pvchk_c x okx
        have kc := compare_c q x
        refine nK ?_
        refine s_reg rfl ?_
        refine Run.pure (dd := some 13) rfl rfl (op_move rfl (Opd.tmp _ _ rfl)) ?_
        refine Run.pure (dd := some 14) rfl rfl (op_idx_fz _ rfl (Opd.tmp _ _ rfl) (Opd.tmp _ _ rfl) tF) ?_
        refine Run.pure (dd := some 15) rfl rfl (op_loadw_fz rfl (Opd.tmp _ _ rfl) rfl) ?_
        refine Run.eff (dd := some 4) rfl rfl (op_alloc rfl rfl rfl rfl) ?_
        refine Run.pure (dd := some 3) rfl rfl (op_assign rfl (Opd.tmp _ _ rfl)) ?_
        refine Run.eff (dd := none) rfl rfl (op_store_flat rfl (Opd.tmp _ _ rfl) (Opd.tmp _ _ rfl) tC rfl rfl (by first | rfl | assumption) tS) ?_
        refine Run.nil (FinR.mk ?_)
        refine nK ?_
        refine s_reg rfl ?_
        refine Run.load (dd := some 16) rfl rfl (op_loadw_flat rfl (Opd.tmp _ _ rfl) tH rfl) ?_
        refine Run.pure (dd := some 17) rfl rfl (op_call_pure (fun _ => kp) rfl (Opd.func _) (Opds.cons _ _ _ _ (Opd.tmp _ _ rfl) Opds.nil)) ?_
        refine Run.pure (dd := some 5) rfl rfl (op_assign rfl (Opd.tmp _ _ rfl)) ?_
        refine Run.nil (FinR.mk ?_)
        refine nK ?_
        refine s_reg rfl ?_
        refine Run.pure (dd := some 18) rfl rfl (op_move rfl (Opd.tmp _ _ rfl)) ?_
        refine Run.pure (dd := some 19) rfl rfl (op_neq rfl (Opd.tmp _ _ rfl) (Opd.const _)) ?_
        refine Run.nil (FinR.mk ?_)
        refine nK ?_
        refine n_cond _ rfl (fun hb => ?_) (fun hb => ?_)
        · rw [if_pos (by simpa using hb)] at ho
          rw [← ho]
          refine nK ?_
          refine s_reg rfl ?_
          refine Run.pure (dd := some 20) rfl rfl (op_move rfl (Opd.tmp _ _ rfl)) ?_
          refine Run.pure (dd := some 2) rfl rfl (op_assign rfl (Opd.tmp _ _ rfl)) ?_
          refine Run.nil (FinR.mk ?_)
          refine nK ?_
          (first | exact s_o1 hC rfl tV | exact s_o2 hC rfl tV tV | exact s_o3 hC rfl tV tV tV | exact s_o4 hC rfl tV tV tV tV | exact s_out0 hC rfl | exact s_outO hC rfl rfl rfl)
        · rw [if_neg (by simpa using hb)] at ho
          refine nK ?_
          refine s_draw mixed ?_
          refine Run.pure (dd := some 21) rfl rfl (op_move rfl (Opd.tmp _ _ rfl)) ?_
          refine Run.pure (dd := some 22) rfl rfl (op_gtr rfl (Opd.tmp _ _ rfl) (Opd.const _)) ?_
          refine Run.pure (dd := some 23) rfl rfl (op_move rfl (Opd.tmp _ _ rfl)) ?_
          refine Run.pureG (dd := some 24) rfl rfl rfl tG (op_move rfl (Opd.tmp _ _ rfl)) ?_
          refine Run.pureG (dd := some 25) rfl rfl rfl tG (op_move rfl (Opd.tmp _ _ rfl)) ?_
          refine Run.pureG (dd := some 26) rfl rfl rfl tG (op_sub rfl (Opd.topt _ _ _ rfl tO) (Opd.const _) tI) ?_
          refine Run.pureG (dd := some 27) rfl rfl rfl tG (op_idx_fz (i - 1) rfl (Opd.topt _ _ _ rfl tO) (Opd.topt _ _ _ rfl tO) (by intro hg; have h0 : 0 < i := (by simp at hg; omega); exact ⟨by omega, (hq h0).2⟩)) ?_
          refine Run.pureG (dd := some 28) rfl rfl rfl tG (op_loadw_fz rfl (Opd.topt _ _ _ rfl tO) rfl) ?_
          refine Run.loadG (dd := some 29) rfl rfl rfl tG (op_loadw_flat rfl (Opd.tmp _ _ rfl) tH rfl) ?_
          refine Run.pureG (dd := some 30) rfl rfl rfl tG (op_call_pure (fun _ => kc) rfl (Opd.func _) (Opds.cons _ _ _ _ (Opd.topt _ _ _ rfl tO) (Opds.cons _ _ _ _ (Opd.topt _ _ _ rfl tO) Opds.nil))) ?_
          refine Run.pureG (dd := some 31) rfl rfl rfl tG (op_geq rfl (Opd.topt _ _ _ rfl tO) (Opd.const _)) ?_
          refine Run.pure (dd := some 32) rfl rfl (op_pick_and rfl (Opd.tmp _ _ rfl) (Opd.topt _ _ _ rfl tO)) ?_
          refine Run.nil (FinD.mk (by kernel_rfl) ?_)
          refine nK ?_
          refine n_cond _ rfl (fun hb => ?_) (fun hb => ?_)
          · rw [if_pos hb] at ho
            rw [← ho]
            refine nK ?_
            refine s_reg rfl ?_
            refine Run.pure (dd := some 2) rfl rfl (op_assign rfl (Opd.const _)) ?_
            refine Run.nil (FinR.mk ?_)
            refine nK ?_
            (first | exact s_o1 hC rfl tV | exact s_o2 hC rfl tV tV | exact s_o3 hC rfl tV tV tV | exact s_o4 hC rfl tV tV tV tV | exact s_out0 hC rfl | exact s_outO hC rfl rfl rfl)
          · rw [if_neg (by rw [hb]; decide)] at ho
            refine nK ?_
            refine s_reg rfl ?_
            refine Run.pure (dd := some 33) rfl rfl (op_add rfl (Opd.tmp _ _ rfl) (Opd.const _) tI) ?_
            refine Run.pure (dd := some 11) rfl rfl (op_move rfl (Opd.tmp _ _ rfl)) ?_
            refine Run.nil (FinR.mk ?_)
            refine nK ?_
            refine Next.weak [] [] (by rfl) (keeps0 hC _) (by repeat (first | exact trivial | refine ⟨⟨_, rfl, .inl ⟨rfl, rfl⟩⟩, ?_⟩)) (by repeat (first | exact trivial | refine ⟨ent_same rfl rfl rfl tL, ?_⟩ | refine ⟨ent_same rfl rfl (rfEq rfl tU) tL, ?_⟩ | refine ⟨ent_same rfl rfl (flEq rfl (by first | (simp; done) | (simp; omega) | (simp [encP, encPv, encAt, encSg, encTl, encW, encN, encY]; done) | simp [maxC, minC])) trivial, ?_⟩)) (fun _ h => by simp at h) (hK1 ho)
      · have hie : i = l.length := by simp at hb; omega
        rw [hie, List.drop_length] at ho
        have hnil : ∀ p, chkV p [] = 0 := fun p => by cases p <;> rfl
        rw [hnil] at ho
        rw [← ho]
        refine nK ?_
        refine s_reg rfl ?_
        refine Run.pure (dd := some 2) rfl rfl (op_assign rfl (Opd.const _)) ?_
        refine Run.nil (FinR.mk ?_)
        refine nK ?_
        (first | exact s_o1 hC rfl tV | exact s_o2 hC rfl tV tV | exact s_o3 hC rfl tV tV tV | exact s_o4 hC rfl tV tV tV tV | exact s_out0 hC rfl | exact s_outO hC rfl rfl rfl)
theorem rlchk_c (l : List Pvr) (h : ∀ r ∈ l, okPv r) (hn : l.length ≤ 2000000) : Pure Try.prog 12 [VPv l] (If .i64 (listV l)) := by
  unfold listV
  refine Meets.intro Try.func12 rfl (Nat.le_of_ble_eq_true rfl) fun C hC => ?_
  simp only [List.map, argEnv, Nat.reduceAdd]
  refine nK ?_
  refine s_reg rfl ?_
  refine Run.pure (dd := some 2) rfl rfl (op_assign rfl (Opd.const _)) ?_
  refine Run.nil (FinR.mk ?_)
  refine nK ?_
  refine s_reg rfl ?_
  refine Run.pure (dd := some 6) rfl rfl (op_move rfl (Opd.tmp _ _ rfl)) ?_
  refine Run.pure (dd := some 7) rfl rfl (op_len_fz rfl (by first | exact Opd.tmp _ _ rfl | exact Opd.nil _ _ (Opd.tmp _ _ rfl)) (by first | exact List.length_map _ | rfl)) ?_
  refine Run.pure (dd := some 8) rfl rfl (op_gtr rfl (Opd.tmp _ _ rfl) (Opd.const _)) ?_
  refine Run.nil (FinR.mk ?_)
  refine nK ?_
  refine n_cond _ rfl (fun hb => ?_) (fun hb => ?_)
  · rw [if_pos (by simp at hb; omega)]
    refine nK ?_
    refine s_reg rfl ?_
    refine Run.pure (dd := some 2) rfl rfl (op_assign rfl (Opd.const _)) ?_
    refine Run.nil (FinR.mk ?_)
    refine nK ?_
    (first | exact s_o1 hC rfl tV | exact s_o2 hC rfl tV tV | exact s_o3 hC rfl tV tV tV | exact s_o4 hC rfl tV tV tV tV | exact s_out0 hC rfl | exact s_outO hC rfl rfl rfl)
  · rw [if_neg (by simp at hb; omega)]
    refine nK ?_
    refine s_reg rfl ?_
    refine Run.pure (dd := some 9) rfl rfl (op_move rfl (Opd.tmp _ _ rfl)) ?_
    refine Run.pure (dd := some 10) rfl rfl (op_len_fz rfl (by first | exact Opd.tmp _ _ rfl | exact Opd.nil _ _ (Opd.tmp _ _ rfl)) (by first | exact List.length_map _ | rfl)) ?_
    refine Run.pure (dd := some 11) rfl rfl (op_move rfl (Opd.const _)) ?_
    refine Run.nil (FinR.mk ?_)
    refine nK ?_
    refine n_loop (ι := Nat) (fun i => ([(0, .fz (VPv l)), (9, .fz (VPv l)), (10, IV .i64 l.length), (11, IV .i64 i)], [], 0)) (fun i => i ≤ l.length ∧ chkV (prvG l i) (l.drop i) = chkV none l) (fun i => l.length - i) 0 ⟨Nat.zero_le _, rfl⟩ ?_ ?_
    · refine Next.weak [] [] (by rfl) (keeps0 hC _) (by repeat (first | exact trivial | refine ⟨⟨_, rfl, .inl ⟨rfl, rfl⟩⟩, ?_⟩)) (by repeat (first | exact trivial | refine ⟨ent_same rfl rfl rfl tL, ?_⟩ | refine ⟨ent_same rfl rfl (rfEq rfl tU) tL, ?_⟩ | refine ⟨ent_same rfl rfl (flEq rfl (by first | (simp; done) | (simp; omega) | (simp [encP, encPv, encAt, encSg, encTl, encW, encN, encY]; done) | simp [maxC, minC])) trivial, ?_⟩)) (fun _ h => by simp at h) rel_intro
    · intro i ⟨hi, ho⟩ K hK
      refine nK ?_
      refine s_reg rfl ?_
      refine Run.pure (dd := some 12) rfl rfl (op_lss rfl (Opd.tmp _ _ rfl) (Opd.tmp _ _ rfl)) ?_
      refine Run.nil (FinR.mk ?_)
      refine nK ?_
      refine n_cond _ rfl (fun hb => ?_) (fun hb => ?_)
      · have hlt : i < l.length := by simp at hb; omega
        have hr1 := row_at' encPv l i hlt
        obtain ⟨q, hq⟩ := prv_row encPv l l[i] (by omega : i ≤ l.length)
        rw [chkV_step hlt, badV_pos (q := q) fun h => (hq h).1] at ho
        have hK1 := fun h => hK (i + 1) ⟨by omega, h⟩ (by omega)
        have okx := h _ (List.getElem_mem hlt)
        generalize l[i] = x at *
        have kv := rvalid_any x.px okx.px
        have ka := ratt_c x.t okx.t
        have kc := order_c q x
        have hpv : pvE x = if (!validB x.px) = true then 1 else if (decide (x.pe < -1) || decide (16 ≤ x.pe)) = true then 5 else if (decide (x.kd < 0) || decide (3 < x.kd)) = true then 15 else attE x.t := rfl
        refine nK ?_
        refine s_reg rfl ?_
        refine Run.pure (dd := some 13) rfl rfl (op_move rfl (Opd.tmp _ _ rfl)) ?_
        refine Run.pure (dd := some 14) rfl rfl (op_idx_fz _ rfl (Opd.tmp _ _ rfl) (Opd.tmp _ _ rfl) tF) ?_
        refine Run.pure (dd := some 15) rfl rfl (op_loadw_fz rfl (Opd.tmp _ _ rfl) rfl) ?_
        refine Run.eff (dd := some 4) rfl rfl (op_alloc rfl rfl rfl rfl) ?_
        refine Run.pure (dd := some 3) rfl rfl (op_assign rfl (Opd.tmp _ _ rfl)) ?_
        refine Run.eff (dd := none) rfl rfl (op_store_flat rfl (Opd.tmp _ _ rfl) (Opd.tmp _ _ rfl) tC rfl rfl (by first | rfl | assumption) tS) ?_
        refine Run.nil (FinR.mk ?_)
        refine nK ?_
        refine s_reg rfl ?_
        refine Run.pure (dd := some 16) rfl rfl (op_fld_ptr (by decide) rfl (Opd.tmp _ _ rfl)) ?_
        refine Run.load (dd := some 17) rfl rfl (op_loadn_flat rfl (Opd.tmp _ _ rfl) tH tR tR) ?_
        refine Run.pure (dd := some 18) rfl rfl (op_call_pure (fun _ => kv) rfl (Opd.func _) (Opds.cons _ _ _ _ (Opd.tmp _ _ rfl) Opds.nil)) ?_
        refine Run.pure (dd := some 19) rfl rfl (op_not rfl (Opd.tmp _ _ rfl)) ?_
        refine Run.nil (FinR.mk ?_)
        refine nK ?_
        refine n_cond _ rfl (fun hb => ?_) (fun hb => ?_)
        · rw [if_pos hb] at hpv
          rw [hpv, if_pos (by decide)] at ho
          rw [← ho]
          refine nK ?_
          refine s_reg rfl ?_
          refine Run.pure (dd := some 2) rfl rfl (op_assign rfl (Opd.const _)) ?_
          refine Run.nil (FinR.mk ?_)
          refine nK ?_
          (first | exact s_o1 hC rfl tV | exact s_o2 hC rfl tV tV | exact s_o3 hC rfl tV tV tV | exact s_o4 hC rfl tV tV tV tV | exact s_out0 hC rfl | exact s_outO hC rfl rfl rfl)
        · rw [if_neg (by rw [hb]; decide)] at hpv
          refine nK ?_
          refine s_reg rfl ?_
          refine Run.pure (dd := some 20) rfl rfl (op_fld_ptr (by decide) rfl (Opd.tmp _ _ rfl)) ?_
          refine Run.load (dd := some 21) rfl rfl (op_load1_flat rfl (Opd.tmp _ _ rfl) tH rfl) ?_
          refine Run.pure (dd := some 22) rfl rfl (op_lss rfl (Opd.tmp _ _ rfl) (Opd.const _)) ?_
          refine Run.pure (dd := some 23) rfl rfl (op_move rfl (Opd.tmp _ _ rfl)) ?_
          refine Run.pureG (dd := some 24) rfl rfl rfl tG (op_fld_ptr (by decide) rfl (Opd.tmp _ _ rfl)) ?_
          refine Run.loadG (dd := some 25) rfl rfl rfl tG (op_load1_flat rfl (Opd.topt _ _ _ rfl tO) tH rfl) ?_
          refine Run.pureG (dd := some 26) rfl rfl rfl tG (op_geq rfl (Opd.topt _ _ _ rfl tO) (Opd.const _)) ?_
          refine Run.pure (dd := some 27) rfl rfl (op_pick_or rfl (Opd.tmp _ _ rfl) (Opd.topt _ _ _ rfl tO)) ?_
          refine Run.nil (FinR.mk ?_)
          refine nK ?_
          refine n_cond _ rfl (fun hb => ?_) (fun hb => ?_)
          · rw [if_pos hb] at hpv
            rw [hpv, if_pos (by decide)] at ho
            rw [← ho]
            refine nK ?_
            refine s_reg rfl ?_
            refine Run.pure (dd := some 2) rfl rfl (op_assign rfl (Opd.const _)) ?_
            refine Run.nil (FinR.mk ?_)
            refine nK ?_
            (first | exact s_o1 hC rfl tV | exact s_o2 hC rfl tV tV | exact s_o3 hC rfl tV tV tV | exact s_o4 hC rfl tV tV tV tV | exact s_out0 hC rfl | exact s_outO hC rfl rfl rfl)
          · rw [if_neg (by rw [hb]; decide)] at hpv
            refine nK ?_
            refine s_reg rfl ?_
            refine Run.pure (dd := some 28) rfl rfl (op_fld_ptr (by decide) rfl (Opd.tmp _ _ rfl)) ?_
            refine Run.load (dd := some 29) rfl rfl (op_load1_flat rfl (Opd.tmp _ _ rfl) tH rfl) ?_
            refine Run.pure (dd := some 30) rfl rfl (op_lss rfl (Opd.tmp _ _ rfl) (Opd.const _)) ?_
            refine Run.pure (dd := some 31) rfl rfl (op_move rfl (Opd.tmp _ _ rfl)) ?_
            refine Run.pureG (dd := some 32) rfl rfl rfl tG (op_fld_ptr (by decide) rfl (Opd.tmp _ _ rfl)) ?_
            refine Run.loadG (dd := some 33) rfl rfl rfl tG (op_load1_flat rfl (Opd.topt _ _ _ rfl tO) tH rfl) ?_
            refine Run.pureG (dd := some 34) rfl rfl rfl tG (op_gtr rfl (Opd.topt _ _ _ rfl tO) (Opd.const _)) ?_
            refine Run.pure (dd := some 35) rfl rfl (op_pick_or rfl (Opd.tmp _ _ rfl) (Opd.topt _ _ _ rfl tO)) ?_
            refine Run.nil (FinR.mk ?_)
            refine nK ?_
            refine n_cond _ rfl (fun hb => ?_) (fun hb => ?_)
            · rw [if_pos hb] at hpv
              rw [hpv, if_pos (by decide)] at ho
              rw [← ho]
              refine nK ?_
              refine s_reg rfl ?_
              refine Run.pure (dd := some 2) rfl rfl (op_assign rfl (Opd.const _)) ?_
              refine Run.nil (FinR.mk ?_)
              refine nK ?_
              (first | exact s_o1 hC rfl tV | exact s_o2 hC rfl tV tV | exact s_o3 hC rfl tV tV tV | exact s_o4 hC rfl tV tV tV tV | exact s_out0 hC rfl | exact s_outO hC rfl rfl rfl)
            · rw [if_neg (by rw [hb]; decide)] at hpv
              rw [hpv] at ho
              refine nK ?_
              refine s_reg rfl ?_
              refine Run.pure (dd := some 36) rfl rfl (op_fld_ptr (by decide) rfl (Opd.tmp _ _ rfl)) ?_
              refine Run.load (dd := some 37) rfl rfl (op_loadn_flat rfl (Opd.tmp _ _ rfl) tH tR tR) ?_
              refine Run.pure (dd := some 38) rfl rfl (op_call_pure (fun _ => ka) rfl (Opd.func _) (Opds.cons _ _ _ _ (Opd.tmp _ _ rfl) Opds.nil)) ?_
              refine Run.pure (dd := some 5) rfl rfl (op_assign rfl (Opd.tmp _ _ rfl)) ?_
              refine Run.nil (FinR.mk ?_)
              refine nK ?_
              refine s_reg rfl ?_
              refine Run.pure (dd := some 39) rfl rfl (op_move rfl (Opd.tmp _ _ rfl)) ?_
              refine Run.pure (dd := some 40) rfl rfl (op_neq rfl (Opd.tmp _ _ rfl) (Opd.const _)) ?_
              refine Run.nil (FinR.mk ?_)
              refine nK ?_
              refine n_cond _ rfl (fun hb => ?_) (fun hb => ?_)
              · rw [if_pos (by simpa using hb)] at ho
                rw [← ho]
                refine nK ?_
                refine s_reg rfl ?_
                refine Run.pure (dd := some 41) rfl rfl (op_move rfl (Opd.tmp _ _ rfl)) ?_
                refine Run.pure (dd := some 2) rfl rfl (op_assign rfl (Opd.tmp _ _ rfl)) ?_
                refine Run.nil (FinR.mk ?_)
                refine nK ?_
                (first | exact s_o1 hC rfl tV | exact s_o2 hC rfl tV tV | exact s_o3 hC rfl tV tV tV | exact s_o4 hC rfl tV tV tV tV | exact s_out0 hC rfl | exact s_outO hC rfl rfl rfl)
              · rw [if_neg (by simpa using hb)] at ho
                refine nK ?_
                refine s_draw mixed ?_
                refine Run.pure (dd := some 42) rfl rfl (op_move rfl (Opd.tmp _ _ rfl)) ?_
                refine Run.pure (dd := some 43) rfl rfl (op_gtr rfl (Opd.tmp _ _ rfl) (Opd.const _)) ?_
                refine Run.pure (dd := some 44) rfl rfl (op_move rfl (Opd.tmp _ _ rfl)) ?_
                refine Run.pureG (dd := some 45) rfl rfl rfl tG (op_move rfl (Opd.tmp _ _ rfl)) ?_
                refine Run.pureG (dd := some 46) rfl rfl rfl tG (op_move rfl (Opd.tmp _ _ rfl)) ?_
                refine Run.pureG (dd := some 47) rfl rfl rfl tG (op_sub rfl (Opd.topt _ _ _ rfl tO) (Opd.const _) tI) ?_
                refine Run.pureG (dd := some 48) rfl rfl rfl tG (op_idx_fz (i - 1) rfl (Opd.topt _ _ _ rfl tO) (Opd.topt _ _ _ rfl tO) (by intro hg; have h0 : 0 < i := (by simp at hg; omega); exact ⟨by omega, (hq h0).2⟩)) ?_
                refine Run.pureG (dd := some 49) rfl rfl rfl tG (op_loadw_fz rfl (Opd.topt _ _ _ rfl tO) rfl) ?_
                refine Run.loadG (dd := some 50) rfl rfl rfl tG (op_loadw_flat rfl (Opd.tmp _ _ rfl) tH rfl) ?_
                refine Run.pureG (dd := some 51) rfl rfl rfl tG (op_call_pure (fun _ => kc) rfl (Opd.func _) (Opds.cons _ _ _ _ (Opd.topt _ _ _ rfl tO) (Opds.cons _ _ _ _ (Opd.topt _ _ _ rfl tO) Opds.nil))) ?_
                refine Run.pureG (dd := some 52) rfl rfl rfl tG (op_geq rfl (Opd.topt _ _ _ rfl tO) (Opd.const _)) ?_
                refine Run.pure (dd := some 53) rfl rfl (op_pick_and rfl (Opd.tmp _ _ rfl) (Opd.topt _ _ _ rfl tO)) ?_
                refine Run.nil (FinD.mk (by kernel_rfl) ?_)
                refine nK ?_
                refine n_cond _ rfl (fun hb => ?_) (fun hb => ?_)
                · rw [if_pos hb] at ho
                  rw [← ho]
                  refine nK ?_
                  refine s_reg rfl ?_
                  refine Run.pure (dd := some 2) rfl rfl (op_assign rfl (Opd.const _)) ?_
                  refine Run.nil (FinR.mk ?_)
                  refine nK ?_
                  (first | exact s_o1 hC rfl tV | exact s_o2 hC rfl tV tV | exact s_o3 hC rfl tV tV tV | exact s_o4 hC rfl tV tV tV tV | exact s_out0 hC rfl | exact s_outO hC rfl rfl rfl)
                · rw [if_neg (by rw [hb]; decide)] at ho
                  refine nK ?_
                  refine s_reg rfl ?_
                  refine Run.pure (dd := some 54) rfl rfl (op_add rfl (Opd.tmp _ _ rfl) (Opd.const _) tI) ?_
                  refine Run.pure (dd := some 11) rfl rfl (op_move rfl (Opd.tmp _ _ rfl)) ?_
                  refine Run.nil (FinR.mk ?_)
                  refine nK ?_
                  refine Next.weak [] [] (by rfl) (keeps0 hC _) (by repeat (first | exact trivial | refine ⟨⟨_, rfl, .inl ⟨rfl, rfl⟩⟩, ?_⟩)) (by repeat (first | exact trivial | refine ⟨ent_same rfl rfl rfl tL, ?_⟩ | refine ⟨ent_same rfl rfl (rfEq rfl tU) tL, ?_⟩ | refine ⟨ent_same rfl rfl (flEq rfl (by first | (simp; done) | (simp; omega) | (simp [encP, encPv, encAt, encSg, encTl, encW, encN, encY]; done) | simp [maxC, minC])) trivial, ?_⟩)) (fun _ h => by simp at h) (hK1 ho)
      · have hie : i = l.length := by simp at hb; omega
        rw [hie, List.drop_length] at ho
        have hnil : ∀ p, chkV p [] = 0 := fun p => by cases p <;> rfl
        rw [hnil] at ho
        rw [← ho]
        refine nK ?_
        refine s_reg rfl ?_
        refine Run.pure (dd := some 2) rfl rfl (op_assign rfl (Opd.const _)) ?_
        refine Run.nil (FinR.mk ?_)
        refine nK ?_
        (first | exact s_o1 hC rfl tV | exact s_o2 hC rfl tV tV | exact s_o3 hC rfl tV tV tV | exact s_o4 hC rfl tV tV tV tV | exact s_out0 hC rfl | exact s_outO hC rfl rfl rfl)
theorem asc_c (l : List Pvr) (hn : l.length ≤ 2000000) : Pure Try.prog 14 [VPv l] (Bf (ascV none l)) := by
  by_cases h0 : l.length = 0
  · have hl : l = [] := by simpa using h0
    subst hl
    refine Meets.intro Try.func14 rfl (Nat.le_of_ble_eq_true rfl) fun C hC => ?_
    simp only [List.map, argEnv, Nat.reduceAdd]
    refine nK ?_
    refine s_reg rfl ?_
    refine Run.pure (dd := some 2) rfl rfl (op_assign rfl (Opd.const _)) ?_
    refine Run.nil (FinR.mk ?_)
    refine nK ?_
    refine s_reg rfl ?_
    refine Run.pure (dd := some 3) rfl rfl (op_assign rfl (Opd.const _)) ?_
    refine Run.nil (FinR.mk ?_)
    refine nK ?_
    refine n_loop (ι := Nat) (fun i => ([(0, .fz (VPv [])), (3, IV .i64 1)], [], 0)) (fun _ => True) (fun i => 0) 1 trivial ?_ ?_
    · refine Next.weak [] [] (by rfl) (keeps0 hC _) (by repeat (first | exact trivial | refine ⟨⟨_, rfl, .inl ⟨rfl, rfl⟩⟩, ?_⟩)) (by repeat (first | exact trivial | refine ⟨ent_same rfl rfl rfl tL, ?_⟩ | refine ⟨ent_same rfl rfl (rfEq rfl tU) tL, ?_⟩ | refine ⟨ent_same rfl rfl (flEq rfl (by first | (simp; done) | (simp; omega) | (simp [encP, encPv, encAt, encSg, encTl, encW, encN, encY]; done) | simp [maxC, minC])) trivial, ?_⟩)) (fun _ h => by simp at h) rel_intro
    · intro i _ K hK
      refine nK ?_
      refine s_reg rfl ?_
      refine Run.pure (dd := some 4) rfl rfl (op_move rfl (Opd.tmp _ _ rfl)) ?_
      refine Run.pure (dd := some 5) rfl rfl (op_move rfl (Opd.tmp _ _ rfl)) ?_
      refine Run.pure (dd := some 6) rfl rfl (op_len_fz rfl (by first | exact Opd.tmp _ _ rfl | exact Opd.nil _ _ (Opd.tmp _ _ rfl)) (by first | exact List.length_map _ | rfl)) ?_
      refine Run.pure (dd := some 7) rfl rfl (op_lss rfl (Opd.tmp _ _ rfl) (Opd.tmp _ _ rfl)) ?_
      refine Run.nil (FinR.mk ?_)
      refine nK ?_
      refine n_cond _ rfl (fun hb => ?_) (fun hb => ?_)
      · exfalso; simp at hb
      · refine nK ?_
        refine s_reg rfl ?_
        refine Run.pure (dd := some 2) rfl rfl (op_assign rfl (Opd.const _)) ?_
        refine Run.nil (FinR.mk ?_)
        refine nK ?_
        (first | exact s_o1 hC rfl tV | exact s_o2 hC rfl tV tV | exact s_o3 hC rfl tV tV tV | exact s_o4 hC rfl tV tV tV tV | exact s_out0 hC rfl | exact s_outO hC rfl rfl rfl)
  · have h1 := ascV_one (l := l) (by omega)
    refine Meets.intro Try.func14 rfl (Nat.le_of_ble_eq_true rfl) fun C hC => ?_
    simp only [List.map, argEnv, Nat.reduceAdd]
    refine nK ?_
    refine s_reg rfl ?_
    refine Run.pure (dd := some 2) rfl rfl (op_assign rfl (Opd.const _)) ?_
    refine Run.nil (FinR.mk ?_)
    refine nK ?_
    refine s_reg rfl ?_
    refine Run.pure (dd := some 3) rfl rfl (op_assign rfl (Opd.const _)) ?_
    refine Run.nil (FinR.mk ?_)
    refine nK ?_
    refine n_loop (ι := Nat) (fun i => ([(0, .fz (VPv l)), (3, IV .i64 i)], [], 0)) (fun i => (1 ≤ i ∧ i ≤ l.length) ∧ ascV (prvG l i) (l.drop i) = ascV none l) (fun i => l.length - i) 1 ⟨⟨Nat.le_refl _, by omega⟩, h1⟩ ?_ ?_
    · refine Next.weak [] [] (by rfl) (keeps0 hC _) (by repeat (first | exact trivial | refine ⟨⟨_, rfl, .inl ⟨rfl, rfl⟩⟩, ?_⟩)) (by repeat (first | exact trivial | refine ⟨ent_same rfl rfl rfl tL, ?_⟩ | refine ⟨ent_same rfl rfl (rfEq rfl tU) tL, ?_⟩ | refine ⟨ent_same rfl rfl (flEq rfl (by first | (simp; done) | (simp; omega) | (simp [encP, encPv, encAt, encSg, encTl, encW, encN, encY]; done) | simp [maxC, minC])) trivial, ?_⟩)) (fun _ h => by simp at h) rel_intro
    · intro i ⟨⟨hi1, hi⟩, ho⟩ K hK
      refine nK ?_
      refine s_reg rfl ?_
      refine Run.pure (dd := some 4) rfl rfl (op_move rfl (Opd.tmp _ _ rfl)) ?_
      refine Run.pure (dd := some 5) rfl rfl (op_move rfl (Opd.tmp _ _ rfl)) ?_
      refine Run.pure (dd := some 6) rfl rfl (op_len_fz rfl (by first | exact Opd.tmp _ _ rfl | exact Opd.nil _ _ (Opd.tmp _ _ rfl)) (by first | exact List.length_map _ | rfl)) ?_
      refine Run.pure (dd := some 7) rfl rfl (op_lss rfl (Opd.tmp _ _ rfl) (Opd.tmp _ _ rfl)) ?_
      refine Run.nil (FinR.mk ?_)
      refine nK ?_
      refine n_cond _ rfl (fun hb => ?_) (fun hb => ?_)
      · have hlt : i < l.length := by simp at hb; omega
        have hr1 := row_at' encPv l i hlt
        obtain ⟨q, hq⟩ := prv_row encPv l l[i] (by omega : i ≤ l.length)
        rw [ascV_step hlt, badV_pos (q := q) fun h => (hq h).1] at ho
        have hq2 := (hq (by omega)).2
        have h0 : decide (0 < (i : Int)) = true := by simp; omega
        rw [h0, Bool.true_and] at ho
        have hK1 := fun h => hK (i + 1) ⟨⟨by omega, by omega⟩, h⟩ (by omega)
        generalize l[i] = x at *
        have kc := order_c q x
        refine nK ?_
        refine s_draw mixed ?_
        refine Run.pure (dd := some 10) rfl rfl (op_move rfl (Opd.tmp _ _ rfl)) ?_
        refine Run.pure (dd := some 11) rfl rfl (op_move rfl (Opd.tmp _ _ rfl)) ?_
        refine Run.pure (dd := some 12) rfl rfl (op_sub rfl (Opd.tmp _ _ rfl) (Opd.const _) tI) ?_
        refine Run.pure (dd := some 13) rfl rfl (op_idx_fz (i - 1) rfl (Opd.tmp _ _ rfl) (Opd.tmp _ _ rfl) (by intro hg; exact ⟨by omega, hq2⟩)) ?_
        refine Run.pure (dd := some 14) rfl rfl (op_loadw_fz rfl (Opd.tmp _ _ rfl) rfl) ?_
        refine Run.pure (dd := some 15) rfl rfl (op_move rfl (Opd.tmp _ _ rfl)) ?_
        refine Run.pure (dd := some 16) rfl rfl (op_move rfl (Opd.tmp _ _ rfl)) ?_
        refine Run.pure (dd := some 17) rfl rfl (op_idx_fz i rfl (Opd.tmp _ _ rfl) (Opd.tmp _ _ rfl) (by intro _; exact ⟨by omega, hr1⟩)) ?_
        refine Run.pure (dd := some 18) rfl rfl (op_loadw_fz rfl (Opd.tmp _ _ rfl) rfl) ?_
        refine Run.pure (dd := some 19) rfl rfl (op_call_pure (fun _ => kc) rfl (Opd.func _) (Opds.cons _ _ _ _ (Opd.tmp _ _ rfl) (Opds.cons _ _ _ _ (Opd.tmp _ _ rfl) Opds.nil))) ?_
        refine Run.pure (dd := some 20) rfl rfl (op_geq rfl (Opd.tmp _ _ rfl) (Opd.const _)) ?_
        refine Run.nil (FinD.mk (by kernel_rfl) ?_)
        refine nK ?_
        refine n_cond _ rfl (fun hb => ?_) (fun hb => ?_)
        · rw [if_pos hb] at ho
          rw [← ho]
          refine nK ?_
          refine s_reg rfl ?_
          refine Run.pure (dd := some 2) rfl rfl (op_assign rfl (Opd.const _)) ?_
          refine Run.nil (FinR.mk ?_)
          refine nK ?_
          (first | exact s_o1 hC rfl tV | exact s_o2 hC rfl tV tV | exact s_o3 hC rfl tV tV tV | exact s_o4 hC rfl tV tV tV tV | exact s_out0 hC rfl | exact s_outO hC rfl rfl rfl)
        · rw [if_neg (by rw [hb]; decide)] at ho
          refine nK ?_
          refine s_reg rfl ?_
          refine Run.pure (dd := some 8) rfl rfl (op_move rfl (Opd.tmp _ _ rfl)) ?_
          refine Run.pure (dd := some 9) rfl rfl (op_add rfl (Opd.tmp _ _ rfl) (Opd.const _) tI) ?_
          refine Run.pure (dd := some 3) rfl rfl (op_assign rfl (Opd.tmp _ _ rfl)) ?_
          refine Run.nil (FinR.mk ?_)
          refine nK ?_
          refine Next.weak [] [] (by rfl) (keeps0 hC _) (by repeat (first | exact trivial | refine ⟨⟨_, rfl, .inl ⟨rfl, rfl⟩⟩, ?_⟩)) (by repeat (first | exact trivial | refine ⟨ent_same rfl rfl rfl tL, ?_⟩ | refine ⟨ent_same rfl rfl (rfEq rfl tU) tL, ?_⟩ | refine ⟨ent_same rfl rfl (flEq rfl (by first | (simp; done) | (simp; omega) | (simp [encP, encPv, encAt, encSg, encTl, encW, encN, encY]; done) | simp [maxC, minC])) trivial, ?_⟩)) (fun _ h => by simp at h) (hK1 ho)
      · have hie : i = l.length := by simp at hb; omega
        rw [hie, List.drop_length] at ho
        have hnil : ∀ p, ascV p [] = true := fun p => by cases p <;> rfl
        rw [hnil] at ho
        rw [← ho]
        refine nK ?_
        refine s_reg rfl ?_
        refine Run.pure (dd := some 2) rfl rfl (op_assign rfl (Opd.const _)) ?_
        refine Run.nil (FinR.mk ?_)
        refine nK ?_
        (first | exact s_o1 hC rfl tV | exact s_o2 hC rfl tV tV | exact s_o3 hC rfl tV tV tV | exact s_o4 hC rfl tV tV tV tV | exact s_out0 hC rfl | exact s_outO hC rfl rfl rfl)
end Go.Proofs.Ytfkcbglnadjnnaa
