/- A part of the proof: D6, DP9, D7, D8, DP10, D9, D10, DP11, DP16. -/
import Derived.Test.YtkofbemgpeagbaaZD
set_option linter.all false
namespace Go.Proofs.Ytkofbemgpeagbaa
open Go Go.RT Go.Proofs Go.Pl
set_option linter.all false
set_option maxRecDepth 20000
theorem mcheck_c (m : Msg) (h : okM m) : Pure Try.prog 24 [.agg (encMs m)] (If .i64 (msgE m)) := by
  have kv := valid_any m.px h.px
  unfold msgE
  refine Meets.intro Try.func24 rfl (Nat.le_of_ble_eq_true rfl) fun C hC => ?_
  simp only [List.map, argEnv, Nat.reduceAdd]
  refine nK ?_
  refine s_reg rfl ?_
  refine Run.eff (dd := some 1) rfl rfl (op_box_flat rfl (Opd.tmp _ _ rfl) tC rfl) ?_
  refine Run.pure (dd := some 2) rfl rfl (op_assign rfl (Opd.const _)) ?_
  refine Run.nil (FinR.mk ?_)
  refine nK ?_
  refine s_reg rfl ?_
  refine Run.pure (dd := some 4) rfl rfl (op_fld_ptr (by decide) rfl (Opd.tmp _ _ rfl)) ?_
  refine Run.load (dd := some 5) rfl rfl (op_load1_flat rfl (Opd.tmp _ _ rfl) tH rfl) ?_
  refine Run.pure (dd := some 6) rfl rfl (op_lss rfl (Opd.tmp _ _ rfl) (Opd.const _)) ?_
  refine Run.pure (dd := some 7) rfl rfl (op_move rfl (Opd.tmp _ _ rfl)) ?_
  refine Run.pureG (dd := some 8) rfl rfl rfl tG (op_fld_ptr (by decide) rfl (Opd.tmp _ _ rfl)) ?_
  refine Run.loadG (dd := some 9) rfl rfl rfl tG (op_load1_flat rfl (Opd.topt _ _ _ rfl tO) tH rfl) ?_
  refine Run.pureG (dd := some 10) rfl rfl rfl tG (op_gtr rfl (Opd.topt _ _ _ rfl tO) (Opd.const _)) ?_
  refine Run.pure (dd := some 11) rfl rfl (op_pick_or rfl (Opd.tmp _ _ rfl) (Opd.topt _ _ _ rfl tO)) ?_
  refine Run.pure (dd := some 3) rfl rfl (op_assign rfl (Opd.tmp _ _ rfl)) ?_
  refine Run.nil (FinR.mk ?_)
  refine nK ?_
  refine n_cond _ rfl (fun hb => ?_) (fun hb => ?_)
  · rw [if_pos hb]
    refine nK ?_
    refine s_reg rfl ?_
    refine Run.pure (dd := some 2) rfl rfl (op_assign rfl (Opd.const _)) ?_
    refine Run.nil (FinR.mk ?_)
    refine nK ?_
    (first | exact s_o1 hC rfl tV | exact s_o2 hC rfl tV tV | exact s_o3 hC rfl tV tV tV | exact s_o4 hC rfl tV tV tV tV | exact s_out0 hC rfl | exact s_outO hC rfl rfl rfl)
  · rw [if_neg (by rw [hb]; decide)]
    refine nK ?_
    refine s_reg rfl ?_
    refine Run.pure (dd := some 13) rfl rfl (op_fld_ptr (by decide) rfl (Opd.tmp _ _ rfl)) ?_
    refine Run.load (dd := some 14) rfl rfl (op_loadn_flat rfl (Opd.tmp _ _ rfl) tH tR tR) ?_
    refine Run.pure (dd := some 15) rfl rfl (op_call_pure (fun _ => kv) rfl (Opd.func _) (Opds.cons _ _ _ _ (Opd.tmp _ _ rfl) Opds.nil)) ?_
    refine Run.pure (dd := some 16) rfl rfl (op_not rfl (Opd.tmp _ _ rfl)) ?_
    refine Run.pure (dd := some 12) rfl rfl (op_assign rfl (Opd.tmp _ _ rfl)) ?_
    refine Run.nil (FinR.mk ?_)
    refine nK ?_
    refine n_cond _ rfl (fun hb => ?_) (fun hb => ?_)
    · rw [if_pos hb]
      refine nK ?_
      refine s_reg rfl ?_
      refine Run.pure (dd := some 2) rfl rfl (op_assign rfl (Opd.const _)) ?_
      refine Run.nil (FinR.mk ?_)
      refine nK ?_
      (first | exact s_o1 hC rfl tV | exact s_o2 hC rfl tV tV | exact s_o3 hC rfl tV tV tV | exact s_o4 hC rfl tV tV tV tV | exact s_out0 hC rfl | exact s_outO hC rfl rfl rfl)
    · rw [if_neg (by rw [hb]; decide)]
      refine nK ?_
      refine s_reg rfl ?_
      refine Run.pure (dd := some 18) rfl rfl (op_fld_ptr (by decide) rfl (Opd.tmp _ _ rfl)) ?_
      refine Run.load (dd := some 19) rfl rfl (op_load1_flat rfl (Opd.tmp _ _ rfl) tH rfl) ?_
      refine Run.pure (dd := some 20) rfl rfl (op_eql rfl (Opd.tmp _ _ rfl) (Opd.const _)) ?_
      refine Run.pure (dd := some 21) rfl rfl (op_move rfl (Opd.tmp _ _ rfl)) ?_
      refine Run.pureG (dd := some 22) rfl rfl rfl tG (op_fld_ptr (by decide) rfl (Opd.tmp _ _ rfl)) ?_
      refine Run.loadG (dd := some 23) rfl rfl rfl tG (op_load1_flat rfl (Opd.topt _ _ _ rfl tO) tH rfl) ?_
      refine Run.pureG (dd := some 24) rfl rfl rfl tG (op_neq rfl (Opd.topt _ _ _ rfl tO) (Opd.const _)) ?_
      refine Run.pure (dd := some 25) rfl rfl (op_pick_and rfl (Opd.tmp _ _ rfl) (Opd.topt _ _ _ rfl tO)) ?_
      refine Run.pure (dd := some 17) rfl rfl (op_assign rfl (Opd.tmp _ _ rfl)) ?_
      refine Run.nil (FinR.mk ?_)
      refine nK ?_
      refine n_cond _ rfl (fun hb => ?_) (fun hb => ?_)
      · rw [if_pos hb]
        refine nK ?_
        refine s_reg rfl ?_
        refine Run.pure (dd := some 2) rfl rfl (op_assign rfl (Opd.const _)) ?_
        refine Run.nil (FinR.mk ?_)
        refine nK ?_
        (first | exact s_o1 hC rfl tV | exact s_o2 hC rfl tV tV | exact s_o3 hC rfl tV tV tV | exact s_o4 hC rfl tV tV tV tV | exact s_out0 hC rfl | exact s_outO hC rfl rfl rfl)
      · rw [if_neg (by rw [hb]; decide)]
        refine nK ?_
        refine s_reg rfl ?_
        refine Run.pure (dd := some 27) rfl rfl (op_fld_ptr (by decide) rfl (Opd.tmp _ _ rfl)) ?_
        refine Run.load (dd := some 28) rfl rfl (op_load1_flat rfl (Opd.tmp _ _ rfl) tH rfl) ?_
        refine Run.pure (dd := some 29) rfl rfl (op_neq rfl (Opd.tmp _ _ rfl) (Opd.const _)) ?_
        refine Run.pure (dd := some 30) rfl rfl (op_move rfl (Opd.tmp _ _ rfl)) ?_
        refine Run.pureG (dd := some 31) rfl rfl rfl tG (op_fld_ptr (by decide) rfl (Opd.tmp _ _ rfl)) ?_
        refine Run.loadG (dd := some 32) rfl rfl rfl tG (op_load1_flat rfl (Opd.topt _ _ _ rfl tO) tH rfl) ?_
        refine Run.pureG (dd := some 33) rfl rfl rfl tG (op_neq rfl (Opd.topt _ _ _ rfl tO) (Opd.const _)) ?_
        refine Run.pure (dd := some 34) rfl rfl (op_pick_and rfl (Opd.tmp _ _ rfl) (Opd.topt _ _ _ rfl tO)) ?_
        refine Run.pure (dd := some 35) rfl rfl (op_move rfl (Opd.tmp _ _ rfl)) ?_
        refine Run.pureG (dd := some 36) rfl rfl rfl tG (op_fld_ptr (by decide) rfl (Opd.tmp _ _ rfl)) ?_
        refine Run.loadG (dd := some 37) rfl rfl rfl tG (op_load1_flat rfl (Opd.topt _ _ _ rfl tO) tH rfl) ?_
        refine Run.pureG (dd := some 38) rfl rfl rfl tG (op_lss rfl (Opd.topt _ _ _ rfl tO) (Opd.const _)) ?_
        refine Run.pureG (dd := some 39) rfl rfl rfl tG (op_move rfl (Opd.topt _ _ _ rfl tO)) ?_
        refine Run.pureG (dd := some 40) rfl rfl rfl tG (op_fld_ptr (by decide) rfl (Opd.tmp _ _ rfl)) ?_
        refine Run.loadG (dd := some 41) rfl rfl rfl tG (op_load1_flat rfl (Opd.topt _ _ _ rfl tO) tH rfl) ?_
        refine Run.pureG (dd := some 42) rfl rfl rfl tG (op_gtr rfl (Opd.topt _ _ _ rfl tO) (Opd.const _)) ?_
        refine Run.pureG (dd := some 43) rfl rfl rfl tG (op_pick_or rfl (Opd.topt _ _ _ rfl tO) (Opd.topt _ _ _ rfl tO)) ?_
        refine Run.pure (dd := some 44) rfl rfl (op_pick_and rfl (Opd.tmp _ _ rfl) (Opd.topt _ _ _ rfl tO)) ?_
        refine Run.pure (dd := some 26) rfl rfl (op_assign rfl (Opd.tmp _ _ rfl)) ?_
        refine Run.nil (FinR.mk ?_)
        refine nK ?_
        refine n_cond _ rfl (fun hb => ?_) (fun hb => ?_)
        · rw [if_pos hb]
          refine nK ?_
          refine s_reg rfl ?_
          refine Run.pure (dd := some 2) rfl rfl (op_assign rfl (Opd.const _)) ?_
          refine Run.nil (FinR.mk ?_)
          refine nK ?_
          (first | exact s_o1 hC rfl tV | exact s_o2 hC rfl tV tV | exact s_o3 hC rfl tV tV tV | exact s_o4 hC rfl tV tV tV tV | exact s_out0 hC rfl | exact s_outO hC rfl rfl rfl)
        · rw [if_neg (by rw [hb]; decide)]
          refine nK ?_
          refine s_reg rfl ?_
          refine Run.pure (dd := some 2) rfl rfl (op_assign rfl (Opd.const _)) ?_
          refine Run.nil (FinR.mk ?_)
          refine nK ?_
          (first | exact s_o1 hC rfl tV | exact s_o2 hC rfl tV tV | exact s_o3 hC rfl tV tV tV | exact s_o4 hC rfl tV tV tV tV | exact s_out0 hC rfl | exact s_outO hC rfl rfl rfl)
theorem size_c (k : Int) : Pure Try.prog 28 [If .i64 k] (If .i64 (sizeM k)) := by
  unfold sizeM
  refine Meets.intro Try.func28 rfl (Nat.le_of_ble_eq_true rfl) fun C hC => ?_
  simp only [List.map, argEnv, Nat.reduceAdd]
  refine nK ?_
  refine s_reg rfl ?_
  refine Run.pure (dd := some 2) rfl rfl (op_assign rfl (Opd.const _)) ?_
  refine Run.nil (FinR.mk ?_)
  refine nK ?_
  refine s_reg rfl ?_
  refine Run.pure (dd := some 3) rfl rfl (op_move rfl (Opd.tmp _ _ rfl)) ?_
  refine Run.pure (dd := some 4) rfl rfl (op_eql rfl (Opd.tmp _ _ rfl) (Opd.const _)) ?_
  refine Run.nil (FinR.mk ?_)
  refine nK ?_
  refine n_cond _ rfl (fun hb => ?_) (fun hb => ?_)
  · rw [if_pos (by simpa using hb)]
    refine nK ?_
    refine s_reg rfl ?_
    refine Run.pure (dd := some 2) rfl rfl (op_assign rfl (Opd.const _)) ?_
    refine Run.nil (FinR.mk ?_)
    refine nK ?_
    (first | exact s_o1 hC rfl tV | exact s_o2 hC rfl tV tV | exact s_o3 hC rfl tV tV tV | exact s_o4 hC rfl tV tV tV tV | exact s_out0 hC rfl | exact s_outO hC rfl rfl rfl)
  · rw [if_neg (by simpa using hb)]
    refine nK ?_
    refine s_reg rfl ?_
    refine Run.pure (dd := some 2) rfl rfl (op_assign rfl (Opd.const _)) ?_
    refine Run.nil (FinR.mk ?_)
    refine nK ?_
    (first | exact s_o1 hC rfl tV | exact s_o2 hC rfl tV tV | exact s_o3 hC rfl tV tV tV | exact s_o4 hC rfl tV tV tV tV | exact s_out0 hC rfl | exact s_outO hC rfl rfl rfl)
theorem encode_c (m : Msg) (h : okM m) : Pure Try.prog 7 [.agg (encMs m)] (.tup [VY (encodeF m).1, If .i64 (encodeF m).2]) := by
  have kc := mcheck_c m h
  unfold encodeF
  refine Meets.intro Try.func7 rfl (Nat.le_of_ble_eq_true rfl) fun C hC => ?_
  simp only [List.map, argEnv, Nat.reduceAdd]
  refine nK ?_
  refine s_reg rfl ?_
  refine Run.eff (dd := some 1) rfl rfl (op_box_flat rfl (Opd.tmp _ _ rfl) tC rfl) ?_
  refine Run.pure (dd := some 2) rfl rfl (op_assign rfl (Opd.const _)) ?_
  refine Run.pure (dd := some 3) rfl rfl (op_assign rfl (Opd.const _)) ?_
  refine Run.nil (FinR.mk ?_)
  refine nK ?_
  refine s_reg rfl ?_
  refine Run.load (dd := some 6) rfl rfl (op_loadw_flat rfl (Opd.tmp _ _ rfl) tH rfl) ?_
  refine Run.pure (dd := some 7) rfl rfl (op_call_pure (fun _ => kc) rfl (Opd.func _) (Opds.cons _ _ _ _ (Opd.tmp _ _ rfl) Opds.nil)) ?_
  refine Run.pure (dd := some 4) rfl rfl (op_assign rfl (Opd.tmp _ _ rfl)) ?_
  refine Run.nil (FinR.mk ?_)
  refine nK ?_
  refine s_reg rfl ?_
  refine Run.pure (dd := some 8) rfl rfl (op_move rfl (Opd.tmp _ _ rfl)) ?_
  refine Run.pure (dd := some 9) rfl rfl (op_neq rfl (Opd.tmp _ _ rfl) (Opd.const _)) ?_
  refine Run.nil (FinR.mk ?_)
  refine nK ?_
  refine n_cond _ rfl (fun hb => ?_) (fun hb => ?_)
  · rw [if_pos (by simpa using hb)]
    refine nK ?_
    refine s_reg rfl ?_
    refine Run.pure (dd := some 10) rfl rfl (op_move rfl (Opd.tmp _ _ rfl)) ?_
    refine Run.pure (dd := some 2) rfl rfl (op_assign rfl (Opd.const _)) ?_
    refine Run.pure (dd := some 3) rfl rfl (op_assign rfl (Opd.tmp _ _ rfl)) ?_
    refine Run.nil (FinR.mk ?_)
    refine nK ?_
    refine Next.weakS [] [] (by rfl) (keeps0 hC _) (G' := [(2, .fz (VY [])), (3, IV .i64 (msgE m))]) (H' := []) (by repeat (first | exact trivial | refine ⟨⟨_, rfl, .inl ⟨rfl, rfl⟩⟩, ?_⟩ | refine ⟨⟨_, rfl, .inl ⟨slEq rfl tN, rfl⟩⟩, ?_⟩ | refine ⟨⟨_, rfl, .inl ⟨ivEq tX, rfl⟩⟩, ?_⟩ | refine ⟨⟨_, rfl, .inr ⟨_, rfl, tW⟩⟩, ?_⟩)) trivial rfl ?_
    (first | exact s_o1 hC rfl tV | exact s_o2 hC rfl tV tV | exact s_o3 hC rfl tV tV tV | exact s_o4 hC rfl tV tV tV tV | exact s_out0 hC rfl | exact s_outO hC rfl rfl rfl)
  · have h0 : msgE m = 0 := by simpa using hb
    rw [if_neg (by simpa using h0)]
    have hg := (msgE_iff m).1 h0
    have h1 := hg.k1
    have h2 := hg.k4
    obtain ⟨h3, h4⟩ := vlen hg.px
    obtain ⟨h5, h6⟩ := hg.laR
    have ha := h.px.1
    have k1 := put_c [m.k, m.px.len] 4 m.px.addr (by simp) (by omega) (by omega)
    have k2 := put_c ([m.k, m.px.len] ++ numB 4 m.px.addr) 4 m.la.toNat (by simp [numB_len]) (by omega) (by omega)
    rw [show ((m.la.toNat : Nat) : Int) = m.la by omega] at k2
    rw [encMb_eq hg]
    dsimp only
    refine nK ?_
    refine s_reg rfl ?_
    refine Run.pure (dd := some 11) rfl rfl (op_fld_ptr (by decide) rfl (Opd.tmp _ _ rfl)) ?_
    refine Run.load (dd := some 12) rfl rfl (op_load1_flat rfl (Opd.tmp _ _ rfl) tH rfl) ?_
    refine Run.pure (dd := some 13) rfl rfl (op_conv rfl (Opd.tmp _ _ rfl) tI) ?_
    refine Run.pure (dd := some 14) rfl rfl (op_fld_ptr (by decide) rfl (Opd.tmp _ _ rfl)) ?_
    refine Run.pure (dd := some 15) rfl rfl (op_fld_ptr (by decide) rfl (Opd.tmp _ _ rfl)) ?_
    refine Run.load (dd := some 16) rfl rfl (op_load1_flat rfl (Opd.tmp _ _ rfl) tH rfl) ?_
    refine Run.pure (dd := some 17) rfl rfl (op_conv rfl (Opd.tmp _ _ rfl) tI) ?_
    refine Run.pure (dd := some 18) rfl rfl (op_buildSlice_fz rfl (RowsF.cons _ _ _ _ _ _ (Opd.tmp _ _ rfl) tC (by rfl) (RowsF.cons _ _ _ _ _ _ (Opd.tmp _ _ rfl) tC (by rfl) (RowsF.nil _))) rfl rfl) ?_
    refine Run.pure (dd := some 19) rfl rfl (op_fld_ptr (by decide) rfl (Opd.tmp _ _ rfl)) ?_
    refine Run.pure (dd := some 20) rfl rfl (op_fld_ptr (by decide) rfl (Opd.tmp _ _ rfl)) ?_
    refine Run.load (dd := some 21) rfl rfl (op_load1_flat rfl (Opd.tmp _ _ rfl) tH rfl) ?_
    refine Run.pure (dd := some 22) rfl rfl (op_conv rfl (Opd.tmp _ _ rfl) tI) ?_
    refine Run.pure (dd := some 23) rfl rfl (op_call_pure (fun _ => k1) rfl (Opd.func _) (Opds.cons _ _ _ _ (Opd.tmp _ _ rfl) (Opds.cons _ _ _ _ (Opd.const _) (Opds.cons _ _ _ _ (Opd.tmp _ _ rfl) Opds.nil)))) ?_
    refine Run.pure (dd := some 5) rfl rfl (op_assign rfl (Opd.tmp _ _ rfl)) ?_
    refine Run.nil (FinR.mk ?_)
    refine nK ?_
    refine s_reg rfl ?_
    refine Run.pure (dd := some 24) rfl rfl (op_fld_ptr (by decide) rfl (Opd.tmp _ _ rfl)) ?_
    refine Run.load (dd := some 25) rfl rfl (op_load1_flat rfl (Opd.tmp _ _ rfl) tH rfl) ?_
    refine Run.pure (dd := some 26) rfl rfl (op_neq rfl (Opd.tmp _ _ rfl) (Opd.const _)) ?_
    refine Run.nil (FinR.mk ?_)
    refine nK ?_
    refine n_cond _ rfl (fun hb => ?_) (fun hb => ?_)
    · rw [if_pos (by simpa using hb)]
      refine nK ?_
      refine s_reg rfl ?_
      refine Run.pure (dd := some 27) rfl rfl (op_move rfl (Opd.tmp _ _ rfl)) ?_
      refine Run.pure (dd := some 28) rfl rfl (op_fld_ptr (by decide) rfl (Opd.tmp _ _ rfl)) ?_
      refine Run.load (dd := some 29) rfl rfl (op_load1_flat rfl (Opd.tmp _ _ rfl) tH rfl) ?_
      refine Run.pure (dd := some 30) rfl rfl (op_conv rfl (Opd.tmp _ _ rfl) tI) ?_
      refine Run.pure (dd := some 31) rfl rfl (op_call_pure (fun _ => k2) rfl (Opd.func _) (Opds.cons _ _ _ _ (Opd.tmp _ _ rfl) (Opds.cons _ _ _ _ (Opd.const _) (Opds.cons _ _ _ _ (Opd.tmp _ _ rfl) Opds.nil)))) ?_
      refine Run.pure (dd := some 5) rfl rfl (op_assign rfl (Opd.tmp _ _ rfl)) ?_
      refine Run.nil (FinR.mk ?_)
      refine nK ?_
      refine s_reg rfl ?_
      refine Run.pure (dd := some 32) rfl rfl (op_move rfl (Opd.tmp _ _ rfl)) ?_
      refine Run.pure (dd := some 2) rfl rfl (op_assign rfl (Opd.tmp _ _ rfl)) ?_
      refine Run.pure (dd := some 3) rfl rfl (op_assign rfl (Opd.const _)) ?_
      refine Run.nil (FinR.mk ?_)
      refine nK ?_
      (first | exact s_o1 hC rfl tV | exact s_o2 hC rfl tV tV | exact s_o3 hC rfl tV tV tV | exact s_o4 hC rfl tV tV tV tV | exact s_out0 hC rfl | exact s_outO hC rfl rfl rfl)
    · rw [if_neg (by simpa using hb), List.append_nil]
      refine nK ?_
      refine s_reg rfl ?_
      refine Run.pure (dd := some 32) rfl rfl (op_move rfl (Opd.tmp _ _ rfl)) ?_
      refine Run.pure (dd := some 2) rfl rfl (op_assign rfl (Opd.tmp _ _ rfl)) ?_
      refine Run.pure (dd := some 3) rfl rfl (op_assign rfl (Opd.const _)) ?_
      refine Run.nil (FinR.mk ?_)
      refine nK ?_
      (first | exact s_o1 hC rfl tV | exact s_o2 hC rfl tV tV | exact s_o3 hC rfl tV tV tV | exact s_o4 hC rfl tV tV tV tV | exact s_out0 hC rfl | exact s_outO hC rfl rfl rfl)
theorem decode_c (b : List Int) (hbb : ∀ x ∈ b, 0 ≤ x ∧ x < 256) (hl : b.length ≤ 9223372036854775807) : Pure Try.prog 9 [VY b] (.tup [.agg (encMs (decodeF b).1), If .i64 (decodeF b).2]) := by
  unfold decodeF
  refine Meets.intro Try.func9 rfl (Nat.le_of_ble_eq_true rfl) fun C hC => ?_
  simp only [List.map, argEnv, Nat.reduceAdd]
  refine nK ?_
  refine s_reg rfl ?_
  refine Run.eff (dd := some 2) rfl rfl (op_alloc rfl rfl rfl rfl) ?_
  refine Run.pure (dd := some 3) rfl rfl (op_assign rfl (Opd.const _)) ?_
  refine Run.nil (FinR.mk ?_)
  refine nK ?_
  refine s_reg rfl ?_
  refine Run.pure (dd := some 11) rfl rfl (op_move rfl (Opd.tmp _ _ rfl)) ?_
  refine Run.pure (dd := some 12) rfl rfl (op_len_fz rfl (by first | exact Opd.tmp _ _ rfl | exact Opd.nil _ _ (Opd.tmp _ _ rfl)) (by first | exact List.length_map _ | rfl)) ?_
  refine Run.pure (dd := some 13) rfl rfl (op_eql rfl (Opd.tmp _ _ rfl) (Opd.const _)) ?_
  refine Run.nil (FinR.mk ?_)
  refine nK ?_
  refine n_cond _ rfl (fun hb => ?_) (fun hb => ?_)
  · rw [if_pos (by simp at hb; simp [hb])]
    refine nK ?_
    refine s_reg rfl ?_
    refine Run.pure (dd := some 14) rfl rfl (op_build rfl rfl rfl (FillF.nil _)) ?_
    refine Run.eff (dd := none) rfl rfl (op_store_flat rfl (Opd.tmp _ _ rfl) (Opd.tmp _ _ rfl) tC rfl rfl (by first | rfl | assumption) tS) ?_
    refine Run.pure (dd := some 3) rfl rfl (op_assign rfl (Opd.const _)) ?_
    refine Run.nil (FinR.mk ?_)
    refine nK ?_
    (first | exact s_o1 hC rfl tV | exact s_o2 hC rfl tV tV | exact s_o3 hC rfl tV tV tV | exact s_o4 hC rfl tV tV tV tV | exact s_out0 hC rfl | exact s_outO hC rfl rfl rfl)
  · have h0 : 0 < b.length := by simp at hb; exact List.length_pos_iff.2 hb
    rw [if_neg (by omega)]
    obtain ⟨hr0, hk1, hk2⟩ := byte_at h0 hbb
    obtain ⟨k, hk⟩ : ∃ k, b.getD 0 0 = k := ⟨_, rfl⟩
    rw [hk] at hr0 hk1 hk2 ⊢
    have ks := size_c k
    refine nK ?_
    refine s_reg rfl ?_
    refine Run.pure (dd := some 15) rfl rfl (op_move rfl (Opd.tmp _ _ rfl)) ?_
    refine Run.pure (dd := some 16) rfl rfl (op_idx_fz 0 rfl (Opd.tmp _ _ rfl) (Opd.const _) (by intro _; exact ⟨rfl, hr0⟩)) ?_
    refine Run.pure (dd := some 17) rfl rfl (op_load1_fz rfl (Opd.tmp _ _ rfl) rfl) ?_
    refine Run.pure (dd := some 18) rfl rfl (op_conv rfl (Opd.tmp _ _ rfl) tI) ?_
    refine Run.pure (dd := some 4) rfl rfl (op_assign rfl (Opd.tmp _ _ rfl)) ?_
    refine Run.nil (FinR.mk ?_)
    refine nK ?_
    refine s_reg rfl ?_
    refine Run.pure (dd := some 20) rfl rfl (op_move rfl (Opd.tmp _ _ rfl)) ?_
    refine Run.pure (dd := some 21) rfl rfl (op_lss rfl (Opd.tmp _ _ rfl) (Opd.const _)) ?_
    refine Run.pure (dd := some 22) rfl rfl (op_move rfl (Opd.tmp _ _ rfl)) ?_
    refine Run.pureG (dd := some 23) rfl rfl rfl tG (op_move rfl (Opd.tmp _ _ rfl)) ?_
    refine Run.pureG (dd := some 24) rfl rfl rfl tG (op_gtr rfl (Opd.topt _ _ _ rfl tO) (Opd.const _)) ?_
    refine Run.pure (dd := some 25) rfl rfl (op_pick_or rfl (Opd.tmp _ _ rfl) (Opd.topt _ _ _ rfl tO)) ?_
    refine Run.pure (dd := some 19) rfl rfl (op_assign rfl (Opd.tmp _ _ rfl)) ?_
    refine Run.nil (FinR.mk ?_)
    refine nK ?_
    refine n_cond _ rfl (fun hb => ?_) (fun hb => ?_)
    · rw [if_pos hb]
      refine nK ?_
      refine s_reg rfl ?_
      refine Run.pure (dd := some 26) rfl rfl (op_build rfl rfl rfl (FillF.nil _)) ?_
      refine Run.eff (dd := none) rfl rfl (op_store_flat rfl (Opd.tmp _ _ rfl) (Opd.tmp _ _ rfl) tC rfl rfl (by first | rfl | assumption) tS) ?_
      refine Run.pure (dd := some 3) rfl rfl (op_assign rfl (Opd.const _)) ?_
      refine Run.nil (FinR.mk ?_)
      refine nK ?_
      (first | exact s_o1 hC rfl tV | exact s_o2 hC rfl tV tV | exact s_o3 hC rfl tV tV tV | exact s_o4 hC rfl tV tV tV tV | exact s_out0 hC rfl | exact s_outO hC rfl rfl rfl)
    · rw [if_neg (by rw [hb]; decide)]
      have hkr : 1 ≤ k ∧ k ≤ 4 := by simp at hb; omega
      refine nK ?_
      refine s_reg rfl ?_
      refine Run.pure (dd := some 28) rfl rfl (op_move rfl (Opd.tmp _ _ rfl)) ?_
      refine Run.pure (dd := some 29) rfl rfl (op_len_fz rfl (by first | exact Opd.tmp _ _ rfl | exact Opd.nil _ _ (Opd.tmp _ _ rfl)) (by first | exact List.length_map _ | rfl)) ?_
      refine Run.pure (dd := some 30) rfl rfl (op_move rfl (Opd.tmp _ _ rfl)) ?_
      refine Run.pure (dd := some 31) rfl rfl (op_call_pure (fun _ => ks) rfl (Opd.func _) (Opds.cons _ _ _ _ (Opd.tmp _ _ rfl) Opds.nil)) ?_
      refine Run.pure (dd := some 32) rfl rfl (op_lss rfl (Opd.tmp _ _ rfl) (Opd.tmp _ _ rfl)) ?_
      refine Run.pure (dd := some 27) rfl rfl (op_assign rfl (Opd.tmp _ _ rfl)) ?_
      refine Run.nil (FinR.mk ?_)
      refine nK ?_
      refine n_cond _ rfl (fun hb => ?_) (fun hb => ?_)
      · rw [if_pos (by simpa using hb)]
        refine nK ?_
        refine s_reg rfl ?_
        refine Run.pure (dd := some 33) rfl rfl (op_build rfl rfl rfl (FillF.nil _)) ?_
        refine Run.eff (dd := none) rfl rfl (op_store_flat rfl (Opd.tmp _ _ rfl) (Opd.tmp _ _ rfl) tC rfl rfl (by first | rfl | assumption) tS) ?_
        refine Run.pure (dd := some 3) rfl rfl (op_assign rfl (Opd.const _)) ?_
        refine Run.nil (FinR.mk ?_)
        refine nK ?_
        (first | exact s_o1 hC rfl tV | exact s_o2 hC rfl tV tV | exact s_o3 hC rfl tV tV tV | exact s_o4 hC rfl tV tV tV tV | exact s_out0 hC rfl | exact s_outO hC rfl rfl rfl)
      · rw [if_neg (by simpa using hb)]
        refine nK ?_
        refine s_reg rfl ?_
        refine Run.pure (dd := some 35) rfl rfl (op_move rfl (Opd.tmp _ _ rfl)) ?_
        refine Run.pure (dd := some 36) rfl rfl (op_len_fz rfl (by first | exact Opd.tmp _ _ rfl | exact Opd.nil _ _ (Opd.tmp _ _ rfl)) (by first | exact List.length_map _ | rfl)) ?_
        refine Run.pure (dd := some 37) rfl rfl (op_move rfl (Opd.tmp _ _ rfl)) ?_
        refine Run.pure (dd := some 38) rfl rfl (op_call_pure (fun _ => ks) rfl (Opd.func _) (Opds.cons _ _ _ _ (Opd.tmp _ _ rfl) Opds.nil)) ?_
        refine Run.pure (dd := some 39) rfl rfl (op_gtr rfl (Opd.tmp _ _ rfl) (Opd.tmp _ _ rfl)) ?_
        refine Run.pure (dd := some 34) rfl rfl (op_assign rfl (Opd.tmp _ _ rfl)) ?_
        refine Run.nil (FinR.mk ?_)
        refine nK ?_
        refine n_cond _ rfl (fun hb => ?_) (fun hb => ?_)
        · rw [if_pos (by simpa using hb)]
          refine nK ?_
          refine s_reg rfl ?_
          refine Run.pure (dd := some 40) rfl rfl (op_build rfl rfl rfl (FillF.nil _)) ?_
          refine Run.eff (dd := none) rfl rfl (op_store_flat rfl (Opd.tmp _ _ rfl) (Opd.tmp _ _ rfl) tC rfl rfl (by first | rfl | assumption) tS) ?_
          refine Run.pure (dd := some 3) rfl rfl (op_assign rfl (Opd.const _)) ?_
          refine Run.nil (FinR.mk ?_)
          refine nK ?_
          (first | exact s_o1 hC rfl tV | exact s_o2 hC rfl tV tV | exact s_o3 hC rfl tV tV tV | exact s_o4 hC rfl tV tV tV tV | exact s_out0 hC rfl | exact s_outO hC rfl rfl rfl)
        · rw [if_neg (by simpa using hb)]
          rename_i hb1
          have hlen : b.length = sizeM k := by simp at hb hb1; omega
          have hsz : 6 ≤ sizeM k := by unfold sizeM; split <;> omega
          have g2 := get_c b 2 hbb (by omega) hl
          obtain ⟨m2, hm2, hb2⟩ := num4_bd 2 hbb
          obtain ⟨hr1, hn1, hn2⟩ := byte_at (i := 1) (by omega) hbb
          obtain ⟨n1, hn⟩ : ∃ n, b.getD 1 0 = n := ⟨_, rfl⟩
          rw [hn] at hr1 hn1 hn2
          rw [hm2] at g2
          refine nK ?_
          refine s_reg rfl ?_
          refine Run.pure (dd := some 42) rfl rfl (op_move rfl (Opd.tmp _ _ rfl)) ?_
          refine Run.pure (dd := some 43) rfl rfl (op_call_pure (fun _ => g2) rfl (Opd.func _) (Opds.cons _ _ _ _ (Opd.tmp _ _ rfl) (Opds.cons _ _ _ _ (Opd.const _) (Opds.cons _ _ _ _ (Opd.const _) Opds.nil)))) ?_
          refine Run.pure (dd := some 41) rfl rfl (op_move rfl (Opd.tmp _ _ rfl)) ?_
          refine Run.pure (dd := some 44) rfl rfl (op_extract_fz rfl (Opd.tmp _ _ rfl) rfl) ?_
          refine Run.pure (dd := some 45) rfl rfl (op_extract_fz rfl (Opd.tmp _ _ rfl) rfl) ?_
          refine Run.pure (dd := some 5) rfl rfl (op_assign rfl (Opd.tmp _ _ rfl)) ?_
          refine Run.pure (dd := some 6) rfl rfl (op_assign rfl (Opd.tmp _ _ rfl)) ?_
          refine Run.nil (FinR.mk ?_)
          refine nK ?_
          refine s_reg rfl ?_
          refine Run.pure (dd := some 46) rfl rfl (op_move rfl (Opd.tmp _ _ rfl)) ?_
          refine Run.pure (dd := some 47) rfl rfl (op_move rfl (Opd.tmp _ _ rfl)) ?_
          refine Run.pure (dd := some 48) rfl rfl (op_conv rfl (Opd.tmp _ _ rfl) tI) ?_
          refine Run.pure (dd := some 49) rfl rfl (op_move rfl (Opd.tmp _ _ rfl)) ?_
          refine Run.pure (dd := some 50) rfl rfl (op_idx_fz 1 rfl (Opd.tmp _ _ rfl) (Opd.const _) (by intro _; exact ⟨rfl, hr1⟩)) ?_
          refine Run.pure (dd := some 51) rfl rfl (op_load1_fz rfl (Opd.tmp _ _ rfl) rfl) ?_
          refine Run.pure (dd := some 52) rfl rfl (op_conv rfl (Opd.tmp _ _ rfl) tI) ?_
          refine Run.pure (dd := some 53) rfl rfl (op_build rfl rfl rfl (FillF.cons _ _ _ _ _ _ _ _ _ _ (by rfl) (Opd.tmp _ _ rfl) tC (by rfl) tR (FillF.cons _ _ _ _ _ _ _ _ _ _ (by rfl) (Opd.tmp _ _ rfl) tC (by rfl) tR (FillF.nil _)))) ?_
          refine Run.pure (dd := some 54) rfl rfl (op_build rfl rfl rfl (FillF.cons _ _ _ _ _ _ _ _ _ _ (by rfl) (Opd.tmp _ _ rfl) tC (by rfl) tR (FillF.cons _ _ _ _ _ _ _ _ _ _ (by rfl) (Opd.tmp _ _ rfl) tC (by rfl) tR (FillF.nil _)))) ?_
          refine Run.eff (dd := some 7) rfl rfl (op_alloc rfl rfl rfl rfl) ?_
          refine Run.eff (dd := none) rfl rfl (op_store_flat rfl (Opd.tmp _ _ rfl) (Opd.tmp _ _ rfl) tC rfl rfl (by first | rfl | assumption) tS) ?_
          refine Run.nil (FinR.mk ?_)
          refine nK ?_
          refine s_reg rfl ?_
          refine Run.pure (dd := some 55) rfl rfl (op_move rfl (Opd.tmp _ _ rfl)) ?_
          refine Run.pure (dd := some 56) rfl rfl (op_neq rfl (Opd.tmp _ _ rfl) (Opd.const _)) ?_
          refine Run.nil (FinR.mk ?_)
          refine nK ?_
          refine n_cond _ rfl (fun hb => ?_) (fun hb => ?_)
          · have hk4 : k ≠ 4 := by simpa using hb
            have g6 := get_c b 6 hbb (by unfold sizeM at hlen; rw [if_neg hk4] at hlen; omega) hl
            obtain ⟨m6, hm6, hb6⟩ := num4_bd 6 hbb
            rw [hm6] at g6
            have hM : rawM b = ⟨k, ⟨m2, n1⟩, m6⟩ := by unfold rawM; rw [hk, hm2, hn, hm6, if_neg hk4]; rfl
            rw [hM]
            have kc := mcheck_c ⟨k, ⟨m2, n1⟩, m6⟩ ⟨by simp only [inr]; omega, ⟨hb2, by simp only [inr]; omega⟩, by simp only [inr]; omega⟩
            refine nK ?_
            refine s_reg rfl ?_
            refine Run.pure (dd := some 58) rfl rfl (op_move rfl (Opd.tmp _ _ rfl)) ?_
            refine Run.pure (dd := some 59) rfl rfl (op_call_pure (fun _ => g6) rfl (Opd.func _) (Opds.cons _ _ _ _ (Opd.tmp _ _ rfl) (Opds.cons _ _ _ _ (Opd.const _) (Opds.cons _ _ _ _ (Opd.const _) Opds.nil)))) ?_
            refine Run.pure (dd := some 57) rfl rfl (op_move rfl (Opd.tmp _ _ rfl)) ?_
            refine Run.pure (dd := some 60) rfl rfl (op_extract_fz rfl (Opd.tmp _ _ rfl) rfl) ?_
            refine Run.pure (dd := some 61) rfl rfl (op_extract_fz rfl (Opd.tmp _ _ rfl) rfl) ?_
            refine Run.pure (dd := some 8) rfl rfl (op_assign rfl (Opd.tmp _ _ rfl)) ?_
            refine Run.pure (dd := some 9) rfl rfl (op_assign rfl (Opd.tmp _ _ rfl)) ?_
            refine Run.nil (FinR.mk ?_)
            refine nK ?_
            refine s_reg rfl ?_
            refine Run.pure (dd := some 62) rfl rfl (op_move rfl (Opd.tmp _ _ rfl)) ?_
            refine Run.pure (dd := some 63) rfl rfl (op_conv rfl (Opd.tmp _ _ rfl) tI) ?_
            refine Run.pure (dd := some 64) rfl rfl (op_fld_ptr (by decide) rfl (Opd.tmp _ _ rfl)) ?_
            refine Run.eff (dd := none) rfl rfl (op_store_flat rfl (Opd.tmp _ _ rfl) (Opd.tmp _ _ rfl) tC rfl rfl (by first | rfl | assumption) tS) ?_
            refine Run.nil (FinR.mk ?_)
            refine nK ?_
            refine s_reg rfl ?_
            refine Run.load (dd := some 65) rfl rfl (op_loadw_flat rfl (Opd.tmp _ _ rfl) tH rfl) ?_
            refine Run.pure (dd := some 66) rfl rfl (op_call_pure (fun _ => kc) rfl (Opd.func _) (Opds.cons _ _ _ _ (Opd.tmp _ _ rfl) Opds.nil)) ?_
            refine Run.pure (dd := some 10) rfl rfl (op_assign rfl (Opd.tmp _ _ rfl)) ?_
            refine Run.nil (FinR.mk ?_)
            refine nK ?_
            refine s_reg rfl ?_
            refine Run.pure (dd := some 67) rfl rfl (op_move rfl (Opd.tmp _ _ rfl)) ?_
            refine Run.pure (dd := some 68) rfl rfl (op_neq rfl (Opd.tmp _ _ rfl) (Opd.const _)) ?_
            refine Run.nil (FinR.mk ?_)
            refine nK ?_
            refine n_cond _ rfl (fun hb => ?_) (fun hb => ?_)
            · rw [if_pos (by simpa using hb)]
              refine nK ?_
              refine s_reg rfl ?_
              refine Run.pure (dd := some 69) rfl rfl (op_build rfl rfl rfl (FillF.nil _)) ?_
              refine Run.pure (dd := some 70) rfl rfl (op_move rfl (Opd.tmp _ _ rfl)) ?_
              refine Run.eff (dd := none) rfl rfl (op_store_flat rfl (Opd.tmp _ _ rfl) (Opd.tmp _ _ rfl) tC rfl rfl (by first | rfl | assumption) tS) ?_
              refine Run.pure (dd := some 3) rfl rfl (op_assign rfl (Opd.tmp _ _ rfl)) ?_
              refine Run.nil (FinR.mk ?_)
              refine nK ?_
              (first | exact s_o1 hC rfl tV | exact s_o2 hC rfl tV tV | exact s_o3 hC rfl tV tV tV | exact s_o4 hC rfl tV tV tV tV | exact s_out0 hC rfl | exact s_outO hC rfl rfl rfl)
            · rw [if_neg (by simpa using hb)]
              refine nK ?_
              refine s_reg rfl ?_
              refine Run.load (dd := some 71) rfl rfl (op_loadw_flat rfl (Opd.tmp _ _ rfl) tH rfl) ?_
              refine Run.eff (dd := none) rfl rfl (op_store_flat rfl (Opd.tmp _ _ rfl) (Opd.tmp _ _ rfl) tC rfl rfl (by first | rfl | assumption) tS) ?_
              refine Run.pure (dd := some 3) rfl rfl (op_assign rfl (Opd.const _)) ?_
              refine Run.nil (FinR.mk ?_)
              refine nK ?_
              (first | exact s_o1 hC rfl tV | exact s_o2 hC rfl tV tV | exact s_o3 hC rfl tV tV tV | exact s_o4 hC rfl tV tV tV tV | exact s_out0 hC rfl | exact s_outO hC rfl rfl rfl)
          · have hk4 : k = 4 := by simpa using hb
            have hM : rawM b = ⟨k, ⟨m2, n1⟩, 0⟩ := by unfold rawM; rw [hk, hm2, hn, if_pos hk4]; rfl
            rw [hM]
            have kc := mcheck_c ⟨k, ⟨m2, n1⟩, 0⟩ ⟨by simp only [inr]; omega, ⟨hb2, by simp only [inr]; omega⟩, by simp only [inr]; omega⟩
            refine nK ?_
            refine s_reg rfl ?_
            refine Run.load (dd := some 65) rfl rfl (op_loadw_flat rfl (Opd.tmp _ _ rfl) tH rfl) ?_
            refine Run.pure (dd := some 66) rfl rfl (op_call_pure (fun _ => kc) rfl (Opd.func _) (Opds.cons _ _ _ _ (Opd.tmp _ _ rfl) Opds.nil)) ?_
            refine Run.pure (dd := some 10) rfl rfl (op_assign rfl (Opd.tmp _ _ rfl)) ?_
            refine Run.nil (FinR.mk ?_)
            refine nK ?_
            refine s_reg rfl ?_
            refine Run.pure (dd := some 67) rfl rfl (op_move rfl (Opd.tmp _ _ rfl)) ?_
            refine Run.pure (dd := some 68) rfl rfl (op_neq rfl (Opd.tmp _ _ rfl) (Opd.const _)) ?_
            refine Run.nil (FinR.mk ?_)
            refine nK ?_
            refine n_cond _ rfl (fun hb => ?_) (fun hb => ?_)
            · rw [if_pos (by simpa using hb)]
              refine nK ?_
              refine s_reg rfl ?_
              refine Run.pure (dd := some 69) rfl rfl (op_build rfl rfl rfl (FillF.nil _)) ?_
              refine Run.pure (dd := some 70) rfl rfl (op_move rfl (Opd.tmp _ _ rfl)) ?_
              refine Run.eff (dd := none) rfl rfl (op_store_flat rfl (Opd.tmp _ _ rfl) (Opd.tmp _ _ rfl) tC rfl rfl (by first | rfl | assumption) tS) ?_
              refine Run.pure (dd := some 3) rfl rfl (op_assign rfl (Opd.tmp _ _ rfl)) ?_
              refine Run.nil (FinR.mk ?_)
              refine nK ?_
              (first | exact s_o1 hC rfl tV | exact s_o2 hC rfl tV tV | exact s_o3 hC rfl tV tV tV | exact s_o4 hC rfl tV tV tV tV | exact s_out0 hC rfl | exact s_outO hC rfl rfl rfl)
            · rw [if_neg (by simpa using hb)]
              refine nK ?_
              refine s_reg rfl ?_
              refine Run.load (dd := some 71) rfl rfl (op_loadw_flat rfl (Opd.tmp _ _ rfl) tH rfl) ?_
              refine Run.eff (dd := none) rfl rfl (op_store_flat rfl (Opd.tmp _ _ rfl) (Opd.tmp _ _ rfl) tC rfl rfl (by first | rfl | assumption) tS) ?_
              refine Run.pure (dd := some 3) rfl rfl (op_assign rfl (Opd.const _)) ?_
              refine Run.nil (FinR.mk ?_)
              refine nK ?_
              (first | exact s_o1 hC rfl tV | exact s_o2 hC rfl tV tV | exact s_o3 hC rfl tV tV tV | exact s_o4 hC rfl tV tV tV tV | exact s_out0 hC rfl | exact s_outO hC rfl rfl rfl)
end Go.Proofs.Ytkofbemgpeagbaa
/- What the methods of the program's run do. No program in sight. -/
namespace Go.Pl
open Go Go.RT
set_option linter.all false
abbrev R7 (f0 f1 f2 f3 f4 f5 : FV) (out : List Snd) : Option Ob := some (.refs 7 [[.fz f0, .fz f1, .fz f2, .fz f3, .fz f4, .fz f5, .own 2 (out.map encSn)]])
def upG (ro : Int) (lc : List Bnd) (ps : List Int) (n : Int) : Int × List Int × List Snd :=
  if (decide (n = 0) || decide (n = ro)) = true then (5, ps, []) else if ps.contains n = true then (7, ps, []) else (0, insI n ps, lc.map fun b => msgS n 1 b.px b.la)
def downG (rm : List Bnd) (ps : List Int) (n : Int) : Int × List Int × List Bnd :=
  if (!ps.contains n) = true then (6, ps, rm) else (0, ps.filter fun x => decide (x ≠ n), rm.filter fun b => !decide (b.pe = n))
def dataG (ro : Int) (lc rm : List Bnd) (ps : List Int) (n : Int) (d : List Int) : Int × List Bnd × List Snd :=
  if (!ps.contains n) = true then (6, rm, []) else if (decodeF d).2 ≠ 0 then ((decodeF d).2, rm, []) else
  let m := (decodeF d).1
  if m.k = 1 then (0, bindL rm ⟨m.px, n, m.la⟩, []) else
  if m.k = 2 then (if ((findB rm m.px n).isSome && decide ((findB rm m.px n).getD 0 = m.la)) = true then (0, unbL rm m.px n, [msgS n 3 m.px m.la]) else (0, rm, [])) else
  if m.k = 4 then (if (findB lc m.px ro).isSome = true then (0, rm, [msgS n 1 m.px ((findB lc m.px ro).getD 0)]) else (0, rm, [])) else (0, rm, [])
structure okB' (b : Bnd) : Prop where
  px : b.px.ok
  la : inr .i64 b.la
theorem okB'.msg {b : Bnd} (h : okB' b) (k : Int) (hk : inr .i64 k) : okM ⟨k, b.px, b.la⟩ := ⟨hk, h.px, h.la⟩
theorem map_take_succ {α β : Type} (f : α → β) {l : List α} {i : Nat} (h : i < l.length) : (l.take (i + 1)).map f = (l.take i).map f ++ [f l[i]] := by
  rw [List.take_succ_eq_append_getElem h, List.map_append]; rfl
theorem decode_ok {d : List Int} (h : ∀ x ∈ d, 0 ≤ x ∧ x < 256) : okM (decodeF d).1 ∧ ((decodeF d).2 = 0 → goodM (decodeF d).1) := by
  have hz : okM zMsg := ⟨by simp [zMsg, inr], ⟨by simp [zMsg], by simp [zMsg, inr]⟩, by simp [zMsg, inr]⟩
  unfold decodeF
  by_cases h0 : d.length = 0
  · rw [if_pos h0]; exact ⟨hz, fun h => (by cases h)⟩
  rw [if_neg h0]
  split
  · exact ⟨hz, fun h => (by cases h)⟩
  · split
    · exact ⟨hz, fun h => (by cases h)⟩
    · split
      · exact ⟨hz, fun h => (by cases h)⟩
      · next k1 k2 k3 =>
        split
        · next k => exact ⟨hz, fun h => absurd h k⟩
        · next k =>
          refine ⟨?_, fun _ => (msgE_iff _).1 (by simpa using k)⟩
          have hsz : 6 ≤ sizeM (d.getD 0 0) := by unfold sizeM; split <;> omega
          obtain ⟨_, b1, b2⟩ := byte_at (i := 0) (by omega) h
          obtain ⟨_, b3, b4⟩ := byte_at (i := 1) (by omega) h
          obtain ⟨m2, q1, q2⟩ := num4_bd 2 h
          obtain ⟨m6, q3, q4⟩ := num4_bd 6 h
          unfold rawM
          refine ⟨by simp only [inr]; omega, ⟨by simp only; omega, by simp only [inr]; omega⟩, ?_⟩
          simp only [inr]
          split <;> omega
theorem bsI_lt {n : Int} {l : List Int} (h : ascP' l) (hn : n ∈ l) : bsI n l < l.length := by
  obtain ⟨h1, _, h3⟩ := bsI_spec (n := n) h
  rcases Nat.lt_or_ge (bsI n l) l.length with h | h
  · exact h
  · obtain ⟨i, hi, he⟩ := List.getElem_of_mem hn
    have := h1 i (by omega) hi
    omega
end Go.Pl
namespace Go.Proofs.Ytkofbemgpeagbaa
open Go Go.RT Go.Proofs Go.Pl
set_option linter.all false
set_option maxRecDepth 20000
theorem send_m (f0 f1 f2 f3 f4 f5 : FV) (out : List Snd) (k la : Int) (p : Pfx) (ps : List Int) (hm : okM ⟨k, p, la⟩) (hn : out.length + ps.length ≤ 1000000) : Meets Try.prog 54 [.ptr 0 7 0 0, IV .i64 k, .fz (.agg (encP p)), IV .i64 la, .fz (VW ps)] 1 [(0, R7 f0 f1 f2 f3 f4 f5 out)] (.fz (.tup [])) [(0, R7 f0 f1 f2 f3 f4 f5 (out ++ ps.map fun n => msgS n k p la))] 1 := by
  have ke := encode_c ⟨k, p, la⟩ hm
  refine Meets.intro Try.func54 rfl (Nat.le_of_ble_eq_true rfl) fun C hC => ?_
  simp only [List.map, argEnv, Nat.reduceAdd]
  refine nK ?_
  refine s_reg rfl ?_
  refine Run.eff (dd := some 7) rfl rfl (op_box_flat rfl (Opd.tmp _ _ rfl) tC rfl) ?_
  refine Run.nil (FinR.mk ?_)
  refine nK ?_
  refine s_reg rfl ?_
  refine Run.pure (dd := some 14) rfl rfl (op_move rfl (Opd.tmp _ _ rfl)) ?_
  refine Run.pure (dd := some 15) rfl rfl (op_len_fz rfl (by first | exact Opd.tmp _ _ rfl | exact Opd.nil _ _ (Opd.tmp _ _ rfl)) (by first | exact List.length_map _ | rfl)) ?_
  refine Run.pure (dd := some 16) rfl rfl (op_move rfl (Opd.const _)) ?_
  refine Run.nil (FinR.mk ?_)
  refine nK ?_
  refine n_loop (ι := Nat) (fun i => ([(0, .ptr 0 7 0 0), (1, IV .i64 k), (3, IV .i64 la), (7, .fz (.cellp (encP p))), (14, .fz (VW ps)), (15, IV .i64 ps.length), (16, IV .i64 i)], [(0, R7 f0 f1 f2 f3 f4 f5 (out ++ (ps.take i).map fun n => msgS n k p la))], 1)) (fun i => i ≤ ps.length) (fun i => ps.length - i) 0 (Nat.zero_le _) ?_ ?_
  · refine Next.weakS [0] [7] (by rfl) (keepsN hC _ rfl) (by repeat (first | exact trivial | refine ⟨⟨_, rfl, .inl ⟨rfl, rfl⟩⟩, ?_⟩ | refine ⟨⟨_, rfl, .inl ⟨slEq rfl tN, rfl⟩⟩, ?_⟩ | refine ⟨⟨_, rfl, .inl ⟨ivEq tX, rfl⟩⟩, ?_⟩ | refine ⟨⟨_, rfl, .inr ⟨_, rfl, tW⟩⟩, ?_⟩)) (by repeat (first | exact trivial | refine ⟨ent_same rfl rfl rfl tL, ?_⟩ | refine ⟨ent_same rfl rfl (rfEq rfl tU) tL, ?_⟩ | refine ⟨ent_same rfl rfl (flEq rfl (by first | (simp; done) | (simp; omega) | (simp [encP, encW, encY, encMs, encBn, encSn]; done) | simp [maxC, minC])) trivial, ?_⟩)) rfl rel_intro
  · intro i hi K hK
    refine nK ?_
    refine s_reg rfl ?_
    refine Run.pure (dd := some 17) rfl rfl (op_lss rfl (Opd.tmp _ _ rfl) (Opd.tmp _ _ rfl)) ?_
    refine Run.nil (FinR.mk ?_)
    refine nK ?_
    refine n_cond _ rfl (fun hb => ?_) (fun hb => ?_)
    · have hlt : i < ps.length := by simp at hb; omega
      have hr1 := row_at' encW ps i hlt
      have hK1 := hK (i + 1) (by omega) (by omega)
      rw [map_take_succ _ hlt, ← List.append_assoc] at hK1
      unfold R7 at hK1
      rw [app2'] at hK1
      have hol : (out ++ (ps.take i).map fun n => msgS n k p la).length ≤ 1000000 := by simp; omega
      generalize (out ++ (ps.take i).map fun n => msgS n k p la) = o at *
      unfold msgS at hK1
      generalize ps[i] = n at *
      generalize encodeF ⟨k, p, la⟩ = r at *
      refine nK ?_
      refine s_reg rfl ?_
      refine Run.pure (dd := some 18) rfl rfl (op_idx_fz _ rfl (Opd.tmp _ _ rfl) (Opd.tmp _ _ rfl) tF) ?_
      refine Run.pure (dd := some 19) rfl rfl (op_load1_fz rfl (Opd.tmp _ _ rfl) rfl) ?_
      refine Run.pure (dd := some 11) rfl rfl (op_assign rfl (Opd.tmp _ _ rfl)) ?_
      refine Run.nil (FinR.mk ?_)
      refine nK ?_
      refine s_reg rfl ?_
      refine Run.pure (dd := some 21) rfl rfl (op_move rfl (Opd.tmp _ _ rfl)) ?_
      refine Run.pure (dd := some 22) rfl rfl (op_loadw_fz rfl (Opd.tmp _ _ rfl) rfl) ?_
      refine Run.pure (dd := some 23) rfl rfl (op_move rfl (Opd.tmp _ _ rfl)) ?_
      refine Run.pure (dd := some 24) rfl rfl (op_build rfl rfl rfl (FillF.cons _ _ _ _ _ _ _ _ _ _ (by rfl) (Opd.tmp _ _ rfl) tC (by rfl) tR (FillF.cons _ _ _ _ _ _ _ _ _ _ (by rfl) (Opd.tmp _ _ rfl) tC (by rfl) tR (FillF.cons _ _ _ _ _ _ _ _ _ _ (by rfl) (Opd.tmp _ _ rfl) tC (by rfl) tR (FillF.nil _))))) ?_
      refine Run.pure (dd := some 25) rfl rfl (op_call_pure (fun _ => ke) rfl (Opd.func _) (Opds.cons _ _ _ _ (Opd.tmp _ _ rfl) Opds.nil)) ?_
      refine Run.pure (dd := some 20) rfl rfl (op_move rfl (Opd.tmp _ _ rfl)) ?_
      refine Run.pure (dd := some 26) rfl rfl (op_extract_fz rfl (Opd.tmp _ _ rfl) rfl) ?_
      refine Run.pure (dd := some 27) rfl rfl (op_extract_fz rfl (Opd.tmp _ _ rfl) rfl) ?_
      refine Run.pure (dd := some 12) rfl rfl (op_assign rfl (Opd.tmp _ _ rfl)) ?_
      refine Run.pure (dd := some 13) rfl rfl (op_assign rfl (Opd.tmp _ _ rfl)) ?_
      refine Run.nil (FinR.mk ?_)
      refine nK ?_
      refine Next.take 0 0 6 rfl rfl rfl rfl ?_
      refine nK ?_
      refine s_reg rfl ?_
      refine Run.pure (dd := some 28) rfl rfl (op_move rfl (Opd.tmp _ _ rfl)) ?_
      refine Run.pure (dd := some 29) rfl rfl (op_move rfl (Opd.tmp _ _ rfl)) ?_
      refine Run.pure (dd := some 30) rfl rfl (op_nilck_ptr rfl (Opd.tmp _ _ rfl)) ?_
      refine Run.pure (dd := some 31) rfl rfl (op_fld_ptr (by decide) rfl (Opd.tmp _ _ rfl)) ?_
      refine Run.load (dd := some 32) rfl rfl (op_load1_refs rfl (Opd.tmp _ _ rfl) tH rfl) ?_
      refine Run.pure (dd := some 33) rfl rfl (op_move rfl (Opd.tmp _ _ rfl)) ?_
      refine Run.pure (dd := some 34) rfl rfl (op_move rfl (Opd.tmp _ _ rfl)) ?_
      refine Run.pure (dd := some 35) rfl rfl (op_build rfl rfl rfl (FillF.cons _ _ _ _ _ _ _ _ _ _ (by rfl) (Opd.tmp _ _ rfl) tC (by rfl) tR (FillF.cons _ _ _ _ _ _ _ _ _ _ (by rfl) (Opd.tmp _ _ rfl) tC (by rfl) tR (FillF.nil _)))) ?_
      refine Run.pure (dd := some 36) rfl rfl (op_buildSlice_fz rfl (RowsF.cons _ _ _ _ _ _ (Opd.tmp _ _ rfl) tC (by rfl) (RowsF.nil _)) rfl rfl) ?_
      refine Run.eff (dd := some 37) rfl rfl (op_append rfl (Opd.tmp _ _ rfl) (Opd.tmp _ _ rfl) rfl (by simp) rfl rfl tB tB) ?_
      refine Run.pure (dd := some 38) rfl rfl (op_nilck_ptr rfl (Opd.tmp _ _ rfl)) ?_
      refine Run.pure (dd := some 39) rfl rfl (op_fld_ptr (by decide) rfl (Opd.tmp _ _ rfl)) ?_
      refine Run.eff (dd := none) rfl rfl (op_store_refs rfl (Opd.tmp _ _ rfl) (Opd.tmp _ _ rfl) tP rfl rfl rfl tS) ?_
      refine Run.nil (FinR.mk ?_)
      refine nK ?_
      refine s_reg rfl ?_
      refine Run.pure (dd := some 40) rfl rfl (op_add rfl (Opd.tmp _ _ rfl) (Opd.const _) tI) ?_
      refine Run.pure (dd := some 16) rfl rfl (op_move rfl (Opd.tmp _ _ rfl)) ?_
      refine Run.nil (FinR.mk ?_)
      refine nK ?_
      refine Next.untake 0 0 6 rfl rfl rfl rfl (by simp) rfl ?_
      refine Next.weakS [0] [] (by rfl) (keepsN hC _ rfl) (by repeat (first | exact trivial | refine ⟨⟨_, rfl, .inl ⟨rfl, rfl⟩⟩, ?_⟩ | refine ⟨⟨_, rfl, .inl ⟨slEq rfl tN, rfl⟩⟩, ?_⟩ | refine ⟨⟨_, rfl, .inl ⟨ivEq tX, rfl⟩⟩, ?_⟩)) (by repeat (first | exact trivial | refine ⟨ent_same rfl rfl rfl tL, ?_⟩ | refine ⟨ent_same rfl rfl (rfEq rfl tU) tL, ?_⟩ | refine ⟨ent_same rfl rfl (flEq rfl (by first | (simp; done) | (simp; omega) | (simp [encP, encW, encY, encMs, encBn, encSn]; done) | simp [maxC, minC])) trivial, ?_⟩)) rfl hK1
    · have hie : i = ps.length := by simp at hb; omega
      rw [hie, List.take_length]
      refine nK ?_
      refine Next.weakS [0] [] (by rfl) (keepsN hC _ rfl) (G' := []) (H' := [(0, R7 f0 f1 f2 f3 f4 f5 (out ++ ps.map fun n => msgS n k p la))]) trivial (by repeat (first | exact trivial | refine ⟨ent_same rfl rfl rfl tL, ?_⟩ | refine ⟨ent_same rfl rfl (rfEq rfl tU) tL, ?_⟩ | refine ⟨ent_same rfl rfl (flEq rfl (by first | (simp; done) | (simp; omega) | (simp [encP, encW, encY, encMs, encBn, encSn]; done) | simp [maxC, minC])) trivial, ?_⟩)) rfl ?_
      exact n_out0 rfl
open Go Go.RT Go.Proofs Go.Pl
set_option maxRecDepth 20000
set_option maxHeartbeats 1000000
abbrev RU (f0 f1 f2 f3 : FV) (ps : List Int) (f5 : FV) : Option Ob := some (.refs 7 [[.fz f0, .fz f1, .fz f2, .fz f3, .own 1 (ps.map encW), .fz f5, .own 2 []]])
theorem up_m (ro n : Int) (f1 f3 f5 : FV) (lc : List Bnd) (ps : List Int) (hl : ∀ b ∈ lc, okB' b) (hps : ascP' ps) (hn : lc.length ≤ 100000) (hm : ps.length ≤ 100000) : Meets Try.prog 38 [.ptr 0 7 0 0, IV .u32 n] 1 [(0, RU (If .u32 ro) f1 (VBn lc) f3 ps f5)] (IV .i64 (upG ro lc ps n).1) [(0, R7 (If .u32 ro) f1 (VBn lc) f3 (VW (upG ro lc ps n).2.1) f5 (upG ro lc ps n).2.2)] 1 := by
  have kb : Pure Try.prog 52 [VW ps, If .u32 n] (.tup [If .i64 (bsI n ps : Nat), Bf (ps.contains n)]) := by
    rw [← hitI_eq hps]; exact bsearchW_c ps n (by omega)
  obtain ⟨_, _, hble⟩ := bsI_spec (n := n) hps
  unfold upG
  refine Meets.intro Try.func38 rfl (Nat.le_of_ble_eq_true rfl) fun C hC => ?_
  simp only [List.map, argEnv, Nat.reduceAdd]
  refine nK ?_
  refine s_reg rfl ?_
  refine Run.pure (dd := some 4) rfl rfl (op_assign rfl (Opd.const _)) ?_
  refine Run.nil (FinR.mk ?_)
  refine nK ?_
  refine s_reg rfl ?_
  refine Run.pure (dd := some 9) rfl rfl (op_move rfl (Opd.tmp _ _ rfl)) ?_
  refine Run.pure (dd := some 10) rfl rfl (op_eql rfl (Opd.tmp _ _ rfl) (Opd.const _)) ?_
  refine Run.pure (dd := some 11) rfl rfl (op_move rfl (Opd.tmp _ _ rfl)) ?_
  refine Run.pureG (dd := some 12) rfl rfl rfl tG (op_move rfl (Opd.tmp _ _ rfl)) ?_
  refine Run.pureG (dd := some 13) rfl rfl rfl tG (op_move rfl (Opd.tmp _ _ rfl)) ?_
  refine Run.pureG (dd := some 14) rfl rfl rfl tG (op_nilck_ptr rfl (Opd.topt _ _ _ rfl tO)) ?_
  refine Run.pureG (dd := some 15) rfl rfl rfl tG (op_fld_ptr (by decide) rfl (Opd.topt _ _ _ rfl tO)) ?_
  refine Run.pureG (dd := some 16) rfl rfl rfl tG (op_fld_ptr (by decide) rfl (Opd.topt _ _ _ rfl tO)) ?_
  refine Run.loadG (dd := some 17) rfl rfl rfl tG (op_load1_refs rfl (Opd.topt _ _ _ rfl tO) tH rfl) ?_
  refine Run.pureG (dd := some 18) rfl rfl rfl tG (op_eql rfl (Opd.topt _ _ _ rfl tO) (Opd.topt _ _ _ rfl tO)) ?_
  refine Run.pure (dd := some 19) rfl rfl (op_pick_or rfl (Opd.tmp _ _ rfl) (Opd.topt _ _ _ rfl tO)) ?_
  refine Run.nil (FinR.mk ?_)
  refine nK ?_
  refine Next.take 0 0 4 rfl rfl rfl rfl ?_
  refine nK ?_
  refine n_cond _ rfl (fun hb => ?_) (fun hb => ?_)
  · rw [if_pos hb]
    refine nK ?_
    refine s_reg rfl ?_
    refine Run.pure (dd := some 4) rfl rfl (op_assign rfl (Opd.const _)) ?_
    refine Run.nil (FinR.mk ?_)
    refine nK ?_
    refine Next.freezeCell 0 0 4 1 rfl rfl rfl rfl rfl rfl ?_
    refine Next.weakS [0] [] (by rfl) (keepsN hC _ rfl) (G' := [(4, IV .i64 5)]) (H' := [(0, R7 (If .u32 ro) f1 (VBn lc) f3 (VW ps) f5 [])]) (by repeat (first | exact trivial | refine ⟨⟨_, rfl, .inl ⟨rfl, rfl⟩⟩, ?_⟩ | refine ⟨⟨_, rfl, .inl ⟨slEq rfl tN, rfl⟩⟩, ?_⟩ | refine ⟨⟨_, rfl, .inl ⟨ivEq tX, rfl⟩⟩, ?_⟩)) (by repeat (first | exact trivial | refine ⟨ent_same rfl rfl rfl tL, ?_⟩ | refine ⟨ent_same rfl rfl (rfEq rfl tU) tL, ?_⟩ | refine ⟨ent_same rfl rfl (flEq rfl (by first | (simp; done) | (simp; omega) | (simp [encP, encW, encY, encMs, encBn, encSn]; done) | simp [maxC, minC])) trivial, ?_⟩)) rfl ?_
    exact n_out1 rfl (by rfl) rfl rfl
  · rw [if_neg (by rw [hb]; decide)]
    refine nK ?_
    refine s_reg rfl ?_
    refine Run.pure (dd := some 21) rfl rfl (op_move rfl (Opd.tmp _ _ rfl)) ?_
    refine Run.pure (dd := some 22) rfl rfl (op_nilck_ptr rfl (Opd.tmp _ _ rfl)) ?_
    refine Run.pure (dd := some 23) rfl rfl (op_fld_ptr (by decide) rfl (Opd.tmp _ _ rfl)) ?_
    refine Run.pure (dd := some 24) rfl rfl (op_fld_ptr (by decide) rfl (Opd.tmp _ _ rfl)) ?_
    refine Run.load (dd := some 25) rfl rfl (op_load1_refs rfl (Opd.tmp _ _ rfl) tH rfl) ?_
    refine Run.pure (dd := some 26) rfl rfl (op_move rfl (Opd.tmp _ _ rfl)) ?_
    refine Run.load (dd := some 27) rfl rfl (op_call_lend [1] (fun _ => kb) rfl (Opd.func _) (Opds.cons _ _ _ _ (Opd.tmp _ _ rfl) (Opds.cons _ _ _ _ (Opd.tmp _ _ rfl) Opds.nil)) (by exact .cons _ _ _ _ tW (.cons _ _ _ _ tW .nil)) rfl rfl) ?_
    refine Run.pure (dd := some 20) rfl rfl (op_move rfl (Opd.tmp _ _ rfl)) ?_
    refine Run.pure (dd := some 28) rfl rfl (op_extract_fz rfl (Opd.tmp _ _ rfl) rfl) ?_
    refine Run.pure (dd := some 29) rfl rfl (op_extract_fz rfl (Opd.tmp _ _ rfl) rfl) ?_
    refine Run.pure (dd := some 5) rfl rfl (op_assign rfl (Opd.tmp _ _ rfl)) ?_
    refine Run.pure (dd := some 6) rfl rfl (op_assign rfl (Opd.tmp _ _ rfl)) ?_
    refine Run.nil (FinR.mk ?_)
    refine nK ?_
    refine s_reg rfl ?_
    refine Run.pure (dd := some 30) rfl rfl (op_move rfl (Opd.tmp _ _ rfl)) ?_
    refine Run.nil (FinR.mk ?_)
    refine nK ?_
    refine n_cond _ rfl (fun hb => ?_) (fun hb => ?_)
    · rw [if_pos hb]
      refine nK ?_
      refine s_reg rfl ?_
      refine Run.pure (dd := some 4) rfl rfl (op_assign rfl (Opd.const _)) ?_
      refine Run.nil (FinR.mk ?_)
      refine nK ?_
      refine Next.freezeCell 0 0 4 1 rfl rfl rfl rfl rfl rfl ?_
      refine Next.weakS [0] [] (by rfl) (keepsN hC _ rfl) (G' := [(4, IV .i64 7)]) (H' := [(0, R7 (If .u32 ro) f1 (VBn lc) f3 (VW ps) f5 [])]) (by repeat (first | exact trivial | refine ⟨⟨_, rfl, .inl ⟨rfl, rfl⟩⟩, ?_⟩ | refine ⟨⟨_, rfl, .inl ⟨slEq rfl tN, rfl⟩⟩, ?_⟩ | refine ⟨⟨_, rfl, .inl ⟨ivEq tX, rfl⟩⟩, ?_⟩)) (by repeat (first | exact trivial | refine ⟨ent_same rfl rfl rfl tL, ?_⟩ | refine ⟨ent_same rfl rfl (rfEq rfl tU) tL, ?_⟩ | refine ⟨ent_same rfl rfl (flEq rfl (by first | (simp; done) | (simp; omega) | (simp [encP, encW, encY, encMs, encBn, encSn]; done) | simp [maxC, minC])) trivial, ?_⟩)) rfl ?_
      exact n_out1 rfl (by rfl) rfl rfl
    · rw [if_neg (by rw [hb]; decide)]
      have kn := insertW_c ps n (bsI n ps) (by omega) hble
      have hni : n ∉ ps := by simpa using hb
      have hil := insI_len n ps
      rw [insI_bs hps hni, ← hil] at kn
      have hle : (ps.map encW).length = ps.length := List.length_map _
      generalize bsI n ps = k at *
      rw [← hle] at kn
      generalize hq : insI n ps = qs at *
      refine nK ?_
      refine s_reg rfl ?_
      refine Run.pure (dd := some 31) rfl rfl (op_move rfl (Opd.tmp _ _ rfl)) ?_
      refine Run.pure (dd := some 32) rfl rfl (op_move rfl (Opd.tmp _ _ rfl)) ?_
      refine Run.pure (dd := some 33) rfl rfl (op_nilck_ptr rfl (Opd.tmp _ _ rfl)) ?_
      refine Run.pure (dd := some 34) rfl rfl (op_fld_ptr (by decide) rfl (Opd.tmp _ _ rfl)) ?_
      refine Run.pure (dd := some 35) rfl rfl (op_fld_ptr (by decide) rfl (Opd.tmp _ _ rfl)) ?_
      refine Run.load (dd := some 36) rfl rfl (op_load1_refs rfl (Opd.tmp _ _ rfl) tH rfl) ?_
      refine Run.pure (dd := some 37) rfl rfl (op_move rfl (Opd.tmp _ _ rfl)) ?_
      refine Run.pure (dd := some 38) rfl rfl (op_move rfl (Opd.tmp _ _ rfl)) ?_
      refine Run.eff (dd := some 39) rfl rfl (op_buildSlice_own rfl (RowsF.cons _ _ _ _ _ _ (Opd.tmp _ _ rfl) tC (by rfl) (RowsF.nil _)) rfl rfl rfl) ?_
      refine Run.eff (dd := some 40) rfl rfl (op_call (n := 2) (n' := 3) [1, 2] (fun _ => kn) rfl (Opd.func _) (Opds.cons _ _ _ _ (Opd.tmp _ _ rfl) (Opds.cons _ _ _ _ (Opd.tmp _ _ rfl) (Opds.cons _ _ _ _ (Opd.tmp _ _ rfl) Opds.nil))) rfl rfl (Lent.of rfl rfl (by repeat (first | exact trivial | refine ⟨⟨rfl, rfl, rfl, tL⟩, ?_⟩)) rfl) rfl rfl rfl rfl rfl) ?_
      refine Run.pure (dd := some 41) rfl rfl (op_nilck_ptr rfl (Opd.tmp _ _ rfl)) ?_
      refine Run.pure (dd := some 42) rfl rfl (op_fld_ptr (by decide) rfl (Opd.tmp _ _ rfl)) ?_
      refine Run.pure (dd := some 43) rfl rfl (op_fld_ptr (by decide) rfl (Opd.tmp _ _ rfl)) ?_
      refine Run.eff (dd := none) rfl rfl (op_store_refs rfl (Opd.tmp _ _ rfl) (Opd.tmp _ _ rfl) tP rfl rfl rfl tS) ?_
      refine Run.nil (FinR.mk ?_)
      refine nK ?_
      refine Next.freezeCell 0 0 4 3 rfl rfl rfl rfl (List.length_map _) rfl ?_
      refine nK ?_
      refine s_reg rfl ?_
      refine Run.pure (dd := some 44) rfl rfl (op_move rfl (Opd.tmp _ _ rfl)) ?_
      refine Run.pure (dd := some 45) rfl rfl (op_nilck_ptr rfl (Opd.tmp _ _ rfl)) ?_
      refine Run.pure (dd := some 46) rfl rfl (op_fld_ptr (by decide) rfl (Opd.tmp _ _ rfl)) ?_
      refine Run.pure (dd := some 47) rfl rfl (op_fld_ptr (by decide) rfl (Opd.tmp _ _ rfl)) ?_
      refine Run.load (dd := some 48) rfl rfl (op_load1_refs rfl (Opd.tmp _ _ rfl) tH rfl) ?_
      refine Run.pure (dd := some 49) rfl rfl (op_len_fz rfl (by first | exact Opd.tmp _ _ rfl | exact Opd.nil _ _ (Opd.tmp _ _ rfl)) (by first | exact List.length_map _ | rfl)) ?_
      refine Run.pure (dd := some 50) rfl rfl (op_move rfl (Opd.const _)) ?_
      refine Run.nil (FinR.mk ?_)
      refine nK ?_
      refine n_loop (ι := Nat) (fun i => ([(0, .ptr 0 7 0 0), (1, IV .u32 n), (48, .fz (VBn lc)), (49, IV .i64 lc.length), (50, IV .i64 i)], [(0, R7 (If .u32 ro) f1 (VBn lc) f3 (VW qs) f5 ((lc.take i).map fun b => msgS n 1 b.px b.la))], 1)) (fun i => i ≤ lc.length) (fun i => lc.length - i) 0 (Nat.zero_le _) ?_ ?_
      · refine Next.weakS [0] [] (by rfl) (keepsN hC _ rfl) (by repeat (first | exact trivial | refine ⟨⟨_, rfl, .inl ⟨rfl, rfl⟩⟩, ?_⟩ | refine ⟨⟨_, rfl, .inl ⟨slEq rfl tN, rfl⟩⟩, ?_⟩ | refine ⟨⟨_, rfl, .inl ⟨ivEq tX, rfl⟩⟩, ?_⟩)) (by repeat (first | exact trivial | refine ⟨ent_same rfl rfl rfl tL, ?_⟩ | refine ⟨ent_same rfl rfl (rfEq rfl tU) tL, ?_⟩ | refine ⟨ent_same rfl rfl (flEq rfl (by first | (simp; done) | (simp; omega) | (simp [encP, encW, encY, encMs, encBn, encSn]; done) | simp [maxC, minC])) trivial, ?_⟩)) rfl rel_intro
      · intro i hi K hK
        refine nK ?_
        refine s_reg rfl ?_
        refine Run.pure (dd := some 51) rfl rfl (op_lss rfl (Opd.tmp _ _ rfl) (Opd.tmp _ _ rfl)) ?_
        refine Run.nil (FinR.mk ?_)
        refine nK ?_
        refine n_cond _ rfl (fun hb => ?_) (fun hb => ?_)
        · have hlt : i < lc.length := by simp at hb; omega
          have hr1 := row_at' encBn lc i hlt
          have hK1 := hK (i + 1) (by omega) (by omega)
          rw [map_take_succ _ hlt] at hK1
          have hob := hl _ (List.getElem_mem hlt)
          generalize lc[i] = b at *
          have ks := fun o ho => send_m (If .u32 ro) f1 (VBn lc) f3 (VW qs) f5 o 1 b.la b.px [n] (hob.msg 1 (by simp [inr])) ho
          have hol : ((lc.take i).map fun b => msgS n 1 b.px b.la).length ≤ 100000 := by simp; omega
          generalize ((lc.take i).map fun b => msgS n 1 b.px b.la) = o at *
          have ks := ks o (by simp; omega)
          refine nK ?_
          refine s_reg rfl ?_
          refine Run.pure (dd := some 52) rfl rfl (op_idx_fz _ rfl (Opd.tmp _ _ rfl) (Opd.tmp _ _ rfl) tF) ?_
          refine Run.pure (dd := some 53) rfl rfl (op_loadw_fz rfl (Opd.tmp _ _ rfl) rfl) ?_
          refine Run.eff (dd := some 8) rfl rfl (op_alloc rfl rfl rfl rfl) ?_
          refine Run.eff (dd := none) rfl rfl (op_store_flat rfl (Opd.tmp _ _ rfl) (Opd.tmp _ _ rfl) tC rfl rfl (by first | rfl | assumption) tS) ?_
          refine Run.nil (FinR.mk ?_)
          refine nK ?_
          refine s_reg rfl ?_
          refine Run.pure (dd := some 54) rfl rfl (op_move rfl (Opd.tmp _ _ rfl)) ?_
          refine Run.pure (dd := some 55) rfl rfl (op_fld_ptr (by decide) rfl (Opd.tmp _ _ rfl)) ?_
          refine Run.load (dd := some 56) rfl rfl (op_loadn_flat rfl (Opd.tmp _ _ rfl) tH tR tR) ?_
          refine Run.pure (dd := some 57) rfl rfl (op_fld_ptr (by decide) rfl (Opd.tmp _ _ rfl)) ?_
          refine Run.load (dd := some 58) rfl rfl (op_load1_flat rfl (Opd.tmp _ _ rfl) tH rfl) ?_
          refine Run.pure (dd := some 59) rfl rfl (op_move rfl (Opd.tmp _ _ rfl)) ?_
          refine Run.pure (dd := some 60) rfl rfl (op_buildSlice_fz rfl (RowsF.cons _ _ _ _ _ _ (Opd.tmp _ _ rfl) tC (by rfl) (RowsF.nil _)) rfl rfl) ?_
          refine Run.eff (dd := some 61) rfl rfl (op_call (n := 1) (n' := 1) [0] (fun _ => ks) rfl (Opd.func _) (Opds.cons _ _ _ _ (Opd.tmp _ _ rfl) (Opds.cons _ _ _ _ (Opd.const _) (Opds.cons _ _ _ _ (Opd.tmp _ _ rfl) (Opds.cons _ _ _ _ (Opd.tmp _ _ rfl) (Opds.cons _ _ _ _ (Opd.tmp _ _ rfl) Opds.nil))))) rfl rfl (Lent.of rfl rfl (by repeat (first | exact trivial | refine ⟨⟨rfl, rfl, rfl, tL⟩, ?_⟩)) rfl) rfl rfl rfl rfl rfl) ?_
          refine Run.nil (FinR.mk ?_)
          refine nK ?_
          refine s_reg rfl ?_
          refine Run.pure (dd := some 62) rfl rfl (op_add rfl (Opd.tmp _ _ rfl) (Opd.const _) tI) ?_
          refine Run.pure (dd := some 50) rfl rfl (op_move rfl (Opd.tmp _ _ rfl)) ?_
          refine Run.nil (FinR.mk ?_)
          refine nK ?_
          refine Next.weakS [0] [] (by rfl) (keepsN hC _ rfl) (by repeat (first | exact trivial | refine ⟨⟨_, rfl, .inl ⟨rfl, rfl⟩⟩, ?_⟩ | refine ⟨⟨_, rfl, .inl ⟨slEq rfl tN, rfl⟩⟩, ?_⟩ | refine ⟨⟨_, rfl, .inl ⟨ivEq tX, rfl⟩⟩, ?_⟩)) (by repeat (first | exact trivial | refine ⟨ent_same rfl rfl rfl tL, ?_⟩ | refine ⟨ent_same rfl rfl (rfEq rfl tU) tL, ?_⟩ | refine ⟨ent_same rfl rfl (flEq rfl (by first | (simp; done) | (simp; omega) | (simp [encP, encW, encY, encMs, encBn, encSn]; done) | simp [maxC, minC])) trivial, ?_⟩)) rfl hK1
        · have hie : i = lc.length := by simp at hb; omega
          rw [hie, List.take_length]
          refine nK ?_
          refine s_reg rfl ?_
          refine Run.pure (dd := some 4) rfl rfl (op_assign rfl (Opd.const _)) ?_
          refine Run.nil (FinR.mk ?_)
          refine nK ?_
          refine Next.weakS [0] [] (by rfl) (keepsN hC _ rfl) (G' := [(4, IV .i64 0)]) (H' := [(0, R7 (If .u32 ro) f1 (VBn lc) f3 (VW qs) f5 (lc.map fun b => msgS n 1 b.px b.la))]) (by repeat (first | exact trivial | refine ⟨⟨_, rfl, .inl ⟨rfl, rfl⟩⟩, ?_⟩ | refine ⟨⟨_, rfl, .inl ⟨slEq rfl tN, rfl⟩⟩, ?_⟩ | refine ⟨⟨_, rfl, .inl ⟨ivEq tX, rfl⟩⟩, ?_⟩)) (by repeat (first | exact trivial | refine ⟨ent_same rfl rfl rfl tL, ?_⟩ | refine ⟨ent_same rfl rfl (rfEq rfl tU) tL, ?_⟩ | refine ⟨ent_same rfl rfl (flEq rfl (by first | (simp; done) | (simp; omega) | (simp [encP, encW, encY, encMs, encBn, encSn]; done) | simp [maxC, minC])) trivial, ?_⟩)) rfl ?_
          exact n_out1 rfl (by rfl) rfl rfl
theorem downT_c (n : Int) (b : Bnd) : Pure Try.prog 57 [.agg (encBn b), .cellp [If .u32 n]] (Bf (decide (b.pe = n))) := by
  refine Meets.intro Try.func57 rfl (Nat.le_of_ble_eq_true rfl) fun C hC => ?_
  simp only [List.map, argEnv, Nat.reduceAdd]
  refine nK ?_
  refine s_reg rfl ?_
  refine Run.eff (dd := some 2) rfl rfl (op_box_flat rfl (Opd.tmp _ _ rfl) tC rfl) ?_
  refine Run.pure (dd := some 3) rfl rfl (op_assign rfl (Opd.const _)) ?_
  refine Run.nil (FinR.mk ?_)
  refine nK ?_
  refine s_reg rfl ?_
  refine Run.pure (dd := some 4) rfl rfl (op_fld_ptr (by decide) rfl (Opd.tmp _ _ rfl)) ?_
  refine Run.load (dd := some 5) rfl rfl (op_load1_flat rfl (Opd.tmp _ _ rfl) tH rfl) ?_
  refine Run.pure (dd := some 6) rfl rfl (op_load1_fz rfl (Opd.tmp _ _ rfl) rfl) ?_
  refine Run.pure (dd := some 7) rfl rfl (op_eql rfl (Opd.tmp _ _ rfl) (Opd.tmp _ _ rfl)) ?_
  refine Run.pure (dd := some 3) rfl rfl (op_assign rfl (Opd.tmp _ _ rfl)) ?_
  refine Run.nil (FinR.mk ?_)
  refine nK ?_
  (first | exact s_o1 hC rfl tV | exact s_o2 hC rfl tV tV | exact s_o3 hC rfl tV tV tV | exact s_o4 hC rfl tV tV tV tV | exact s_out0 hC rfl | exact s_outO hC rfl rfl rfl)
abbrev RD (f0 f1 f2 : FV) (rm : List Bnd) (ps : List Int) (f5 : FV) : Option Ob := some (.refs 7 [[.fz f0, .fz f1, .fz f2, .own 4 (rm.map encBn), .own 1 (ps.map encW), .fz f5, .own 2 []]])
theorem down_m (n : Int) (f0 f1 f2 f5 : FV) (rm : List Bnd) (ps : List Int) (hps : ascP' ps) (hn : rm.length ≤ 100000) (hm : ps.length ≤ 100000) : Meets Try.prog 39 [.ptr 0 7 0 0, IV .u32 n] 1 [(0, RD f0 f1 f2 rm ps f5)] (IV .i64 (downG rm ps n).1) [(0, R7 f0 f1 f2 (VBn (downG rm ps n).2.2) (VW (downG rm ps n).2.1) f5 [])] 1 := by
  have kb : Pure Try.prog 52 [VW ps, If .u32 n] (.tup [If .i64 (bsI n ps : Nat), Bf (ps.contains n)]) := by
    rw [← hitI_eq hps]; exact bsearchW_c ps n (by omega)
  unfold downG
  refine Meets.intro Try.func39 rfl (Nat.le_of_ble_eq_true rfl) fun C hC => ?_
  simp only [List.map, argEnv, Nat.reduceAdd]
  refine nK ?_
  refine s_reg rfl ?_
  refine Run.eff (dd := some 3) rfl rfl (op_box_flat rfl (Opd.tmp _ _ rfl) tC rfl) ?_
  refine Run.pure (dd := some 4) rfl rfl (op_assign rfl (Opd.const _)) ?_
  refine Run.nil (FinR.mk ?_)
  refine nK ?_
  refine Next.weakS [0] [3] (by rfl) (keepsN hC _ rfl) (G' := [(0, .ptr 0 7 0 0), (3, .fz (.cellp [If .u32 n]))]) (H' := [(0, RD f0 f1 f2 rm ps f5)]) (by repeat (first | exact trivial | refine ⟨⟨_, rfl, .inl ⟨rfl, rfl⟩⟩, ?_⟩ | refine ⟨⟨_, rfl, .inl ⟨slEq rfl tN, rfl⟩⟩, ?_⟩ | refine ⟨⟨_, rfl, .inl ⟨ivEq tX, rfl⟩⟩, ?_⟩ | refine ⟨⟨_, rfl, .inr ⟨_, rfl, tW⟩⟩, ?_⟩)) (by repeat (first | exact trivial | refine ⟨ent_same rfl rfl rfl tL, ?_⟩ | refine ⟨ent_same rfl rfl (rfEq rfl tU) tL, ?_⟩ | refine ⟨ent_same rfl rfl (flEq rfl (by first | (simp; done) | (simp; omega) | (simp [encP, encW, encY, encMs, encBn, encSn]; done) | simp [maxC, minC])) trivial, ?_⟩)) rfl ?_
  refine Next.take 0 0 4 rfl rfl rfl rfl ?_
  refine Next.take 0 0 3 rfl rfl rfl rfl ?_
  refine nK ?_
  refine s_draw mixed ?_
  refine Run.pure (dd := some 8) rfl rfl (op_move rfl (Opd.tmp _ _ rfl)) ?_
  refine Run.pure (dd := some 9) rfl rfl (op_nilck_ptr rfl (Opd.tmp _ _ rfl)) ?_
  refine Run.pure (dd := some 10) rfl rfl (op_fld_ptr (by decide) rfl (Opd.tmp _ _ rfl)) ?_
  refine Run.pure (dd := some 11) rfl rfl (op_fld_ptr (by decide) rfl (Opd.tmp _ _ rfl)) ?_
  refine Run.load (dd := some 12) rfl rfl (op_load1_refs rfl (Opd.tmp _ _ rfl) tH rfl) ?_
  refine Run.pure (dd := some 13) rfl rfl (op_load1_fz rfl (Opd.tmp _ _ rfl) rfl) ?_
  refine Run.load (dd := some 14) rfl rfl (op_call_lend [1] (fun _ => kb) rfl (Opd.func _) (Opds.cons _ _ _ _ (Opd.tmp _ _ rfl) (Opds.cons _ _ _ _ (Opd.tmp _ _ rfl) Opds.nil)) (by exact .cons _ _ _ _ tW (.cons _ _ _ _ tW .nil)) rfl rfl) ?_
  refine Run.pure (dd := some 7) rfl rfl (op_move rfl (Opd.tmp _ _ rfl)) ?_
  refine Run.pure (dd := some 15) rfl rfl (op_extract_fz rfl (Opd.tmp _ _ rfl) rfl) ?_
  refine Run.pure (dd := some 16) rfl rfl (op_extract_fz rfl (Opd.tmp _ _ rfl) rfl) ?_
  refine Run.pure (dd := some 5) rfl rfl (op_assign rfl (Opd.tmp _ _ rfl)) ?_
  refine Run.pure (dd := some 6) rfl rfl (op_assign rfl (Opd.tmp _ _ rfl)) ?_
  refine Run.nil (FinD.mk (by kernel_rfl) ?_)
  refine nK ?_
  refine s_reg rfl ?_
  refine Run.pure (dd := some 17) rfl rfl (op_move rfl (Opd.tmp _ _ rfl)) ?_
  refine Run.pure (dd := some 18) rfl rfl (op_not rfl (Opd.tmp _ _ rfl)) ?_
  refine Run.nil (FinR.mk ?_)
  refine nK ?_
  refine n_cond _ rfl (fun hb => ?_) (fun hb => ?_)
  · rw [if_pos hb]
    refine nK ?_
    refine s_reg rfl ?_
    refine Run.pure (dd := some 4) rfl rfl (op_assign rfl (Opd.const _)) ?_
    refine Run.nil (FinR.mk ?_)
    refine nK ?_
    refine Next.freezeCell 0 0 4 1 rfl rfl rfl rfl rfl rfl ?_
    refine Next.freezeCell 0 0 3 2 rfl rfl rfl rfl rfl rfl ?_
    refine Next.weakS [0] [] (by rfl) (keepsN hC _ rfl) (G' := [(4, IV .i64 6)]) (H' := [(0, R7 f0 f1 f2 (VBn rm) (VW ps) f5 [])]) (by repeat (first | exact trivial | refine ⟨⟨_, rfl, .inl ⟨rfl, rfl⟩⟩, ?_⟩ | refine ⟨⟨_, rfl, .inl ⟨slEq rfl tN, rfl⟩⟩, ?_⟩ | refine ⟨⟨_, rfl, .inl ⟨ivEq tX, rfl⟩⟩, ?_⟩)) (by repeat (first | exact trivial | refine ⟨ent_same rfl rfl rfl tL, ?_⟩ | refine ⟨ent_same rfl rfl (rfEq rfl tU) tL, ?_⟩ | refine ⟨ent_same rfl rfl (flEq rfl (by first | (simp; done) | (simp; omega) | (simp [encP, encW, encY, encMs, encBn, encSn]; done) | simp [maxC, minC])) trivial, ?_⟩)) rfl ?_
    exact n_out1 rfl (by rfl) rfl rfl
  · rw [if_neg (by rw [hb]; decide)]
    have hin : n ∈ ps := by simpa using hb
    have hlt := bsI_lt hps hin
    have hdb := del_bs hps hin
    have kd := deleteW_c ps 0 (bsI n ps) (bsI n ps + 1) (by omega) (by omega) (by omega)
    rw [hdb, List.replicate_zero, List.append_nil, show bsI n ps + 1 - bsI n ps = 1 by omega, show ((bsI n ps + 1 : Nat) : Int) = (bsI n ps : Int) + 1 by omega] at kd
    have hql : (ps.filter fun x => decide (x ≠ n)).length = ps.length - 1 := by rw [← hdb]; simp; omega
    rw [← hql] at kd
    have kf := deleteB_m rm (by omega) 57 [.cellp [If .u32 n]] (fun b => decide (b.pe = n)) (downT_c n)
    rw [show keepL (fun b : Bnd => decide (b.pe = n)) rm = rm.filter fun b => !decide (b.pe = n) from rfl] at kf
    generalize (rm.filter fun b => !decide (b.pe = n)) = c at *
    generalize (ps.filter fun x => decide (x ≠ n)) = qs at *
    have hk0 : bsI n ps < 200000 := by omega
    generalize bsI n ps = k at *
    have hle : (ps.map encW).length = ps.length := List.length_map _
    have hle2 : (rm.map encBn).length = rm.length := List.length_map _
    rw [← hle] at kd
    rw [← hle2] at kf
    refine nK ?_
    refine s_reg rfl ?_
    refine Run.pure (dd := some 19) rfl rfl (op_move rfl (Opd.tmp _ _ rfl)) ?_
    refine Run.pure (dd := some 20) rfl rfl (op_move rfl (Opd.tmp _ _ rfl)) ?_
    refine Run.pure (dd := some 21) rfl rfl (op_nilck_ptr rfl (Opd.tmp _ _ rfl)) ?_
    refine Run.pure (dd := some 22) rfl rfl (op_fld_ptr (by decide) rfl (Opd.tmp _ _ rfl)) ?_
    refine Run.pure (dd := some 23) rfl rfl (op_fld_ptr (by decide) rfl (Opd.tmp _ _ rfl)) ?_
    refine Run.load (dd := some 24) rfl rfl (op_load1_refs rfl (Opd.tmp _ _ rfl) tH rfl) ?_
    refine Run.pure (dd := some 25) rfl rfl (op_move rfl (Opd.tmp _ _ rfl)) ?_
    refine Run.pure (dd := some 26) rfl rfl (op_move rfl (Opd.tmp _ _ rfl)) ?_
    refine Run.pure (dd := some 27) rfl rfl (op_add rfl (Opd.tmp _ _ rfl) (Opd.const _) tI) ?_
    refine Run.eff (dd := some 28) rfl rfl (op_call (n := 1) (n' := 1) [1] (fun _ => kd) rfl (Opd.func _) (Opds.cons _ _ _ _ (Opd.tmp _ _ rfl) (Opds.cons _ _ _ _ (Opd.tmp _ _ rfl) (Opds.cons _ _ _ _ (Opd.tmp _ _ rfl) Opds.nil))) rfl rfl (Lent.of rfl rfl (by repeat (first | exact trivial | refine ⟨⟨rfl, rfl, rfl, tL⟩, ?_⟩)) rfl) rfl rfl rfl rfl rfl) ?_
    refine Run.pure (dd := some 29) rfl rfl (op_nilck_ptr rfl (Opd.tmp _ _ rfl)) ?_
    refine Run.pure (dd := some 30) rfl rfl (op_fld_ptr (by decide) rfl (Opd.tmp _ _ rfl)) ?_
    refine Run.pure (dd := some 31) rfl rfl (op_fld_ptr (by decide) rfl (Opd.tmp _ _ rfl)) ?_
    refine Run.eff (dd := none) rfl rfl (op_store_refs rfl (Opd.tmp _ _ rfl) (Opd.tmp _ _ rfl) tP rfl rfl rfl tS) ?_
    refine Run.nil (FinR.mk ?_)
    refine nK ?_
    refine Next.trim 1 qs.length rfl ?_
    refine Next.freezeCell 0 0 4 1 rfl rfl rfl rfl (by simp) rfl ?_
    have e1 : ((qs ++ List.replicate (0 + 1) zW).map encW).take qs.length = qs.map encW := by rw [← List.map_take, List.take_left]
    rw [e1]
    refine nK ?_
    refine s_reg rfl ?_
    refine Run.pure (dd := some 32) rfl rfl (op_move rfl (Opd.tmp _ _ rfl)) ?_
    refine Run.pure (dd := some 33) rfl rfl (op_move rfl (Opd.tmp _ _ rfl)) ?_
    refine Run.pure (dd := some 34) rfl rfl (op_nilck_ptr rfl (Opd.tmp _ _ rfl)) ?_
    refine Run.pure (dd := some 35) rfl rfl (op_fld_ptr (by decide) rfl (Opd.tmp _ _ rfl)) ?_
    refine Run.pure (dd := some 36) rfl rfl (op_fld_ptr (by decide) rfl (Opd.tmp _ _ rfl)) ?_
    refine Run.load (dd := some 37) rfl rfl (op_load1_refs rfl (Opd.tmp _ _ rfl) tH rfl) ?_
    refine Run.pure (dd := some 38) rfl rfl (op_makeFuncF (fs := [.cellp [If .u32 n]]) rfl (Opds.cons _ _ _ _ (Opd.tmp _ _ rfl) Opds.nil)) ?_
    refine Run.eff (dd := some 39) rfl rfl (op_call (n := 1) (n' := 1) [2] (fun _ => kf) rfl (Opd.func _) (Opds.cons _ _ _ _ (Opd.tmp _ _ rfl) (Opds.cons _ _ _ _ (Opd.tmp _ _ rfl) Opds.nil)) rfl rfl (Lent.of rfl rfl (by repeat (first | exact trivial | refine ⟨⟨rfl, rfl, rfl, tL⟩, ?_⟩)) rfl) rfl rfl rfl rfl rfl) ?_
    refine Run.pure (dd := some 40) rfl rfl (op_nilck_ptr rfl (Opd.tmp _ _ rfl)) ?_
    refine Run.pure (dd := some 41) rfl rfl (op_fld_ptr (by decide) rfl (Opd.tmp _ _ rfl)) ?_
    refine Run.pure (dd := some 42) rfl rfl (op_fld_ptr (by decide) rfl (Opd.tmp _ _ rfl)) ?_
    refine Run.eff (dd := none) rfl rfl (op_store_refs rfl (Opd.tmp _ _ rfl) (Opd.tmp _ _ rfl) tP rfl rfl rfl tS) ?_
    refine Run.nil (FinR.mk ?_)
    refine nK ?_
    refine s_reg rfl ?_
    refine Run.pure (dd := some 4) rfl rfl (op_assign rfl (Opd.const _)) ?_
    refine Run.nil (FinR.mk ?_)
    refine nK ?_
    refine Next.freezeCell 0 0 3 2 rfl rfl rfl rfl (List.length_map _) rfl ?_
    refine Next.weakS [0] [] (by rfl) (keepsN hC _ rfl) (G' := [(4, IV .i64 0)]) (H' := [(0, R7 f0 f1 f2 (VBn c) (VW qs) f5 [])]) (by repeat (first | exact trivial | refine ⟨⟨_, rfl, .inl ⟨rfl, rfl⟩⟩, ?_⟩ | refine ⟨⟨_, rfl, .inl ⟨slEq rfl tN, rfl⟩⟩, ?_⟩ | refine ⟨⟨_, rfl, .inl ⟨ivEq tX, rfl⟩⟩, ?_⟩)) (by repeat (first | exact trivial | refine ⟨ent_same rfl rfl rfl tL, ?_⟩ | refine ⟨ent_same rfl rfl (rfEq rfl tU) tL, ?_⟩ | refine ⟨ent_same rfl rfl (flEq rfl (by first | (simp; done) | (simp; omega) | (simp [encP, encW, encY, encMs, encBn, encSn]; done) | simp [maxC, minC])) trivial, ?_⟩)) rfl ?_
    exact n_out1 rfl (by rfl) rfl rfl
theorem data_m (ro n : Int) (d : List Int) (f1 f5 : FV) (lc rm : List Bnd) (ps : List Int) (hps : ascP' ps) (hd : ∀ x ∈ d, 0 ≤ x ∧ x < 256) (hdl : d.length ≤ 9223372036854775807) (hla : ∀ b ∈ lc, inr .i64 b.la) (hl : lc.length ≤ 100000) (hn : rm.length ≤ 100000) (hm : ps.length ≤ 100000) : Meets Try.prog 40 [.ptr 0 7 0 0, IV .u32 n, .fz (VY d)] 1 [(0, R7 (If .u32 ro) f1 (VBn lc) (VBn rm) (VW ps) f5 [])] (IV .i64 (dataG ro lc rm ps n d).1) [(0, R7 (If .u32 ro) f1 (VBn lc) (VBn (dataG ro lc rm ps n d).2.1) (VW ps) f5 (dataG ro lc rm ps n d).2.2)] 1 := by
  have kb : Pure Try.prog 52 [VW ps, If .u32 n] (.tup [If .i64 (bsI n ps : Nat), Bf (ps.contains n)]) := by
    rw [← hitI_eq hps]; exact bsearchW_c ps n (by omega)
  have kd := decode_c d hd hdl
  obtain ⟨hok, _⟩ := decode_ok hd
  unfold dataG
  refine Meets.intro Try.func40 rfl (Nat.le_of_ble_eq_true rfl) fun C hC => ?_
  simp only [List.map, argEnv, Nat.reduceAdd]
  refine nK ?_
  refine s_reg rfl ?_
  refine Run.pure (dd := some 6) rfl rfl (op_assign rfl (Opd.const _)) ?_
  refine Run.nil (FinR.mk ?_)
  refine nK ?_
  refine s_reg rfl ?_
  refine Run.pure (dd := some 16) rfl rfl (op_move rfl (Opd.tmp _ _ rfl)) ?_
  refine Run.pure (dd := some 17) rfl rfl (op_nilck_ptr rfl (Opd.tmp _ _ rfl)) ?_
  refine Run.pure (dd := some 18) rfl rfl (op_fld_ptr (by decide) rfl (Opd.tmp _ _ rfl)) ?_
  refine Run.pure (dd := some 19) rfl rfl (op_fld_ptr (by decide) rfl (Opd.tmp _ _ rfl)) ?_
  refine Run.load (dd := some 20) rfl rfl (op_load1_refs rfl (Opd.tmp _ _ rfl) tH rfl) ?_
  refine Run.pure (dd := some 21) rfl rfl (op_move rfl (Opd.tmp _ _ rfl)) ?_
  refine Run.pure (dd := some 22) rfl rfl (op_call_pure (fun _ => kb) rfl (Opd.func _) (Opds.cons _ _ _ _ (Opd.tmp _ _ rfl) (Opds.cons _ _ _ _ (Opd.tmp _ _ rfl) Opds.nil))) ?_
  refine Run.pure (dd := some 15) rfl rfl (op_move rfl (Opd.tmp _ _ rfl)) ?_
  refine Run.pure (dd := some 23) rfl rfl (op_extract_fz rfl (Opd.tmp _ _ rfl) rfl) ?_
  refine Run.pure (dd := some 24) rfl rfl (op_extract_fz rfl (Opd.tmp _ _ rfl) rfl) ?_
  refine Run.pure (dd := some 7) rfl rfl (op_assign rfl (Opd.tmp _ _ rfl)) ?_
  refine Run.pure (dd := some 8) rfl rfl (op_assign rfl (Opd.tmp _ _ rfl)) ?_
  refine Run.nil (FinR.mk ?_)
  refine nK ?_
  refine s_reg rfl ?_
  refine Run.pure (dd := some 25) rfl rfl (op_move rfl (Opd.tmp _ _ rfl)) ?_
  refine Run.pure (dd := some 26) rfl rfl (op_not rfl (Opd.tmp _ _ rfl)) ?_
  refine Run.nil (FinR.mk ?_)
  refine nK ?_
  refine n_cond _ rfl (fun hb => ?_) (fun hb => ?_)
  · rw [if_pos hb]
    refine nK ?_
    refine s_reg rfl ?_
    refine Run.pure (dd := some 6) rfl rfl (op_assign rfl (Opd.const _)) ?_
    refine Run.nil (FinR.mk ?_)
    refine nK ?_
    refine Next.weakS [0] [] (by rfl) (keepsN hC _ rfl) (G' := [(6, IV .i64 6)]) (H' := [(0, R7 (If .u32 ro) f1 (VBn lc) (VBn rm) (VW ps) f5 [])]) (by repeat (first | exact trivial | refine ⟨⟨_, rfl, .inl ⟨rfl, rfl⟩⟩, ?_⟩ | refine ⟨⟨_, rfl, .inl ⟨slEq rfl tN, rfl⟩⟩, ?_⟩ | refine ⟨⟨_, rfl, .inl ⟨ivEq tX, rfl⟩⟩, ?_⟩)) (by repeat (first | exact trivial | refine ⟨ent_same rfl rfl rfl tL, ?_⟩ | refine ⟨ent_same rfl rfl (rfEq rfl tU) tL, ?_⟩ | refine ⟨ent_same rfl rfl (flEq rfl (by first | (simp; done) | (simp; omega) | (simp [encP, encW, encY, encMs, encBn, encSn]; done) | simp [maxC, minC])) trivial, ?_⟩)) rfl ?_
    exact n_out1 rfl (by rfl) rfl rfl
  · rw [if_neg (by rw [hb]; decide)]
    generalize decodeF d = r at *
    obtain ⟨m, e⟩ := r
    dsimp only at hok kd ⊢
    refine nK ?_
    refine s_reg rfl ?_
    refine Run.pure (dd := some 28) rfl rfl (op_move rfl (Opd.tmp _ _ rfl)) ?_
    refine Run.pure (dd := some 29) rfl rfl (op_call_pure (fun _ => kd) rfl (Opd.func _) (Opds.cons _ _ _ _ (Opd.tmp _ _ rfl) Opds.nil)) ?_
    refine Run.pure (dd := some 27) rfl rfl (op_move rfl (Opd.tmp _ _ rfl)) ?_
    refine Run.pure (dd := some 30) rfl rfl (op_extract_fz rfl (Opd.tmp _ _ rfl) rfl) ?_
    refine Run.pure (dd := some 31) rfl rfl (op_extract_fz rfl (Opd.tmp _ _ rfl) rfl) ?_
    refine Run.eff (dd := some 9) rfl rfl (op_alloc rfl rfl rfl rfl) ?_
    refine Run.eff (dd := none) rfl rfl (op_store_flat rfl (Opd.tmp _ _ rfl) (Opd.tmp _ _ rfl) tC rfl rfl (by first | rfl | assumption) tS) ?_
    refine Run.pure (dd := some 10) rfl rfl (op_assign rfl (Opd.tmp _ _ rfl)) ?_
    refine Run.nil (FinR.mk ?_)
    refine nK ?_
    refine s_reg rfl ?_
    refine Run.pure (dd := some 32) rfl rfl (op_move rfl (Opd.tmp _ _ rfl)) ?_
    refine Run.pure (dd := some 33) rfl rfl (op_neq rfl (Opd.tmp _ _ rfl) (Opd.const _)) ?_
    refine Run.nil (FinR.mk ?_)
    refine nK ?_
    refine n_cond _ rfl (fun hb => ?_) (fun hb => ?_)
    · rw [if_pos (by simpa using hb)]
      refine nK ?_
      refine s_reg rfl ?_
      refine Run.pure (dd := some 34) rfl rfl (op_move rfl (Opd.tmp _ _ rfl)) ?_
      refine Run.pure (dd := some 6) rfl rfl (op_assign rfl (Opd.tmp _ _ rfl)) ?_
      refine Run.nil (FinR.mk ?_)
      refine nK ?_
      refine Next.weakS [0] [] (by rfl) (keepsN hC _ rfl) (G' := [(6, IV .i64 e)]) (H' := [(0, R7 (If .u32 ro) f1 (VBn lc) (VBn rm) (VW ps) f5 [])]) (by repeat (first | exact trivial | refine ⟨⟨_, rfl, .inl ⟨rfl, rfl⟩⟩, ?_⟩ | refine ⟨⟨_, rfl, .inl ⟨slEq rfl tN, rfl⟩⟩, ?_⟩ | refine ⟨⟨_, rfl, .inl ⟨ivEq tX, rfl⟩⟩, ?_⟩)) (by repeat (first | exact trivial | refine ⟨ent_same rfl rfl rfl tL, ?_⟩ | refine ⟨ent_same rfl rfl (rfEq rfl tU) tL, ?_⟩ | refine ⟨ent_same rfl rfl (flEq rfl (by first | (simp; done) | (simp; omega) | (simp [encP, encW, encY, encMs, encBn, encSn]; done) | simp [maxC, minC])) trivial, ?_⟩)) rfl ?_
      exact n_out1 rfl (by rfl) rfl rfl
    · rw [if_neg (by simpa using hb)]
      have k1 := bind_c rm ⟨m.px, n, m.la⟩ (by omega)
      have k2 := find_c rm m.px n (by omega)
      have k3 := unbind_c rm m.px n (by omega)
      have k4 := find_c lc m.px ro (by omega)
      refine nK ?_
      refine s_reg rfl ?_
      refine Run.pure (dd := some 35) rfl rfl (op_fld_ptr (by decide) rfl (Opd.tmp _ _ rfl)) ?_
      refine Run.load (dd := some 36) rfl rfl (op_load1_flat rfl (Opd.tmp _ _ rfl) tH rfl) ?_
      refine Run.nil (FinR.mk ?_)
      refine nK ?_
      refine s_reg rfl ?_
      refine Run.pure (dd := some 38) rfl rfl (op_eql rfl (Opd.tmp _ _ rfl) (Opd.const _)) ?_
      refine Run.pure (dd := some 37) rfl rfl (op_assign rfl (Opd.tmp _ _ rfl)) ?_
      refine Run.nil (FinR.mk ?_)
      refine nK ?_
      refine n_cond _ rfl (fun hb => ?_) (fun hb => ?_)
      · rw [if_pos (by simpa using hb)]
        refine nK ?_
        refine s_draw mixed ?_
        refine Run.pure (dd := some 39) rfl rfl (op_move rfl (Opd.tmp _ _ rfl)) ?_
        refine Run.pure (dd := some 40) rfl rfl (op_move rfl (Opd.tmp _ _ rfl)) ?_
        refine Run.pure (dd := some 41) rfl rfl (op_nilck_ptr rfl (Opd.tmp _ _ rfl)) ?_
        refine Run.pure (dd := some 42) rfl rfl (op_fld_ptr (by decide) rfl (Opd.tmp _ _ rfl)) ?_
        refine Run.pure (dd := some 43) rfl rfl (op_fld_ptr (by decide) rfl (Opd.tmp _ _ rfl)) ?_
        refine Run.load (dd := some 44) rfl rfl (op_load1_refs rfl (Opd.tmp _ _ rfl) tH rfl) ?_
        refine Run.pure (dd := some 45) rfl rfl (op_fld_ptr (by decide) rfl (Opd.tmp _ _ rfl)) ?_
        refine Run.load (dd := some 46) rfl rfl (op_loadn_flat rfl (Opd.tmp _ _ rfl) tH tR tR) ?_
        refine Run.pure (dd := some 47) rfl rfl (op_move rfl (Opd.tmp _ _ rfl)) ?_
        refine Run.pure (dd := some 48) rfl rfl (op_fld_ptr (by decide) rfl (Opd.tmp _ _ rfl)) ?_
        refine Run.load (dd := some 49) rfl rfl (op_load1_flat rfl (Opd.tmp _ _ rfl) tH rfl) ?_
        refine Run.pure (dd := some 50) rfl rfl (op_build rfl rfl rfl (FillF.cons _ _ _ _ _ _ _ _ _ _ (by rfl) (Opd.tmp _ _ rfl) tC (by rfl) tR (FillF.cons _ _ _ _ _ _ _ _ _ _ (by rfl) (Opd.tmp _ _ rfl) tC (by rfl) tR (FillF.cons _ _ _ _ _ _ _ _ _ _ (by rfl) (Opd.tmp _ _ rfl) tC (by rfl) tR (FillF.nil _))))) ?_
        refine Run.pure (dd := some 51) rfl rfl (op_call_pure (fun _ => k1) rfl (Opd.func _) (Opds.cons _ _ _ _ (Opd.tmp _ _ rfl) (Opds.cons _ _ _ _ (Opd.tmp _ _ rfl) Opds.nil))) ?_
        refine Run.pure (dd := some 52) rfl rfl (op_nilck_ptr rfl (Opd.tmp _ _ rfl)) ?_
        refine Run.pure (dd := some 53) rfl rfl (op_fld_ptr (by decide) rfl (Opd.tmp _ _ rfl)) ?_
        refine Run.pure (dd := some 54) rfl rfl (op_fld_ptr (by decide) rfl (Opd.tmp _ _ rfl)) ?_
        refine Run.effW (dd := none) rfl rfl (op_store_refs rfl (Opd.tmp _ _ rfl) (Opd.tmp _ _ rfl) tP rfl rfl rfl tS) (by first | exact ext_call | exact tE) ?_
        refine Run.nil (FinD.mk (by kernel_rfl) ?_)
        refine nK ?_
        refine s_reg rfl ?_
        refine Run.pure (dd := some 6) rfl rfl (op_assign rfl (Opd.const _)) ?_
        refine Run.nil (FinR.mk ?_)
        refine nK ?_
        refine Next.weakS [0] [] (by rfl) (keepsN hC _ rfl) (G' := [(6, IV .i64 0)]) (H' := [(0, R7 (If .u32 ro) f1 (VBn lc) (VBn (bindL rm ⟨m.px, n, m.la⟩)) (VW ps) f5 [])]) (by repeat (first | exact trivial | refine ⟨⟨_, rfl, .inl ⟨rfl, rfl⟩⟩, ?_⟩ | refine ⟨⟨_, rfl, .inl ⟨slEq rfl tN, rfl⟩⟩, ?_⟩ | refine ⟨⟨_, rfl, .inl ⟨ivEq tX, rfl⟩⟩, ?_⟩)) (by repeat (first | exact trivial | refine ⟨ent_same rfl rfl rfl tL, ?_⟩ | refine ⟨ent_same rfl rfl (rfEq rfl tU) tL, ?_⟩ | refine ⟨ent_same rfl rfl (flEq rfl (by first | (simp; done) | (simp; omega) | (simp [encP, encW, encY, encMs, encBn, encSn]; done) | simp [maxC, minC])) trivial, ?_⟩)) rfl ?_
        exact n_out1 rfl (by rfl) rfl rfl
      · rw [if_neg (by simpa using hb)]
        refine nK ?_
        refine s_reg rfl ?_
        refine Run.pure (dd := some 56) rfl rfl (op_eql rfl (Opd.tmp _ _ rfl) (Opd.const _)) ?_
        refine Run.pure (dd := some 55) rfl rfl (op_assign rfl (Opd.tmp _ _ rfl)) ?_
        refine Run.nil (FinR.mk ?_)
        refine nK ?_
        refine n_cond _ rfl (fun hb => ?_) (fun hb => ?_)
        · rw [if_pos (by simpa using hb)]
          generalize findB rm m.px n = q at *
          refine nK ?_
          refine s_draw mixed ?_
          refine Run.pure (dd := some 58) rfl rfl (op_move rfl (Opd.tmp _ _ rfl)) ?_
          refine Run.pure (dd := some 59) rfl rfl (op_nilck_ptr rfl (Opd.tmp _ _ rfl)) ?_
          refine Run.pure (dd := some 60) rfl rfl (op_fld_ptr (by decide) rfl (Opd.tmp _ _ rfl)) ?_
          refine Run.pure (dd := some 61) rfl rfl (op_fld_ptr (by decide) rfl (Opd.tmp _ _ rfl)) ?_
          refine Run.load (dd := some 62) rfl rfl (op_load1_refs rfl (Opd.tmp _ _ rfl) tH rfl) ?_
          refine Run.pure (dd := some 63) rfl rfl (op_fld_ptr (by decide) rfl (Opd.tmp _ _ rfl)) ?_
          refine Run.load (dd := some 64) rfl rfl (op_loadn_flat rfl (Opd.tmp _ _ rfl) tH tR tR) ?_
          refine Run.pure (dd := some 65) rfl rfl (op_move rfl (Opd.tmp _ _ rfl)) ?_
          refine Run.pure (dd := some 66) rfl rfl (op_call_pure (fun _ => k2) rfl (Opd.func _) (Opds.cons _ _ _ _ (Opd.tmp _ _ rfl) (Opds.cons _ _ _ _ (Opd.tmp _ _ rfl) (Opds.cons _ _ _ _ (Opd.tmp _ _ rfl) Opds.nil)))) ?_
          refine Run.pure (dd := some 57) rfl rfl (op_move rfl (Opd.tmp _ _ rfl)) ?_
          refine Run.pure (dd := some 67) rfl rfl (op_extract_fz rfl (Opd.tmp _ _ rfl) rfl) ?_
          refine Run.pure (dd := some 68) rfl rfl (op_extract_fz rfl (Opd.tmp _ _ rfl) rfl) ?_
          refine Run.pure (dd := some 11) rfl rfl (op_assign rfl (Opd.tmp _ _ rfl)) ?_
          refine Run.pure (dd := some 12) rfl rfl (op_assign rfl (Opd.tmp _ _ rfl)) ?_
          refine Run.nil (FinD.mk (by kernel_rfl) ?_)
          refine nK ?_
          refine s_reg rfl ?_
          refine Run.pure (dd := some 69) rfl rfl (op_move rfl (Opd.tmp _ _ rfl)) ?_
          refine Run.pure (dd := some 70) rfl rfl (op_move rfl (Opd.tmp _ _ rfl)) ?_
          refine Run.pureG (dd := some 71) rfl rfl rfl tG (op_move rfl (Opd.tmp _ _ rfl)) ?_
          refine Run.pureG (dd := some 72) rfl rfl rfl tG (op_fld_ptr (by decide) rfl (Opd.tmp _ _ rfl)) ?_
          refine Run.loadG (dd := some 73) rfl rfl rfl tG (op_load1_flat rfl (Opd.topt _ _ _ rfl tO) tH rfl) ?_
          refine Run.pureG (dd := some 74) rfl rfl rfl tG (op_eql rfl (Opd.topt _ _ _ rfl tO) (Opd.topt _ _ _ rfl tO)) ?_
          refine Run.pure (dd := some 75) rfl rfl (op_pick_and rfl (Opd.tmp _ _ rfl) (Opd.topt _ _ _ rfl tO)) ?_
          refine Run.nil (FinR.mk ?_)
          refine nK ?_
          refine n_cond _ rfl (fun hb => ?_) (fun hb => ?_)
          · rw [if_pos hb]
            have ks := send_m (If .u32 ro) f1 (VBn lc) (VBn (unbL rm m.px n)) (VW ps) f5 [] 3 m.la m.px [n] ⟨by simp [inr], hok.px, hok.la⟩ (by simp)
            refine nK ?_
            refine s_draw mixed ?_
            refine Run.pure (dd := some 77) rfl rfl (op_move rfl (Opd.tmp _ _ rfl)) ?_
            refine Run.pure (dd := some 78) rfl rfl (op_move rfl (Opd.tmp _ _ rfl)) ?_
            refine Run.pure (dd := some 79) rfl rfl (op_nilck_ptr rfl (Opd.tmp _ _ rfl)) ?_
            refine Run.pure (dd := some 80) rfl rfl (op_fld_ptr (by decide) rfl (Opd.tmp _ _ rfl)) ?_
            refine Run.pure (dd := some 81) rfl rfl (op_fld_ptr (by decide) rfl (Opd.tmp _ _ rfl)) ?_
            refine Run.load (dd := some 82) rfl rfl (op_load1_refs rfl (Opd.tmp _ _ rfl) tH rfl) ?_
            refine Run.pure (dd := some 83) rfl rfl (op_fld_ptr (by decide) rfl (Opd.tmp _ _ rfl)) ?_
            refine Run.load (dd := some 84) rfl rfl (op_loadn_flat rfl (Opd.tmp _ _ rfl) tH tR tR) ?_
            refine Run.pure (dd := some 85) rfl rfl (op_move rfl (Opd.tmp _ _ rfl)) ?_
            refine Run.pure (dd := some 86) rfl rfl (op_call_pure (fun _ => k3) rfl (Opd.func _) (Opds.cons _ _ _ _ (Opd.tmp _ _ rfl) (Opds.cons _ _ _ _ (Opd.tmp _ _ rfl) (Opds.cons _ _ _ _ (Opd.tmp _ _ rfl) Opds.nil)))) ?_
            refine Run.pure (dd := some 76) rfl rfl (op_move rfl (Opd.tmp _ _ rfl)) ?_
            refine Run.pure (dd := some 87) rfl rfl (op_extract_fz rfl (Opd.tmp _ _ rfl) rfl) ?_
            refine Run.pure (dd := some 88) rfl rfl (op_extract_fz rfl (Opd.tmp _ _ rfl) rfl) ?_
            refine Run.pure (dd := some 89) rfl rfl (op_nilck_ptr rfl (Opd.tmp _ _ rfl)) ?_
            refine Run.pure (dd := some 90) rfl rfl (op_fld_ptr (by decide) rfl (Opd.tmp _ _ rfl)) ?_
            refine Run.pure (dd := some 91) rfl rfl (op_fld_ptr (by decide) rfl (Opd.tmp _ _ rfl)) ?_
            refine Run.effW (dd := none) rfl rfl (op_store_refs rfl (Opd.tmp _ _ rfl) (Opd.tmp _ _ rfl) tP rfl rfl rfl tS) (by first | exact ext_call | exact tE) ?_
            refine Run.nil (FinD.mk (by kernel_rfl) ?_)
            refine nK ?_
            refine s_reg rfl ?_
            refine Run.pure (dd := some 92) rfl rfl (op_move rfl (Opd.tmp _ _ rfl)) ?_
            refine Run.pure (dd := some 93) rfl rfl (op_fld_ptr (by decide) rfl (Opd.tmp _ _ rfl)) ?_
            refine Run.load (dd := some 94) rfl rfl (op_loadn_flat rfl (Opd.tmp _ _ rfl) tH tR tR) ?_
            refine Run.pure (dd := some 95) rfl rfl (op_fld_ptr (by decide) rfl (Opd.tmp _ _ rfl)) ?_
            refine Run.load (dd := some 96) rfl rfl (op_load1_flat rfl (Opd.tmp _ _ rfl) tH rfl) ?_
            refine Run.pure (dd := some 97) rfl rfl (op_move rfl (Opd.tmp _ _ rfl)) ?_
            refine Run.pure (dd := some 98) rfl rfl (op_buildSlice_fz rfl (RowsF.cons _ _ _ _ _ _ (Opd.tmp _ _ rfl) tC (by rfl) (RowsF.nil _)) rfl rfl) ?_
            refine Run.eff (dd := some 99) rfl rfl (op_call (n := 1) (n' := 1) [0] (fun _ => ks) rfl (Opd.func _) (Opds.cons _ _ _ _ (Opd.tmp _ _ rfl) (Opds.cons _ _ _ _ (Opd.const _) (Opds.cons _ _ _ _ (Opd.tmp _ _ rfl) (Opds.cons _ _ _ _ (Opd.tmp _ _ rfl) (Opds.cons _ _ _ _ (Opd.tmp _ _ rfl) Opds.nil))))) rfl rfl (Lent.of rfl rfl (by repeat (first | exact trivial | refine ⟨⟨rfl, rfl, rfl, tL⟩, ?_⟩)) rfl) rfl rfl rfl rfl rfl) ?_
            refine Run.nil (FinR.mk ?_)
            refine nK ?_
            refine s_reg rfl ?_
            refine Run.pure (dd := some 6) rfl rfl (op_assign rfl (Opd.const _)) ?_
            refine Run.nil (FinR.mk ?_)
            refine nK ?_
            refine Next.weakS [0] [] (by rfl) (keepsN hC _ rfl) (G' := [(6, IV .i64 0)]) (H' := [(0, R7 (If .u32 ro) f1 (VBn lc) (VBn (unbL rm m.px n)) (VW ps) f5 [msgS n 3 m.px m.la])]) (by repeat (first | exact trivial | refine ⟨⟨_, rfl, .inl ⟨rfl, rfl⟩⟩, ?_⟩ | refine ⟨⟨_, rfl, .inl ⟨slEq rfl tN, rfl⟩⟩, ?_⟩ | refine ⟨⟨_, rfl, .inl ⟨ivEq tX, rfl⟩⟩, ?_⟩)) (by repeat (first | exact trivial | refine ⟨ent_same rfl rfl rfl tL, ?_⟩ | refine ⟨ent_same rfl rfl (rfEq rfl tU) tL, ?_⟩ | refine ⟨ent_same rfl rfl (flEq rfl (by first | (simp; done) | (simp; omega) | (simp [encP, encW, encY, encMs, encBn, encSn]; done) | simp [maxC, minC])) trivial, ?_⟩)) rfl ?_
            exact n_out1 rfl (by rfl) rfl rfl
          · rw [if_neg (by rw [hb]; decide)]
            refine nK ?_
            refine s_reg rfl ?_
            refine Run.pure (dd := some 6) rfl rfl (op_assign rfl (Opd.const _)) ?_
            refine Run.nil (FinR.mk ?_)
            refine nK ?_
            refine Next.weakS [0] [] (by rfl) (keepsN hC _ rfl) (G' := [(6, IV .i64 0)]) (H' := [(0, R7 (If .u32 ro) f1 (VBn lc) (VBn rm) (VW ps) f5 [])]) (by repeat (first | exact trivial | refine ⟨⟨_, rfl, .inl ⟨rfl, rfl⟩⟩, ?_⟩ | refine ⟨⟨_, rfl, .inl ⟨slEq rfl tN, rfl⟩⟩, ?_⟩ | refine ⟨⟨_, rfl, .inl ⟨ivEq tX, rfl⟩⟩, ?_⟩)) (by repeat (first | exact trivial | refine ⟨ent_same rfl rfl rfl tL, ?_⟩ | refine ⟨ent_same rfl rfl (rfEq rfl tU) tL, ?_⟩ | refine ⟨ent_same rfl rfl (flEq rfl (by first | (simp; done) | (simp; omega) | (simp [encP, encW, encY, encMs, encBn, encSn]; done) | simp [maxC, minC])) trivial, ?_⟩)) rfl ?_
            exact n_out1 rfl (by rfl) rfl rfl
        · rw [if_neg (by simpa using hb)]
          refine nK ?_
          refine s_reg rfl ?_
          refine Run.pure (dd := some 101) rfl rfl (op_eql rfl (Opd.tmp _ _ rfl) (Opd.const _)) ?_
          refine Run.pure (dd := some 100) rfl rfl (op_assign rfl (Opd.tmp _ _ rfl)) ?_
          refine Run.nil (FinR.mk ?_)
          refine nK ?_
          refine n_cond _ rfl (fun hb => ?_) (fun hb => ?_)
          · rw [if_pos (by simpa using hb)]
            have hfi : inr .i64 ((findB lc m.px ro).getD 0) := by
              unfold findB
              cases hf : lc.find? (isBn m.px ro) with
              | none => simp [inr]
              | some b => exact hla b (List.mem_of_find?_eq_some hf)
            generalize findB lc m.px ro = q at *
            refine nK ?_
            refine s_draw mixed ?_
            refine Run.pure (dd := some 103) rfl rfl (op_move rfl (Opd.tmp _ _ rfl)) ?_
            refine Run.pure (dd := some 104) rfl rfl (op_nilck_ptr rfl (Opd.tmp _ _ rfl)) ?_
            refine Run.pure (dd := some 105) rfl rfl (op_fld_ptr (by decide) rfl (Opd.tmp _ _ rfl)) ?_
            refine Run.pure (dd := some 106) rfl rfl (op_fld_ptr (by decide) rfl (Opd.tmp _ _ rfl)) ?_
            refine Run.load (dd := some 107) rfl rfl (op_load1_refs rfl (Opd.tmp _ _ rfl) tH rfl) ?_
            refine Run.pure (dd := some 108) rfl rfl (op_fld_ptr (by decide) rfl (Opd.tmp _ _ rfl)) ?_
            refine Run.load (dd := some 109) rfl rfl (op_loadn_flat rfl (Opd.tmp _ _ rfl) tH tR tR) ?_
            refine Run.pure (dd := some 110) rfl rfl (op_move rfl (Opd.tmp _ _ rfl)) ?_
            refine Run.pure (dd := some 111) rfl rfl (op_nilck_ptr rfl (Opd.tmp _ _ rfl)) ?_
            refine Run.pure (dd := some 112) rfl rfl (op_fld_ptr (by decide) rfl (Opd.tmp _ _ rfl)) ?_
            refine Run.pure (dd := some 113) rfl rfl (op_fld_ptr (by decide) rfl (Opd.tmp _ _ rfl)) ?_
            refine Run.load (dd := some 114) rfl rfl (op_load1_refs rfl (Opd.tmp _ _ rfl) tH rfl) ?_
            refine Run.pure (dd := some 115) rfl rfl (op_call_pure (fun _ => k4) rfl (Opd.func _) (Opds.cons _ _ _ _ (Opd.tmp _ _ rfl) (Opds.cons _ _ _ _ (Opd.tmp _ _ rfl) (Opds.cons _ _ _ _ (Opd.tmp _ _ rfl) Opds.nil)))) ?_
            refine Run.pure (dd := some 102) rfl rfl (op_move rfl (Opd.tmp _ _ rfl)) ?_
            refine Run.pure (dd := some 116) rfl rfl (op_extract_fz rfl (Opd.tmp _ _ rfl) rfl) ?_
            refine Run.pure (dd := some 117) rfl rfl (op_extract_fz rfl (Opd.tmp _ _ rfl) rfl) ?_
            refine Run.pure (dd := some 13) rfl rfl (op_assign rfl (Opd.tmp _ _ rfl)) ?_
            refine Run.pure (dd := some 14) rfl rfl (op_assign rfl (Opd.tmp _ _ rfl)) ?_
            refine Run.nil (FinD.mk (by kernel_rfl) ?_)
            refine nK ?_
            refine s_reg rfl ?_
            refine Run.pure (dd := some 118) rfl rfl (op_move rfl (Opd.tmp _ _ rfl)) ?_
            refine Run.nil (FinR.mk ?_)
            refine nK ?_
            refine n_cond _ rfl (fun hb => ?_) (fun hb => ?_)
            · rw [if_pos hb]
              have ks := send_m (If .u32 ro) f1 (VBn lc) (VBn rm) (VW ps) f5 [] 1 (q.getD 0) m.px [n] ⟨by simp [inr], hok.px, hfi⟩ (by simp)
              refine nK ?_
              refine s_reg rfl ?_
              refine Run.pure (dd := some 119) rfl rfl (op_move rfl (Opd.tmp _ _ rfl)) ?_
              refine Run.pure (dd := some 120) rfl rfl (op_fld_ptr (by decide) rfl (Opd.tmp _ _ rfl)) ?_
              refine Run.load (dd := some 121) rfl rfl (op_loadn_flat rfl (Opd.tmp _ _ rfl) tH tR tR) ?_
              refine Run.pure (dd := some 122) rfl rfl (op_move rfl (Opd.tmp _ _ rfl)) ?_
              refine Run.pure (dd := some 123) rfl rfl (op_move rfl (Opd.tmp _ _ rfl)) ?_
              refine Run.pure (dd := some 124) rfl rfl (op_buildSlice_fz rfl (RowsF.cons _ _ _ _ _ _ (Opd.tmp _ _ rfl) tC (by rfl) (RowsF.nil _)) rfl rfl) ?_
              refine Run.eff (dd := some 125) rfl rfl (op_call (n := 1) (n' := 1) [0] (fun _ => ks) rfl (Opd.func _) (Opds.cons _ _ _ _ (Opd.tmp _ _ rfl) (Opds.cons _ _ _ _ (Opd.const _) (Opds.cons _ _ _ _ (Opd.tmp _ _ rfl) (Opds.cons _ _ _ _ (Opd.tmp _ _ rfl) (Opds.cons _ _ _ _ (Opd.tmp _ _ rfl) Opds.nil))))) rfl rfl (Lent.of rfl rfl (by repeat (first | exact trivial | refine ⟨⟨rfl, rfl, rfl, tL⟩, ?_⟩)) rfl) rfl rfl rfl rfl rfl) ?_
              refine Run.nil (FinR.mk ?_)
              refine nK ?_
              refine s_reg rfl ?_
              refine Run.pure (dd := some 6) rfl rfl (op_assign rfl (Opd.const _)) ?_
              refine Run.nil (FinR.mk ?_)
              refine nK ?_
              refine Next.weakS [0] [] (by rfl) (keepsN hC _ rfl) (G' := [(6, IV .i64 0)]) (H' := [(0, R7 (If .u32 ro) f1 (VBn lc) (VBn rm) (VW ps) f5 [msgS n 1 m.px (q.getD 0)])]) (by repeat (first | exact trivial | refine ⟨⟨_, rfl, .inl ⟨rfl, rfl⟩⟩, ?_⟩ | refine ⟨⟨_, rfl, .inl ⟨slEq rfl tN, rfl⟩⟩, ?_⟩ | refine ⟨⟨_, rfl, .inl ⟨ivEq tX, rfl⟩⟩, ?_⟩)) (by repeat (first | exact trivial | refine ⟨ent_same rfl rfl rfl tL, ?_⟩ | refine ⟨ent_same rfl rfl (rfEq rfl tU) tL, ?_⟩ | refine ⟨ent_same rfl rfl (flEq rfl (by first | (simp; done) | (simp; omega) | (simp [encP, encW, encY, encMs, encBn, encSn]; done) | simp [maxC, minC])) trivial, ?_⟩)) rfl ?_
              exact n_out1 rfl (by rfl) rfl rfl
            · rw [if_neg (by rw [hb]; decide)]
              refine nK ?_
              refine s_reg rfl ?_
              refine Run.pure (dd := some 6) rfl rfl (op_assign rfl (Opd.const _)) ?_
              refine Run.nil (FinR.mk ?_)
              refine nK ?_
              refine Next.weakS [0] [] (by rfl) (keepsN hC _ rfl) (G' := [(6, IV .i64 0)]) (H' := [(0, R7 (If .u32 ro) f1 (VBn lc) (VBn rm) (VW ps) f5 [])]) (by repeat (first | exact trivial | refine ⟨⟨_, rfl, .inl ⟨rfl, rfl⟩⟩, ?_⟩ | refine ⟨⟨_, rfl, .inl ⟨slEq rfl tN, rfl⟩⟩, ?_⟩ | refine ⟨⟨_, rfl, .inl ⟨ivEq tX, rfl⟩⟩, ?_⟩)) (by repeat (first | exact trivial | refine ⟨ent_same rfl rfl rfl tL, ?_⟩ | refine ⟨ent_same rfl rfl (rfEq rfl tU) tL, ?_⟩ | refine ⟨ent_same rfl rfl (flEq rfl (by first | (simp; done) | (simp; omega) | (simp [encP, encW, encY, encMs, encBn, encSn]; done) | simp [maxC, minC])) trivial, ?_⟩)) rfl ?_
              exact n_out1 rfl (by rfl) rfl rfl
          · rw [if_neg (by simpa using hb)]
            refine nK ?_
            refine s_reg rfl ?_
            refine Run.pure (dd := some 6) rfl rfl (op_assign rfl (Opd.const _)) ?_
            refine Run.nil (FinR.mk ?_)
            refine nK ?_
            refine Next.weakS [0] [] (by rfl) (keepsN hC _ rfl) (G' := [(6, IV .i64 0)]) (H' := [(0, R7 (If .u32 ro) f1 (VBn lc) (VBn rm) (VW ps) f5 [])]) (by repeat (first | exact trivial | refine ⟨⟨_, rfl, .inl ⟨rfl, rfl⟩⟩, ?_⟩ | refine ⟨⟨_, rfl, .inl ⟨slEq rfl tN, rfl⟩⟩, ?_⟩ | refine ⟨⟨_, rfl, .inl ⟨ivEq tX, rfl⟩⟩, ?_⟩)) (by repeat (first | exact trivial | refine ⟨ent_same rfl rfl rfl tL, ?_⟩ | refine ⟨ent_same rfl rfl (rfEq rfl tU) tL, ?_⟩ | refine ⟨ent_same rfl rfl (flEq rfl (by first | (simp; done) | (simp; omega) | (simp [encP, encW, encY, encMs, encBn, encSn]; done) | simp [maxC, minC])) trivial, ?_⟩)) rfl ?_
            exact n_out1 rfl (by rfl) rfl rfl
end Go.Proofs.Ytkofbemgpeagbaa
/- Steps of the loops over routes and bindings; sizes. No program in sight. -/
namespace Go.Pl
open Go Go.RT
set_option linter.all false
theorem asc_step {l : List Int} {i : Nat} (h : i < l.length) : ascI (prvG l i) (l.drop i) = if leI (prvG l i) l[i] = true then 16 else ascI (prvG l (i + 1)) (l.drop (i + 1)) := by
  rw [List.drop_eq_getElem_cons h, prvG_succ h]; rfl
theorem asc_one (l : List Int) : ascI (prvG l 1) (l.drop 1) = ascI none l := by
  cases l with
  | nil => rfl
  | cons x t => rfl
theorem rts_step (r : Int) {l : List Fec} {i : Nat} (h : i < l.length) : rtsE r (prvG l i) (l.drop i) = if (!validB l[i].px) = true then 1 else if badX (prvG l i) l[i] = true then 16 else if hopsE r l[i].hs ≠ 0 then hopsE r l[i].hs else rtsE r (prvG l (i + 1)) (l.drop (i + 1)) := by
  rw [List.drop_eq_getElem_cons h, prvG_succ h]; rfl
def zFe : Fec := ⟨⟨0, 0⟩, false, []⟩
structure okFe (x : Fec) : Prop where
  px : x.px.ok
  hs : x.hs.length ≤ 9223372036854775807
structure okFs (x : Fec) : Prop where
  px : x.px.ok
  hs : x.hs.length ≤ 64
theorem hopsE_len {r : Int} {l : List Int} (h : hopsE r l = 0) : l.length ≤ 64 := by
  unfold hopsE at h
  split at h
  · cases h
  · omega
theorem rts_asc {r : Int} : ∀ {l : List Fec} {p : Option Fec}, rtsE r p l = 0 → ascX l ∧ (∀ q, p = some q → ∀ x ∈ l, ltPf q.px x.px) ∧ (∀ x ∈ l, validB x.px = true ∧ hopsE r x.hs = 0)
  | [], p, _ => ⟨List.Pairwise.nil, fun _ _ _ h => (by cases h), fun _ h => (by cases h)⟩
  | x :: t, p, h => by
    simp only [rtsE] at h
    split at h
    · cases h
    · next h1 =>
      split at h
      · cases h
      · next h2 =>
        split at h
        · next h3 => exact absurd h h3
        · next h3 =>
          obtain ⟨k1, k2, k3⟩ := rts_asc h
          have hx := k2 x rfl
          refine ⟨List.pairwise_cons.2 ⟨hx, k1⟩, fun q hq y hy => ?_, fun y hy => ?_⟩
          · subst hq
            have hqx : ltPf q.px x.px := by
              rw [← cmpP_neg]; simp [badX] at h2; exact h2
            rcases List.mem_cons.1 hy with rfl | hy
            · exact hqx
            · exact hqx.trans (hx y hy)
          · rcases List.mem_cons.1 hy with rfl | hy
            · exact ⟨by simpa using h1, by simpa using h3⟩
            · exact k3 y hy
theorem routesE_ok {r : Int} {l : List Fec} (h : routesE r l = 0) : ascX l ∧ l.length ≤ 2000 ∧ ∀ x ∈ l, validB x.px = true ∧ hopsE r x.hs = 0 := by
  unfold routesE at h
  split at h
  · cases h
  · next k => obtain ⟨k1, _, k3⟩ := rts_asc h; exact ⟨k1, by omega, k3⟩
/-! sizes -/
theorem giveF_len (l : List Rg) (n : Int) : (giveF l n).1.length ≤ l.length + 1 := by
  unfold giveF
  split
  · simp
  · split
    · simp
    · split
      · simp
      · exact giveL_len l n
theorem takeF_len (l : List Rg) : (takeF l).2.1.length ≤ l.length := by
  unfold takeF
  split
  · simp
  · cases l with
    | nil => simp
    | cons r t => simp only [takeL]; split <;> simp
theorem takeF_ok {l : List Rg} (h : (takeF l).2.2 = 0) : 16 ≤ (takeF l).1 ∧ (takeF l).1 ≤ 1048575 := by
  unfold takeF at h ⊢
  by_cases k : lblE l ≠ 0
  · rw [if_pos k] at h; exact absurd h k
  · rw [if_neg k] at h ⊢
    have hv := (lblE_iff l).1 (by simpa using k)
    cases l with
    | nil => cases h
    | cons r t => have := hv.hd.1.lo; have := hv.hd.1.le; have := hv.hd.1.hi; exact ⟨by omega, by show r.f ≤ _; omega⟩
def pdG (ro : Int) (ps : List Int) (l : List Fec) (fr : List Rg) (lc : List Bnd) (i : Nat) : DSt := (lc.take i).foldl (pdS ro ps l) (fr, lc, [])
theorem pdG_succ (ro : Int) (ps : List Int) (l : List Fec) (fr : List Rg) {lc : List Bnd} {i : Nat} (h : i < lc.length) : pdG ro ps l fr lc (i + 1) = pdS ro ps l (pdG ro ps l fr lc i) lc[i] := by
  unfold pdG; rw [List.take_succ_eq_append_getElem h, List.foldl_append]; rfl
theorem pdG_len (ro : Int) (ps : List Int) (l : List Fec) (fr : List Rg) (lc : List Bnd) : ∀ i, i ≤ lc.length → (pdG ro ps l fr lc i).1.length ≤ fr.length + i ∧ (pdG ro ps l fr lc i).2.1.length ≤ lc.length ∧ (pdG ro ps l fr lc i).2.2.length ≤ i * ps.length := by
  intro i
  induction i with
  | zero => intro _; simp [pdG]
  | succ i ih =>
    intro hi
    obtain ⟨h1, h2, h3⟩ := ih (by omega)
    rw [pdG_succ ro ps l fr (by omega), Nat.succ_mul]
    unfold pdS
    split
    · exact ⟨by omega, h2, by omega⟩
    · refine ⟨?_, Nat.le_trans (unbL_len _ _ _) h2, by simp; omega⟩
      dsimp only
      have := giveF_len (pdG ro ps l fr lc i).1 lc[i].la
      split
      · split <;> omega
      · omega
def bdG (ro : Int) (ps : List Int) (l : List Fec) (d : DSt) (i : Nat) : DSt := (l.take i).foldl (bindS ro ps) d
theorem bdG_succ (ro : Int) (ps : List Int) {l : List Fec} (d : DSt) {i : Nat} (h : i < l.length) : bdG ro ps l d (i + 1) = bindS ro ps (bdG ro ps l d i) l[i] := by
  unfold bdG; rw [List.take_succ_eq_append_getElem h, List.foldl_append]; rfl
theorem bindS_len (ro : Int) (ps : List Int) (s : DSt) (x : Fec) : (bindS ro ps s x).1.length ≤ s.1.length ∧ (bindS ro ps s x).2.1.length ≤ s.2.1.length + 1 ∧ (bindS ro ps s x).2.2.length ≤ s.2.2.length + ps.length := by
  unfold bindS
  split
  · exact ⟨by omega, by omega, by omega⟩
  · split
    · exact ⟨Nat.le_refl _, bindL_len _ _, by simp⟩
    · split
      · exact ⟨by omega, by omega, by omega⟩
      · exact ⟨takeF_len _, bindL_len _ _, by simp⟩
theorem bdG_len (ro : Int) (ps : List Int) (l : List Fec) (d : DSt) : ∀ i, i ≤ l.length → (bdG ro ps l d i).1.length ≤ d.1.length ∧ (bdG ro ps l d i).2.1.length ≤ d.2.1.length + i ∧ (bdG ro ps l d i).2.2.length ≤ d.2.2.length + i * ps.length := by
  intro i
  induction i with
  | zero => intro _; simp [bdG]
  | succ i ih =>
    intro hi
    obtain ⟨h1, h2, h3⟩ := ih (by omega)
    obtain ⟨k1, k2, k3⟩ := bindS_len ro ps (bdG ro ps l d i) l[i]
    rw [bdG_succ ro ps d (by omega), Nat.succ_mul]
    exact ⟨by omega, by omega, by omega⟩
def routesG (ro : Int) (fr : List Rg) (lc : List Bnd) (ps : List Int) (rt l : List Fec) : Int × DSt × List Fec :=
  if routesE ro l ≠ 0 then (routesE ro l, (fr, lc, []), rt) else (0, bdG ro ps l (pdG ro ps l fr lc lc.length) l.length, l)
theorem okB_eq (l : List Fec) (b : Bnd) : okB l b = ((routeF l b.px).isSome && decide (((routeF l b.px).getD zFe).lo = decide (b.la = 3))) := by
  unfold okB
  cases routeF l b.px <;> rfl
end Go.Pl
namespace Go.Proofs.Ytkofbemgpeagbaa
open Go Go.RT Go.Proofs Go.Pl
set_option linter.all false
set_option maxRecDepth 20000
set_option maxHeartbeats 1000000
instance : Inhabited Fec := ⟨zFe⟩
theorem hops_m (ro : Int) (f1 f2 f3 f4 f5 : FV) (out : List Snd) (l : List Int) (hn : l.length ≤ 9223372036854775807) : Meets Try.prog 79 [.ptr 0 7 0 0, .fz (VW l)] 1 [(0, R7 (If .u32 ro) f1 f2 f3 f4 f5 out)] (IV .i64 (hopsE ro l)) [(0, R7 (If .u32 ro) f1 f2 f3 f4 f5 out)] 1 := by
  unfold hopsE
  refine Meets.intro Try.func79 rfl (Nat.le_of_ble_eq_true rfl) fun C hC => ?_
  simp only [List.map, argEnv, Nat.reduceAdd]
  refine nK ?_
  refine s_reg rfl ?_
  refine Run.pure (dd := some 4) rfl rfl (op_assign rfl (Opd.const _)) ?_
  refine Run.nil (FinR.mk ?_)
  refine nK ?_
  refine s_reg rfl ?_
  refine Run.pure (dd := some 8) rfl rfl (op_move rfl (Opd.tmp _ _ rfl)) ?_
  refine Run.pure (dd := some 9) rfl rfl (op_len_fz rfl (by first | exact Opd.tmp _ _ rfl | exact Opd.nil _ _ (Opd.tmp _ _ rfl)) (by first | exact List.length_map _ | rfl)) ?_
  refine Run.pure (dd := some 10) rfl rfl (op_gtr rfl (Opd.tmp _ _ rfl) (Opd.const _)) ?_
  refine Run.nil (FinR.mk ?_)
  refine nK ?_
  refine n_cond _ rfl (fun hb => ?_) (fun hb => ?_)
  · rw [if_pos (by simp at hb; omega)]
    refine nK ?_
    refine s_reg rfl ?_
    refine Run.pure (dd := some 4) rfl rfl (op_assign rfl (Opd.const _)) ?_
    refine Run.nil (FinR.mk ?_)
    refine nK ?_
    refine Next.weakS [0] [] (by rfl) (keepsN hC _ rfl) (G' := [(4, IV .i64 4)]) (H' := [(0, R7 (If .u32 ro) f1 f2 f3 f4 f5 out)]) (by repeat (first | exact trivial | refine ⟨⟨_, rfl, .inl ⟨rfl, rfl⟩⟩, ?_⟩ | refine ⟨⟨_, rfl, .inl ⟨slEq rfl tN, rfl⟩⟩, ?_⟩ | refine ⟨⟨_, rfl, .inl ⟨ivEq tX, rfl⟩⟩, ?_⟩)) (by repeat (first | exact trivial | refine ⟨ent_same rfl rfl rfl tL, ?_⟩ | refine ⟨ent_same rfl rfl (rfEq rfl tU) tL, ?_⟩ | refine ⟨ent_same rfl rfl (flEq rfl (by first | (simp; done) | (simp; omega) | (simp [encP, encW, encY, encMs, encBn, encSn, encFe]; done) | simp [maxC, minC])) trivial, ?_⟩)) rfl ?_
    exact n_out1 rfl (by rfl) rfl rfl
  · rw [if_neg (by simp at hb; omega)]
    refine nK ?_
    refine s_reg rfl ?_
    refine Run.pure (dd := some 11) rfl rfl (op_move rfl (Opd.tmp _ _ rfl)) ?_
    refine Run.pure (dd := some 12) rfl rfl (op_len_fz rfl (by first | exact Opd.tmp _ _ rfl | exact Opd.nil _ _ (Opd.tmp _ _ rfl)) (by first | exact List.length_map _ | rfl)) ?_
    refine Run.pure (dd := some 13) rfl rfl (op_move rfl (Opd.const _)) ?_
    refine Run.nil (FinR.mk ?_)
    refine nK ?_
    refine n_loop (ι := Nat) (fun i => ([(0, .ptr 0 7 0 0), (1, .fz (VW l)), (11, .fz (VW l)), (12, IV .i64 l.length), (13, IV .i64 i)], [(0, R7 (If .u32 ro) f1 f2 f3 f4 f5 out)], 1)) (fun i => i ≤ l.length ∧ (l.drop i).any (hopX ro) = l.any (hopX ro)) (fun i => l.length - i) 0 ⟨Nat.zero_le _, rfl⟩ ?_ ?_
    · refine Next.weakS [0] [] (by rfl) (keepsN hC _ rfl) (by repeat (first | exact trivial | refine ⟨⟨_, rfl, .inl ⟨rfl, rfl⟩⟩, ?_⟩ | refine ⟨⟨_, rfl, .inl ⟨slEq rfl tN, rfl⟩⟩, ?_⟩ | refine ⟨⟨_, rfl, .inl ⟨ivEq tX, rfl⟩⟩, ?_⟩)) (by repeat (first | exact trivial | refine ⟨ent_same rfl rfl rfl tL, ?_⟩ | refine ⟨ent_same rfl rfl (rfEq rfl tU) tL, ?_⟩ | refine ⟨ent_same rfl rfl (flEq rfl (by first | (simp; done) | (simp; omega) | (simp [encP, encW, encY, encMs, encBn, encSn, encFe]; done) | simp [maxC, minC])) trivial, ?_⟩)) rfl rel_intro
    · intro i ⟨hi, ho⟩ K hK
      refine nK ?_
      refine s_reg rfl ?_
      refine Run.pure (dd := some 14) rfl rfl (op_lss rfl (Opd.tmp _ _ rfl) (Opd.tmp _ _ rfl)) ?_
      refine Run.nil (FinR.mk ?_)
      refine nK ?_
      refine n_cond _ rfl (fun hb => ?_) (fun hb => ?_)
      · have hlt : i < l.length := by simp at hb; omega
        have hr1 := row_at' encW l i hlt
        rw [any_step _ hlt] at ho
        have hK1 := fun h => hK (i + 1) ⟨by omega, h⟩ (by omega)
        generalize l[i] = h at *
        refine nK ?_
        refine s_reg rfl ?_
        refine Run.pure (dd := some 15) rfl rfl (op_idx_fz _ rfl (Opd.tmp _ _ rfl) (Opd.tmp _ _ rfl) tF) ?_
        refine Run.pure (dd := some 16) rfl rfl (op_load1_fz rfl (Opd.tmp _ _ rfl) rfl) ?_
        refine Run.pure (dd := some 6) rfl rfl (op_assign rfl (Opd.tmp _ _ rfl)) ?_
        refine Run.nil (FinR.mk ?_)
        refine nK ?_
        refine s_reg rfl ?_
        refine Run.pure (dd := some 17) rfl rfl (op_move rfl (Opd.tmp _ _ rfl)) ?_
        refine Run.pure (dd := some 18) rfl rfl (op_eql rfl (Opd.tmp _ _ rfl) (Opd.const _)) ?_
        refine Run.pure (dd := some 19) rfl rfl (op_move rfl (Opd.tmp _ _ rfl)) ?_
        refine Run.pureG (dd := some 20) rfl rfl rfl tG (op_move rfl (Opd.tmp _ _ rfl)) ?_
        refine Run.pureG (dd := some 21) rfl rfl rfl tG (op_move rfl (Opd.tmp _ _ rfl)) ?_
        refine Run.pureG (dd := some 22) rfl rfl rfl tG (op_nilck_ptr rfl (Opd.topt _ _ _ rfl tO)) ?_
        refine Run.pureG (dd := some 23) rfl rfl rfl tG (op_fld_ptr (by decide) rfl (Opd.topt _ _ _ rfl tO)) ?_
        refine Run.pureG (dd := some 24) rfl rfl rfl tG (op_fld_ptr (by decide) rfl (Opd.topt _ _ _ rfl tO)) ?_
        refine Run.loadG (dd := some 25) rfl rfl rfl tG (op_load1_refs rfl (Opd.topt _ _ _ rfl tO) tH rfl) ?_
        refine Run.pureG (dd := some 26) rfl rfl rfl tG (op_eql rfl (Opd.topt _ _ _ rfl tO) (Opd.topt _ _ _ rfl tO)) ?_
        refine Run.pure (dd := some 27) rfl rfl (op_pick_or rfl (Opd.tmp _ _ rfl) (Opd.topt _ _ _ rfl tO)) ?_
        refine Run.nil (FinR.mk ?_)
        refine nK ?_
        refine n_cond _ rfl (fun hb => ?_) (fun hb => ?_)
        · have hx : hopX ro h = true := hb
          rw [hx, Bool.true_or] at ho
          rw [← ho, if_pos rfl]
          refine nK ?_
          refine s_reg rfl ?_
          refine Run.pure (dd := some 4) rfl rfl (op_assign rfl (Opd.const _)) ?_
          refine Run.nil (FinR.mk ?_)
          refine nK ?_
          refine Next.weakS [0] [] (by rfl) (keepsN hC _ rfl) (G' := [(4, IV .i64 5)]) (H' := [(0, R7 (If .u32 ro) f1 f2 f3 f4 f5 out)]) (by repeat (first | exact trivial | refine ⟨⟨_, rfl, .inl ⟨rfl, rfl⟩⟩, ?_⟩ | refine ⟨⟨_, rfl, .inl ⟨slEq rfl tN, rfl⟩⟩, ?_⟩ | refine ⟨⟨_, rfl, .inl ⟨ivEq tX, rfl⟩⟩, ?_⟩)) (by repeat (first | exact trivial | refine ⟨ent_same rfl rfl rfl tL, ?_⟩ | refine ⟨ent_same rfl rfl (rfEq rfl tU) tL, ?_⟩ | refine ⟨ent_same rfl rfl (flEq rfl (by first | (simp; done) | (simp; omega) | (simp [encP, encW, encY, encMs, encBn, encSn, encFe]; done) | simp [maxC, minC])) trivial, ?_⟩)) rfl ?_
          exact n_out1 rfl (by rfl) rfl rfl
        · have hx : hopX ro h = false := hb
          rw [hx, Bool.false_or] at ho
          refine nK ?_
          refine s_reg rfl ?_
          refine Run.pure (dd := some 28) rfl rfl (op_add rfl (Opd.tmp _ _ rfl) (Opd.const _) tI) ?_
          refine Run.pure (dd := some 13) rfl rfl (op_move rfl (Opd.tmp _ _ rfl)) ?_
          refine Run.nil (FinR.mk ?_)
          refine nK ?_
          refine Next.weakS [0] [] (by rfl) (keepsN hC _ rfl) (by repeat (first | exact trivial | refine ⟨⟨_, rfl, .inl ⟨rfl, rfl⟩⟩, ?_⟩ | refine ⟨⟨_, rfl, .inl ⟨slEq rfl tN, rfl⟩⟩, ?_⟩ | refine ⟨⟨_, rfl, .inl ⟨ivEq tX, rfl⟩⟩, ?_⟩)) (by repeat (first | exact trivial | refine ⟨ent_same rfl rfl rfl tL, ?_⟩ | refine ⟨ent_same rfl rfl (rfEq rfl tU) tL, ?_⟩ | refine ⟨ent_same rfl rfl (flEq rfl (by first | (simp; done) | (simp; omega) | (simp [encP, encW, encY, encMs, encBn, encSn, encFe]; done) | simp [maxC, minC])) trivial, ?_⟩)) rfl (hK1 ho)
      · have hie : i = l.length := by simp at hb; omega
        rw [hie, List.drop_length] at ho
        rw [← ho, if_neg (by simp)]
        clear hK
        refine nK ?_
        refine s_reg rfl ?_
        refine Run.pure (dd := some 7) rfl rfl (op_assign rfl (Opd.const _)) ?_
        refine Run.nil (FinR.mk ?_)
        refine nK ?_
        refine n_loop (ι := Nat) (fun i => ([(0, .ptr 0 7 0 0), (1, .fz (VW l)), (7, IV .i64 i)], [(0, R7 (If .u32 ro) f1 f2 f3 f4 f5 out)], 1)) (fun i => 1 ≤ i ∧ i ≤ 1 + l.length ∧ ascI (prvG l i) (l.drop i) = ascI none l) (fun i => 1 + l.length - i) 1 ⟨Nat.le_refl _, by omega, asc_one l⟩ ?_ ?_
        · refine Next.weakS [0] [] (by rfl) (keepsN hC _ rfl) (by repeat (first | exact trivial | refine ⟨⟨_, rfl, .inl ⟨rfl, rfl⟩⟩, ?_⟩ | refine ⟨⟨_, rfl, .inl ⟨slEq rfl tN, rfl⟩⟩, ?_⟩ | refine ⟨⟨_, rfl, .inl ⟨ivEq tX, rfl⟩⟩, ?_⟩)) (by repeat (first | exact trivial | refine ⟨ent_same rfl rfl rfl tL, ?_⟩ | refine ⟨ent_same rfl rfl (rfEq rfl tU) tL, ?_⟩ | refine ⟨ent_same rfl rfl (flEq rfl (by first | (simp; done) | (simp; omega) | (simp [encP, encW, encY, encMs, encBn, encSn, encFe]; done) | simp [maxC, minC])) trivial, ?_⟩)) rfl rel_intro
        · intro i ⟨hi1, hi2, ho⟩ K hK
          refine nK ?_
          refine s_reg rfl ?_
          refine Run.pure (dd := some 29) rfl rfl (op_move rfl (Opd.tmp _ _ rfl)) ?_
          refine Run.pure (dd := some 30) rfl rfl (op_move rfl (Opd.tmp _ _ rfl)) ?_
          refine Run.pure (dd := some 31) rfl rfl (op_len_fz rfl (by first | exact Opd.tmp _ _ rfl | exact Opd.nil _ _ (Opd.tmp _ _ rfl)) (by first | exact List.length_map _ | rfl)) ?_
          refine Run.pure (dd := some 32) rfl rfl (op_lss rfl (Opd.tmp _ _ rfl) (Opd.tmp _ _ rfl)) ?_
          refine Run.nil (FinR.mk ?_)
          refine nK ?_
          refine n_cond _ rfl (fun hb => ?_) (fun hb => ?_)
          · have hlt : i < l.length := by simp at hb; omega
            have hr1 := row_at' encW l i hlt
            have hr2 := row_at' encW l (i - 1) (by omega)
            have hpv : prvG l i = some l[i - 1] := by
              have := prvG_succ (l := l) (i := i - 1) (by omega)
              rwa [show i - 1 + 1 = i by omega] at this
            rw [asc_step hlt, hpv] at ho
            have hK1 := fun h => hK (i + 1) ⟨by omega, by omega, h⟩ (by omega)
            generalize l[i] = x at *
            generalize l[i - 1] = q at *
            refine nK ?_
            refine s_draw mixed ?_
            refine Run.pure (dd := some 35) rfl rfl (op_move rfl (Opd.tmp _ _ rfl)) ?_
            refine Run.pure (dd := some 36) rfl rfl (op_move rfl (Opd.tmp _ _ rfl)) ?_
            refine Run.pure (dd := some 37) rfl rfl (op_sub rfl (Opd.tmp _ _ rfl) (Opd.const _) tI) ?_
            refine Run.pure (dd := some 38) rfl rfl (op_idx_fz (i - 1) rfl (Opd.tmp _ _ rfl) (Opd.tmp _ _ rfl) (by intro _; exact ⟨by omega, hr2⟩)) ?_
            refine Run.pure (dd := some 39) rfl rfl (op_load1_fz rfl (Opd.tmp _ _ rfl) rfl) ?_
            refine Run.pure (dd := some 40) rfl rfl (op_move rfl (Opd.tmp _ _ rfl)) ?_
            refine Run.pure (dd := some 41) rfl rfl (op_move rfl (Opd.tmp _ _ rfl)) ?_
            refine Run.pure (dd := some 42) rfl rfl (op_idx_fz i rfl (Opd.tmp _ _ rfl) (Opd.tmp _ _ rfl) (by intro _; exact ⟨rfl, hr1⟩)) ?_
            refine Run.pure (dd := some 43) rfl rfl (op_load1_fz rfl (Opd.tmp _ _ rfl) rfl) ?_
            refine Run.pure (dd := some 44) rfl rfl (op_geq rfl (Opd.tmp _ _ rfl) (Opd.tmp _ _ rfl)) ?_
            refine Run.nil (FinD.mk (by kernel_rfl) ?_)
            refine nK ?_
            refine n_cond _ rfl (fun hb => ?_) (fun hb => ?_)
            · have hx : leI (some q) x = true := hb
              rw [if_pos hx] at ho
              rw [← ho]
              refine nK ?_
              refine s_reg rfl ?_
              refine Run.pure (dd := some 4) rfl rfl (op_assign rfl (Opd.const _)) ?_
              refine Run.nil (FinR.mk ?_)
              refine nK ?_
              refine Next.weakS [0] [] (by rfl) (keepsN hC _ rfl) (G' := [(4, IV .i64 16)]) (H' := [(0, R7 (If .u32 ro) f1 f2 f3 f4 f5 out)]) (by repeat (first | exact trivial | refine ⟨⟨_, rfl, .inl ⟨rfl, rfl⟩⟩, ?_⟩ | refine ⟨⟨_, rfl, .inl ⟨slEq rfl tN, rfl⟩⟩, ?_⟩ | refine ⟨⟨_, rfl, .inl ⟨ivEq tX, rfl⟩⟩, ?_⟩)) (by repeat (first | exact trivial | refine ⟨ent_same rfl rfl rfl tL, ?_⟩ | refine ⟨ent_same rfl rfl (rfEq rfl tU) tL, ?_⟩ | refine ⟨ent_same rfl rfl (flEq rfl (by first | (simp; done) | (simp; omega) | (simp [encP, encW, encY, encMs, encBn, encSn, encFe]; done) | simp [maxC, minC])) trivial, ?_⟩)) rfl ?_
              exact n_out1 rfl (by rfl) rfl rfl
            · have hx : leI (some q) x = false := hb
              rw [if_neg (by rw [hx]; decide)] at ho
              refine nK ?_
              refine s_reg rfl ?_
              refine Run.pure (dd := some 33) rfl rfl (op_move rfl (Opd.tmp _ _ rfl)) ?_
              refine Run.pure (dd := some 34) rfl rfl (op_add rfl (Opd.tmp _ _ rfl) (Opd.const _) tI) ?_
              refine Run.pure (dd := some 7) rfl rfl (op_assign rfl (Opd.tmp _ _ rfl)) ?_
              refine Run.nil (FinR.mk ?_)
              refine nK ?_
              refine Next.weakS [0] [] (by rfl) (keepsN hC _ rfl) (by repeat (first | exact trivial | refine ⟨⟨_, rfl, .inl ⟨rfl, rfl⟩⟩, ?_⟩ | refine ⟨⟨_, rfl, .inl ⟨slEq rfl tN, rfl⟩⟩, ?_⟩ | refine ⟨⟨_, rfl, .inl ⟨ivEq tX, rfl⟩⟩, ?_⟩)) (by repeat (first | exact trivial | refine ⟨ent_same rfl rfl rfl tL, ?_⟩ | refine ⟨ent_same rfl rfl (rfEq rfl tU) tL, ?_⟩ | refine ⟨ent_same rfl rfl (flEq rfl (by first | (simp; done) | (simp; omega) | (simp [encP, encW, encY, encMs, encBn, encSn, encFe]; done) | simp [maxC, minC])) trivial, ?_⟩)) rfl (hK1 ho)
          · have hie : l.length ≤ i := by simp at hb; omega
            rw [List.drop_eq_nil_of_le hie] at ho
            have hz : ascI none l = 0 := by rw [← ho]; cases prvG l i <;> rfl
            rw [hz]
            refine nK ?_
            refine s_reg rfl ?_
            refine Run.pure (dd := some 4) rfl rfl (op_assign rfl (Opd.const _)) ?_
            refine Run.nil (FinR.mk ?_)
            refine nK ?_
            refine Next.weakS [0] [] (by rfl) (keepsN hC _ rfl) (G' := [(4, IV .i64 0)]) (H' := [(0, R7 (If .u32 ro) f1 f2 f3 f4 f5 out)]) (by repeat (first | exact trivial | refine ⟨⟨_, rfl, .inl ⟨rfl, rfl⟩⟩, ?_⟩ | refine ⟨⟨_, rfl, .inl ⟨slEq rfl tN, rfl⟩⟩, ?_⟩ | refine ⟨⟨_, rfl, .inl ⟨ivEq tX, rfl⟩⟩, ?_⟩)) (by repeat (first | exact trivial | refine ⟨ent_same rfl rfl rfl tL, ?_⟩ | refine ⟨ent_same rfl rfl (rfEq rfl tU) tL, ?_⟩ | refine ⟨ent_same rfl rfl (flEq rfl (by first | (simp; done) | (simp; omega) | (simp [encP, encW, encY, encMs, encBn, encSn, encFe]; done) | simp [maxC, minC])) trivial, ?_⟩)) rfl ?_
            exact n_out1 rfl (by rfl) rfl rfl
theorem rcheck_m (ro : Int) (f1 f2 f3 f4 f5 : FV) (out : List Snd) (l : List Fec) (hl : ∀ x ∈ l, okFe x) (hn : l.length ≤ 9223372036854775807) : Meets Try.prog 61 [.ptr 0 7 0 0, .fz (VFe l)] 1 [(0, R7 (If .u32 ro) f1 f2 f3 f4 f5 out)] (IV .i64 (routesE ro l)) [(0, R7 (If .u32 ro) f1 f2 f3 f4 f5 out)] 1 := by
  unfold routesE
  refine Meets.intro Try.func61 rfl (Nat.le_of_ble_eq_true rfl) fun C hC => ?_
  simp only [List.map, argEnv, Nat.reduceAdd]
  refine nK ?_
  refine s_reg rfl ?_
  refine Run.pure (dd := some 4) rfl rfl (op_assign rfl (Opd.const _)) ?_
  refine Run.nil (FinR.mk ?_)
  refine nK ?_
  refine s_reg rfl ?_
  refine Run.pure (dd := some 8) rfl rfl (op_move rfl (Opd.tmp _ _ rfl)) ?_
  refine Run.pure (dd := some 9) rfl rfl (op_len_fz rfl (by first | exact Opd.tmp _ _ rfl | exact Opd.nil _ _ (Opd.tmp _ _ rfl)) (by first | exact List.length_map _ | rfl)) ?_
  refine Run.pure (dd := some 10) rfl rfl (op_gtr rfl (Opd.tmp _ _ rfl) (Opd.const _)) ?_
  refine Run.nil (FinR.mk ?_)
  refine nK ?_
  refine n_cond _ rfl (fun hb => ?_) (fun hb => ?_)
  · rw [if_pos (by simp at hb; omega)]
    refine nK ?_
    refine s_reg rfl ?_
    refine Run.pure (dd := some 4) rfl rfl (op_assign rfl (Opd.const _)) ?_
    refine Run.nil (FinR.mk ?_)
    refine nK ?_
    refine Next.weakS [0] [] (by rfl) (keepsN hC _ rfl) (G' := [(4, IV .i64 4)]) (H' := [(0, R7 (If .u32 ro) f1 f2 f3 f4 f5 out)]) (by repeat (first | exact trivial | refine ⟨⟨_, rfl, .inl ⟨rfl, rfl⟩⟩, ?_⟩ | refine ⟨⟨_, rfl, .inl ⟨slEq rfl tN, rfl⟩⟩, ?_⟩ | refine ⟨⟨_, rfl, .inl ⟨ivEq tX, rfl⟩⟩, ?_⟩)) (by repeat (first | exact trivial | refine ⟨ent_same rfl rfl rfl tL, ?_⟩ | refine ⟨ent_same rfl rfl (rfEq rfl tU) tL, ?_⟩ | refine ⟨ent_same rfl rfl (flEq rfl (by first | (simp; done) | (simp; omega) | (simp [encP, encW, encY, encMs, encBn, encSn, encFe]; done) | simp [maxC, minC])) trivial, ?_⟩)) rfl ?_
    exact n_out1 rfl (by rfl) rfl rfl
  · rw [if_neg (by simp at hb; omega)]
    refine nK ?_
    refine s_reg rfl ?_
    refine Run.pure (dd := some 11) rfl rfl (op_move rfl (Opd.tmp _ _ rfl)) ?_
    refine Run.pure (dd := some 12) rfl rfl (op_len_fz rfl (by first | exact Opd.tmp _ _ rfl | exact Opd.nil _ _ (Opd.tmp _ _ rfl)) (by first | exact List.length_map _ | rfl)) ?_
    refine Run.pure (dd := some 13) rfl rfl (op_move rfl (Opd.const _)) ?_
    refine Run.nil (FinR.mk ?_)
    refine nK ?_
    refine n_loop (ι := Nat) (fun i => ([(0, .ptr 0 7 0 0), (1, .fz (VFe l)), (11, .fz (VFe l)), (12, IV .i64 l.length), (13, IV .i64 i)], [(0, R7 (If .u32 ro) f1 f2 f3 f4 f5 out)], 1)) (fun i => i ≤ l.length ∧ rtsE ro (prvG l i) (l.drop i) = rtsE ro none l) (fun i => l.length - i) 0 ⟨Nat.zero_le _, rfl⟩ ?_ ?_
    · refine Next.weakS [0] [] (by rfl) (keepsN hC _ rfl) (by repeat (first | exact trivial | refine ⟨⟨_, rfl, .inl ⟨rfl, rfl⟩⟩, ?_⟩ | refine ⟨⟨_, rfl, .inl ⟨slEq rfl tN, rfl⟩⟩, ?_⟩ | refine ⟨⟨_, rfl, .inl ⟨ivEq tX, rfl⟩⟩, ?_⟩)) (by repeat (first | exact trivial | refine ⟨ent_same rfl rfl rfl tL, ?_⟩ | refine ⟨ent_same rfl rfl (rfEq rfl tU) tL, ?_⟩ | refine ⟨ent_same rfl rfl (flEq rfl (by first | (simp; done) | (simp; omega) | (simp [encP, encW, encY, encMs, encBn, encSn, encFe]; done) | simp [maxC, minC])) trivial, ?_⟩)) rfl rel_intro
    · intro i ⟨hi, ho⟩ K hK
      refine nK ?_
      refine s_reg rfl ?_
      refine Run.pure (dd := some 14) rfl rfl (op_lss rfl (Opd.tmp _ _ rfl) (Opd.tmp _ _ rfl)) ?_
      refine Run.nil (FinR.mk ?_)
      refine nK ?_
      refine n_cond _ rfl (fun hb => ?_) (fun hb => ?_)
      · have hlt : i < l.length := by simp at hb; omega
        have hr1 := row_at' encFe l i hlt
        obtain ⟨q, hq⟩ := prv_row encFe l zFe (by omega : i ≤ l.length)
        rw [rts_step ro hlt] at ho
        have hK1 := fun h => hK (i + 1) ⟨by omega, h⟩ (by omega)
        have hx := hl _ (List.getElem_mem hlt)
        generalize l[i] = x at *
        have kv := valid_any x.px hx.px
        have kh := hops_m ro f1 f2 f3 f4 f5 out x.hs hx.hs
        have kc := pcmp_c q.px x.px
        have hbad : badX (prvG l i) x = (decide ((0 : Int) < (i : Int)) && decide (0 ≤ cmpP q.px x.px)) := by
          by_cases h0 : 0 < i
          · rw [(hq h0).1]; simp [badX, h0]
          · have : i = 0 := by omega
            subst this; rfl
        have hq2 : 0 < i → (l.map encFe)[i - 1]? = some (encFe q) := fun h => (hq h).2
        generalize cmpP q.px x.px = cz at *
        rw [hbad] at ho
        generalize hopsE ro x.hs = he at *
        refine nK ?_
        refine s_reg rfl ?_
        refine Run.pure (dd := some 15) rfl rfl (op_move rfl (Opd.tmp _ _ rfl)) ?_
        refine Run.pure (dd := some 16) rfl rfl (op_idx_fz _ rfl (Opd.tmp _ _ rfl) (Opd.tmp _ _ rfl) tF) ?_
        refine Run.pure (dd := some 17) rfl rfl (op_loadw_fz rfl (Opd.tmp _ _ rfl) rfl) ?_
        refine Run.eff (dd := some 6) rfl rfl (op_alloc rfl rfl rfl rfl) ?_
        refine Run.pure (dd := some 5) rfl rfl (op_assign rfl (Opd.tmp _ _ rfl)) ?_
        refine Run.eff (dd := none) rfl rfl (op_store_flat rfl (Opd.tmp _ _ rfl) (Opd.tmp _ _ rfl) tC rfl rfl (by first | rfl | assumption) tS) ?_
        refine Run.nil (FinR.mk ?_)
        refine nK ?_
        refine s_reg rfl ?_
        refine Run.pure (dd := some 18) rfl rfl (op_fld_ptr (by decide) rfl (Opd.tmp _ _ rfl)) ?_
        refine Run.load (dd := some 19) rfl rfl (op_loadn_flat rfl (Opd.tmp _ _ rfl) tH tR tR) ?_
        refine Run.pure (dd := some 20) rfl rfl (op_call_pure (fun _ => kv) rfl (Opd.func _) (Opds.cons _ _ _ _ (Opd.tmp _ _ rfl) Opds.nil)) ?_
        refine Run.pure (dd := some 21) rfl rfl (op_not rfl (Opd.tmp _ _ rfl)) ?_
        refine Run.nil (FinR.mk ?_)
        refine nK ?_
        refine n_cond _ rfl (fun hb => ?_) (fun hb => ?_)
        · rw [if_pos hb] at ho
          rw [← ho]
          refine nK ?_
          refine s_reg rfl ?_
          refine Run.pure (dd := some 4) rfl rfl (op_assign rfl (Opd.const _)) ?_
          refine Run.nil (FinR.mk ?_)
          refine nK ?_
          refine Next.weakS [0] [] (by rfl) (keepsN hC _ rfl) (G' := [(4, IV .i64 1)]) (H' := [(0, R7 (If .u32 ro) f1 f2 f3 f4 f5 out)]) (by repeat (first | exact trivial | refine ⟨⟨_, rfl, .inl ⟨rfl, rfl⟩⟩, ?_⟩ | refine ⟨⟨_, rfl, .inl ⟨slEq rfl tN, rfl⟩⟩, ?_⟩ | refine ⟨⟨_, rfl, .inl ⟨ivEq tX, rfl⟩⟩, ?_⟩)) (by repeat (first | exact trivial | refine ⟨ent_same rfl rfl rfl tL, ?_⟩ | refine ⟨ent_same rfl rfl (rfEq rfl tU) tL, ?_⟩ | refine ⟨ent_same rfl rfl (flEq rfl (by first | (simp; done) | (simp; omega) | (simp [encP, encW, encY, encMs, encBn, encSn, encFe]; done) | simp [maxC, minC])) trivial, ?_⟩)) rfl ?_
          exact n_out1 rfl (by rfl) rfl rfl
        · rw [if_neg (by rw [hb]; decide)] at ho
          refine nK ?_
          refine s_draw mixed ?_
          refine Run.pure (dd := some 22) rfl rfl (op_move rfl (Opd.tmp _ _ rfl)) ?_
          refine Run.pure (dd := some 23) rfl rfl (op_gtr rfl (Opd.tmp _ _ rfl) (Opd.const _)) ?_
          refine Run.pure (dd := some 24) rfl rfl (op_move rfl (Opd.tmp _ _ rfl)) ?_
          refine Run.pureG (dd := some 25) rfl rfl rfl tG (op_move rfl (Opd.tmp _ _ rfl)) ?_
          refine Run.pureG (dd := some 26) rfl rfl rfl tG (op_move rfl (Opd.tmp _ _ rfl)) ?_
          refine Run.pureG (dd := some 27) rfl rfl rfl tG (op_sub rfl (Opd.topt _ _ _ rfl tO) (Opd.const _) tI) ?_
          refine Run.pureG (dd := some 28) rfl rfl rfl tG (op_idx_fz (i - 1) rfl (Opd.topt _ _ _ rfl tO) (Opd.topt _ _ _ rfl tO) (by intro hg; simp at hg; exact ⟨by omega, hq2 (by omega)⟩)) ?_
          refine Run.pureG (dd := some 29) rfl rfl rfl tG (op_fld_fz (by decide) rfl (Opd.topt _ _ _ rfl tO) tR) ?_
          refine Run.pureG (dd := some 30) rfl rfl rfl tG (op_loadn_fz rfl (Opd.topt _ _ _ rfl tO) tR) ?_
          refine Run.pureG (dd := some 31) rfl rfl rfl tG (op_fld_ptr (by decide) rfl (Opd.tmp _ _ rfl)) ?_
          refine Run.loadG (dd := some 32) rfl rfl rfl tG (op_loadn_flat rfl (Opd.topt _ _ _ rfl tO) tH tR tR) ?_
          refine Run.pureG (dd := some 33) rfl rfl rfl tG (op_call_pure (fun _ => kc) rfl (Opd.func _) (Opds.cons _ _ _ _ (Opd.topt _ _ _ rfl tO) (Opds.cons _ _ _ _ (Opd.topt _ _ _ rfl tO) Opds.nil))) ?_
          refine Run.pureG (dd := some 34) rfl rfl rfl tG (op_geq rfl (Opd.topt _ _ _ rfl tO) (Opd.const _)) ?_
          refine Run.pure (dd := some 35) rfl rfl (op_pick_and rfl (Opd.tmp _ _ rfl) (Opd.topt _ _ _ rfl tO)) ?_
          refine Run.nil (FinD.mk (by kernel_rfl) ?_)
          refine nK ?_
          refine n_cond _ rfl (fun hb => ?_) (fun hb => ?_)
          · rw [if_pos hb] at ho
            rw [← ho]
            refine nK ?_
            refine s_reg rfl ?_
            refine Run.pure (dd := some 4) rfl rfl (op_assign rfl (Opd.const _)) ?_
            refine Run.nil (FinR.mk ?_)
            refine nK ?_
            refine Next.weakS [0] [] (by rfl) (keepsN hC _ rfl) (G' := [(4, IV .i64 16)]) (H' := [(0, R7 (If .u32 ro) f1 f2 f3 f4 f5 out)]) (by repeat (first | exact trivial | refine ⟨⟨_, rfl, .inl ⟨rfl, rfl⟩⟩, ?_⟩ | refine ⟨⟨_, rfl, .inl ⟨slEq rfl tN, rfl⟩⟩, ?_⟩ | refine ⟨⟨_, rfl, .inl ⟨ivEq tX, rfl⟩⟩, ?_⟩)) (by repeat (first | exact trivial | refine ⟨ent_same rfl rfl rfl tL, ?_⟩ | refine ⟨ent_same rfl rfl (rfEq rfl tU) tL, ?_⟩ | refine ⟨ent_same rfl rfl (flEq rfl (by first | (simp; done) | (simp; omega) | (simp [encP, encW, encY, encMs, encBn, encSn, encFe]; done) | simp [maxC, minC])) trivial, ?_⟩)) rfl ?_
            exact n_out1 rfl (by rfl) rfl rfl
          · rw [if_neg (by rw [hb]; decide)] at ho
            refine nK ?_
            refine s_reg rfl ?_
            refine Run.pure (dd := some 36) rfl rfl (op_move rfl (Opd.tmp _ _ rfl)) ?_
            refine Run.pure (dd := some 37) rfl rfl (op_fld_ptr (by decide) rfl (Opd.tmp _ _ rfl)) ?_
            refine Run.load (dd := some 38) rfl rfl (op_load1_flat rfl (Opd.tmp _ _ rfl) tH rfl) ?_
            refine Run.eff (dd := some 39) rfl rfl (op_call (n := 1) (n' := 1) [0] (fun _ => kh) rfl (Opd.func _) (Opds.cons _ _ _ _ (Opd.tmp _ _ rfl) (Opds.cons _ _ _ _ (Opd.tmp _ _ rfl) Opds.nil)) rfl rfl (Lent.of rfl rfl (by repeat (first | exact trivial | refine ⟨⟨rfl, rfl, rfl, tL⟩, ?_⟩)) rfl) rfl rfl rfl rfl rfl) ?_
            refine Run.pure (dd := some 7) rfl rfl (op_assign rfl (Opd.tmp _ _ rfl)) ?_
            refine Run.nil (FinR.mk ?_)
            refine nK ?_
            refine s_reg rfl ?_
            refine Run.pure (dd := some 40) rfl rfl (op_move rfl (Opd.tmp _ _ rfl)) ?_
            refine Run.pure (dd := some 41) rfl rfl (op_neq rfl (Opd.tmp _ _ rfl) (Opd.const _)) ?_
            refine Run.nil (FinR.mk ?_)
            refine nK ?_
            refine n_cond _ rfl (fun hb => ?_) (fun hb => ?_)
            · rw [if_pos (by simpa using hb)] at ho
              rw [← ho]
              refine nK ?_
              refine s_reg rfl ?_
              refine Run.pure (dd := some 42) rfl rfl (op_move rfl (Opd.tmp _ _ rfl)) ?_
              refine Run.pure (dd := some 4) rfl rfl (op_assign rfl (Opd.tmp _ _ rfl)) ?_
              refine Run.nil (FinR.mk ?_)
              refine nK ?_
              refine Next.weakS [0] [] (by rfl) (keepsN hC _ rfl) (G' := [(4, IV .i64 he)]) (H' := [(0, R7 (If .u32 ro) f1 f2 f3 f4 f5 out)]) (by repeat (first | exact trivial | refine ⟨⟨_, rfl, .inl ⟨rfl, rfl⟩⟩, ?_⟩ | refine ⟨⟨_, rfl, .inl ⟨slEq rfl tN, rfl⟩⟩, ?_⟩ | refine ⟨⟨_, rfl, .inl ⟨ivEq tX, rfl⟩⟩, ?_⟩)) (by repeat (first | exact trivial | refine ⟨ent_same rfl rfl rfl tL, ?_⟩ | refine ⟨ent_same rfl rfl (rfEq rfl tU) tL, ?_⟩ | refine ⟨ent_same rfl rfl (flEq rfl (by first | (simp; done) | (simp; omega) | (simp [encP, encW, encY, encMs, encBn, encSn, encFe]; done) | simp [maxC, minC])) trivial, ?_⟩)) rfl ?_
              exact n_out1 rfl (by rfl) rfl rfl
            · rw [if_neg (by simpa using hb)] at ho
              refine nK ?_
              refine s_reg rfl ?_
              refine Run.pure (dd := some 43) rfl rfl (op_add rfl (Opd.tmp _ _ rfl) (Opd.const _) tI) ?_
              refine Run.pure (dd := some 13) rfl rfl (op_move rfl (Opd.tmp _ _ rfl)) ?_
              refine Run.nil (FinR.mk ?_)
              refine nK ?_
              refine Next.weakS [0] [] (by rfl) (keepsN hC _ rfl) (by repeat (first | exact trivial | refine ⟨⟨_, rfl, .inl ⟨rfl, rfl⟩⟩, ?_⟩ | refine ⟨⟨_, rfl, .inl ⟨slEq rfl tN, rfl⟩⟩, ?_⟩ | refine ⟨⟨_, rfl, .inl ⟨ivEq tX, rfl⟩⟩, ?_⟩)) (by repeat (first | exact trivial | refine ⟨ent_same rfl rfl rfl tL, ?_⟩ | refine ⟨ent_same rfl rfl (rfEq rfl tU) tL, ?_⟩ | refine ⟨ent_same rfl rfl (flEq rfl (by first | (simp; done) | (simp; omega) | (simp [encP, encW, encY, encMs, encBn, encSn, encFe]; done) | simp [maxC, minC])) trivial, ?_⟩)) rfl (hK1 ho)
      · have hie : i = l.length := by simp at hb; omega
        rw [hie, List.drop_length] at ho
        have hz : rtsE ro none l = 0 := by rw [← ho]; cases prvG l l.length <;> rfl
        rw [hz]
        refine nK ?_
        refine s_reg rfl ?_
        refine Run.pure (dd := some 4) rfl rfl (op_assign rfl (Opd.const _)) ?_
        refine Run.nil (FinR.mk ?_)
        refine nK ?_
        refine Next.weakS [0] [] (by rfl) (keepsN hC _ rfl) (G' := [(4, IV .i64 0)]) (H' := [(0, R7 (If .u32 ro) f1 f2 f3 f4 f5 out)]) (by repeat (first | exact trivial | refine ⟨⟨_, rfl, .inl ⟨rfl, rfl⟩⟩, ?_⟩ | refine ⟨⟨_, rfl, .inl ⟨slEq rfl tN, rfl⟩⟩, ?_⟩ | refine ⟨⟨_, rfl, .inl ⟨ivEq tX, rfl⟩⟩, ?_⟩)) (by repeat (first | exact trivial | refine ⟨ent_same rfl rfl rfl tL, ?_⟩ | refine ⟨ent_same rfl rfl (rfEq rfl tU) tL, ?_⟩ | refine ⟨ent_same rfl rfl (flEq rfl (by first | (simp; done) | (simp; omega) | (simp [encP, encW, encY, encMs, encBn, encSn, encFe]; done) | simp [maxC, minC])) trivial, ?_⟩)) rfl ?_
        exact n_out1 rfl (by rfl) rfl rfl
theorem routeT0_c (x : Fec) (p : Pfx) : Pure Try.prog 81 [.agg (encFe x), .agg (encP p)] (If .i64 (cmpP x.px p)) := by
  have k := pcmp_c x.px p
  refine Meets.intro Try.func81 rfl (Nat.le_of_ble_eq_true rfl) fun C hC => ?_
  simp only [List.map, argEnv, Nat.reduceAdd]
  refine nK ?_
  refine s_reg rfl ?_
  refine Run.eff (dd := some 2) rfl rfl (op_box_flat rfl (Opd.tmp _ _ rfl) tC rfl) ?_
  refine Run.eff (dd := some 3) rfl rfl (op_box_flat rfl (Opd.tmp _ _ rfl) tC rfl) ?_
  refine Run.pure (dd := some 4) rfl rfl (op_assign rfl (Opd.const _)) ?_
  refine Run.nil (FinR.mk ?_)
  refine nK ?_
  refine s_reg rfl ?_
  refine Run.pure (dd := some 5) rfl rfl (op_fld_ptr (by decide) rfl (Opd.tmp _ _ rfl)) ?_
  refine Run.load (dd := some 6) rfl rfl (op_loadn_flat rfl (Opd.tmp _ _ rfl) tH tR tR) ?_
  refine Run.load (dd := some 7) rfl rfl (op_loadw_flat rfl (Opd.tmp _ _ rfl) tH rfl) ?_
  refine Run.pure (dd := some 8) rfl rfl (op_call_pure (fun _ => k) rfl (Opd.func _) (Opds.cons _ _ _ _ (Opd.tmp _ _ rfl) (Opds.cons _ _ _ _ (Opd.tmp _ _ rfl) Opds.nil))) ?_
  refine Run.pure (dd := some 4) rfl rfl (op_assign rfl (Opd.tmp _ _ rfl)) ?_
  refine Run.nil (FinR.mk ?_)
  refine nK ?_
  (first | exact s_o1 hC rfl tV | exact s_o2 hC rfl tV tV | exact s_o3 hC rfl tV tV tV | exact s_o4 hC rfl tV tV tV tV | exact s_out0 hC rfl | exact s_outO hC rfl rfl rfl)
theorem routeT_c (x : Fec) (p : Pfx) : Pure Try.prog 81 ([.agg (encFe x), .agg (encP p)] ++ []) (If .i64 (cmpP x.px p)) := routeT0_c x p
theorem bsearchX_c (l : List Fec) (p : Pfx) (hn : l.length ≤ 2000000) : Pure Try.prog 80 [VFe l, .agg (encP p), .clo 81 []] (.tup [If .i64 (bsX p l : Nat), Bf (hitX p l)]) := by
  refine Meets.intro Try.func80 rfl (Nat.le_of_ble_eq_true rfl) fun C hC => ?_
  simp only [List.map, argEnv, Nat.reduceAdd]
  refine nK ?_
  refine s_reg rfl ?_
  refine Run.eff (dd := some 4) rfl rfl (op_box_flat rfl (Opd.tmp _ _ rfl) tC rfl) ?_
  refine Run.pure (dd := some 6) rfl rfl (op_assign rfl (Opd.const _)) ?_
  refine Run.pure (dd := some 7) rfl rfl (op_assign rfl (Opd.const _)) ?_
  refine Run.nil (FinR.mk ?_)
  refine nK ?_
  refine s_reg rfl ?_
  refine Run.pure (dd := some 12) rfl rfl (op_move rfl (Opd.tmp _ _ rfl)) ?_
  refine Run.pure (dd := some 13) rfl rfl (op_len_fz rfl (by first | exact Opd.tmp _ _ rfl | exact Opd.nil _ _ (Opd.tmp _ _ rfl)) (by first | exact List.length_map _ | rfl)) ?_
  refine Run.pure (dd := some 8) rfl rfl (op_assign rfl (Opd.tmp _ _ rfl)) ?_
  refine Run.nil (FinR.mk ?_)
  refine nK ?_
  refine s_reg rfl ?_
  refine Run.pure (dd := some 14) rfl rfl (op_move rfl (Opd.tmp _ _ rfl)) ?_
  refine Run.pure (dd := some 9) rfl rfl (op_assign rfl (Opd.const _)) ?_
  refine Run.pure (dd := some 10) rfl rfl (op_assign rfl (Opd.tmp _ _ rfl)) ?_
  refine Run.nil (FinR.mk ?_)
  refine nK ?_
  refine n_loop (ι := Nat × Nat) (fun g => ([(0, .fz (VFe l)), (2, .fz (.clo 81 [])), (4, .ptr 0 2 0 0), (8, IV .i64 l.length), (9, IV .i64 g.1), (10, IV .i64 g.2)], [(0, some (.flat 2 [encP p]))], 1)) (fun g => g.1 ≤ g.2 ∧ g.2 ≤ l.length ∧ bsGo (fun x : Fec => decide (cmpP x.px p < 0)) l g.1 g.2 = bsX p l) (fun g => g.2 - g.1) (0, l.length) ⟨Nat.zero_le _, Nat.le_refl _, rfl⟩ ?_ ?_
  · refine Next.weakS [4] [] (by rfl) (by first | exact keeps0 hC _ | exact keepsN hC _ rfl) (by repeat (first | exact trivial | refine ⟨⟨_, rfl, .inl ⟨rfl, rfl⟩⟩, ?_⟩ | refine ⟨⟨_, rfl, .inl ⟨slEq rfl tN, rfl⟩⟩, ?_⟩ | refine ⟨⟨_, rfl, .inl ⟨ivEq tX, rfl⟩⟩, ?_⟩)) (by repeat (first | exact trivial | refine ⟨ent_same rfl rfl rfl tL, ?_⟩ | refine ⟨ent_same rfl rfl (rfEq rfl tU) tL, ?_⟩ | refine ⟨ent_same rfl rfl (flEq rfl (by first | (simp; done) | (simp; omega) | (simp [encP, encW, encY, encMs, encBn, encSn, encFe]; done) | simp [maxC, minC])) trivial, ?_⟩)) rfl (rel_intro)
  · intro ⟨i, j⟩ ⟨hi, hj, ho⟩ K hK
    dsimp only at hi hj ho ⊢
    refine nK ?_
    refine s_reg rfl ?_
    refine Run.pure (dd := some 15) rfl rfl (op_move rfl (Opd.tmp _ _ rfl)) ?_
    refine Run.pure (dd := some 16) rfl rfl (op_move rfl (Opd.tmp _ _ rfl)) ?_
    refine Run.pure (dd := some 17) rfl rfl (op_lss rfl (Opd.tmp _ _ rfl) (Opd.tmp _ _ rfl)) ?_
    refine Run.nil (FinR.mk ?_)
    refine nK ?_
    refine n_cond _ rfl (fun hb => ?_) (fun hb => ?_)
    · have hlt : i < j := by simp at hb; omega
      have hm : (i + j) / 2 < l.length := by omega
      have hr1 := row_at' encFe l ((i + j) / 2) hm
      have hst := bsGo_step (fun x : Fec => decide (cmpP x.px p < 0)) l i j hlt hj
      rw [ho] at hst
      have hKl := fun h => hK (((i + j) / 2) + 1, j) ⟨by dsimp only; omega, by dsimp only; omega, h⟩ (by dsimp only; omega)
      have hKr := fun h => hK (i, (i + j) / 2) ⟨by dsimp only; omega, by dsimp only; omega, h⟩ (by dsimp only; omega)
      generalize l[(i + j) / 2] = e at *
      refine nK ?_
      refine s_reg rfl ?_
      refine Run.pure (dd := some 18) rfl rfl (op_move rfl (Opd.tmp _ _ rfl)) ?_
      refine Run.pure (dd := some 19) rfl rfl (op_move rfl (Opd.tmp _ _ rfl)) ?_
      refine Run.pure (dd := some 20) rfl rfl (op_add rfl (Opd.tmp _ _ rfl) (Opd.tmp _ _ rfl) tI) ?_
      refine Run.pure (dd := some 21) rfl rfl (op_conv rfl (Opd.tmp _ _ rfl) tI) ?_
      refine Run.pure (dd := some 22) rfl rfl (op_shr (n := 1) rfl (Opd.tmp _ _ rfl) (Opd.const _) (by intro _; simp only [IntKind.bits]; omega)) ?_
      refine Run.pure (dd := some 23) rfl rfl (op_conv rfl (Opd.tmp _ _ rfl) tI) ?_
      refine Run.pure (dd := some 11) rfl rfl (op_assign rfl (Opd.tmp _ _ rfl)) ?_
      refine Run.nil (FinR.mk ?_)
      refine nK ?_
      refine s_draw mixed ?_
      refine Run.pure (dd := some 24) rfl rfl (op_move rfl (Opd.tmp _ _ rfl)) ?_
      refine Run.pure (dd := some 25) rfl rfl (op_move rfl (Opd.tmp _ _ rfl)) ?_
      refine Run.pure (dd := some 26) rfl rfl (op_move rfl (Opd.tmp _ _ rfl)) ?_
      refine Run.pure (dd := some 27) rfl rfl (op_idx_fz ((i + j) / 2) rfl (Opd.tmp _ _ rfl) (Opd.tmp _ _ rfl) (by intro _; exact ⟨by omega, hr1⟩)) ?_
      refine Run.pure (dd := some 28) rfl rfl (op_loadw_fz rfl (Opd.tmp _ _ rfl) rfl) ?_
      refine Run.load (dd := some 29) rfl rfl (op_loadw_flat rfl (Opd.tmp _ _ rfl) tH rfl) ?_
      refine Run.pure (dd := some 30) rfl rfl (op_call_pureC (fun _ => routeT_c e p) rfl (Opd.tmp _ _ rfl) (Opds.cons _ _ _ _ (Opd.tmp _ _ rfl) (Opds.cons _ _ _ _ (Opd.tmp _ _ rfl) Opds.nil))) ?_
      refine Run.pure (dd := some 31) rfl rfl (op_lss rfl (Opd.tmp _ _ rfl) (Opd.const _)) ?_
      refine Run.nil (FinD.mk (by kernel_rfl) ?_)
      refine nK ?_
      refine n_cond _ rfl (fun hb => ?_) (fun hb => ?_)
      · simp only [hb, cond_true] at hst
        refine nK ?_
        refine s_reg rfl ?_
        refine Run.pure (dd := some 32) rfl rfl (op_move rfl (Opd.tmp _ _ rfl)) ?_
        refine Run.pure (dd := some 33) rfl rfl (op_add rfl (Opd.tmp _ _ rfl) (Opd.const _) tI) ?_
        refine Run.pure (dd := some 9) rfl rfl (op_assign rfl (Opd.tmp _ _ rfl)) ?_
        refine Run.nil (FinR.mk ?_)
        refine nK ?_
        refine Next.weakS [4] [] (by rfl) (by first | exact keeps0 hC _ | exact keepsN hC _ rfl) (by repeat (first | exact trivial | refine ⟨⟨_, rfl, .inl ⟨rfl, rfl⟩⟩, ?_⟩ | refine ⟨⟨_, rfl, .inl ⟨slEq rfl tN, rfl⟩⟩, ?_⟩ | refine ⟨⟨_, rfl, .inl ⟨ivEq tX, rfl⟩⟩, ?_⟩)) (by repeat (first | exact trivial | refine ⟨ent_same rfl rfl rfl tL, ?_⟩ | refine ⟨ent_same rfl rfl (rfEq rfl tU) tL, ?_⟩ | refine ⟨ent_same rfl rfl (flEq rfl (by first | (simp; done) | (simp; omega) | (simp [encP, encW, encY, encMs, encBn, encSn, encFe]; done) | simp [maxC, minC])) trivial, ?_⟩)) rfl ((hKl hst.symm))
      · simp only [hb, cond_false] at hst
        refine nK ?_
        refine s_reg rfl ?_
        refine Run.pure (dd := some 34) rfl rfl (op_move rfl (Opd.tmp _ _ rfl)) ?_
        refine Run.pure (dd := some 10) rfl rfl (op_assign rfl (Opd.tmp _ _ rfl)) ?_
        refine Run.nil (FinR.mk ?_)
        refine nK ?_
        refine Next.weakS [4] [] (by rfl) (by first | exact keeps0 hC _ | exact keepsN hC _ rfl) (by repeat (first | exact trivial | refine ⟨⟨_, rfl, .inl ⟨rfl, rfl⟩⟩, ?_⟩ | refine ⟨⟨_, rfl, .inl ⟨slEq rfl tN, rfl⟩⟩, ?_⟩ | refine ⟨⟨_, rfl, .inl ⟨ivEq tX, rfl⟩⟩, ?_⟩)) (by repeat (first | exact trivial | refine ⟨ent_same rfl rfl rfl tL, ?_⟩ | refine ⟨ent_same rfl rfl (rfEq rfl tU) tL, ?_⟩ | refine ⟨ent_same rfl rfl (flEq rfl (by first | (simp; done) | (simp; omega) | (simp [encP, encW, encY, encMs, encBn, encSn, encFe]; done) | simp [maxC, minC])) trivial, ?_⟩)) rfl ((hKr hst.symm))
    · have hie : i = j := by simp at hb; omega
      rw [hie, bsGo_end] at ho
      unfold hitX
      rw [← ho]
      rw [hie] at hi ⊢
      obtain ⟨q, hq, hh⟩ := hitAt_eq l j (fun x : Fec => decide (cmpP x.px p = 0))
      rw [hh]
      have hr : j < l.length → (l.map encFe)[j]? = some (encFe q) := fun h => by rw [List.getElem?_map, hq h]; rfl
      refine nK ?_
      refine s_draw mixed ?_
      refine Run.pure (dd := some 35) rfl rfl (op_move rfl (Opd.tmp _ _ rfl)) ?_
      refine Run.pure (dd := some 36) rfl rfl (op_move rfl (Opd.tmp _ _ rfl)) ?_
      refine Run.pure (dd := some 37) rfl rfl (op_move rfl (Opd.tmp _ _ rfl)) ?_
      refine Run.pure (dd := some 38) rfl rfl (op_lss rfl (Opd.tmp _ _ rfl) (Opd.tmp _ _ rfl)) ?_
      refine Run.pure (dd := some 39) rfl rfl (op_move rfl (Opd.tmp _ _ rfl)) ?_
      refine Run.pureG (dd := some 40) rfl rfl rfl tG (op_move rfl (Opd.tmp _ _ rfl)) ?_
      refine Run.pureG (dd := some 41) rfl rfl rfl tG (op_move rfl (Opd.tmp _ _ rfl)) ?_
      refine Run.pureG (dd := some 42) rfl rfl rfl tG (op_move rfl (Opd.tmp _ _ rfl)) ?_
      refine Run.pureG (dd := some 43) rfl rfl rfl tG (op_idx_fz j rfl (Opd.topt _ _ _ rfl tO) (Opd.topt _ _ _ rfl tO) (by intro hg; exact ⟨rfl, hr (by simp at hg; omega)⟩)) ?_
      refine Run.pureG (dd := some 44) rfl rfl rfl tG (op_loadw_fz rfl (Opd.topt _ _ _ rfl tO) rfl) ?_
      refine Run.loadG (dd := some 45) rfl rfl rfl tG (op_loadw_flat rfl (Opd.tmp _ _ rfl) tH rfl) ?_
      refine Run.pureG (dd := some 46) rfl rfl rfl tG (op_call_pureC (fun _ => routeT_c q p) rfl (Opd.topt _ _ _ rfl tO) (Opds.cons _ _ _ _ (Opd.topt _ _ _ rfl tO) (Opds.cons _ _ _ _ (Opd.topt _ _ _ rfl tO) Opds.nil))) ?_
      refine Run.pureG (dd := some 47) rfl rfl rfl tG (op_eql rfl (Opd.topt _ _ _ rfl tO) (Opd.const _)) ?_
      refine Run.pure (dd := some 48) rfl rfl (op_pick_and rfl (Opd.tmp _ _ rfl) (Opd.topt _ _ _ rfl tO)) ?_
      refine Run.pure (dd := some 6) rfl rfl (op_assign rfl (Opd.tmp _ _ rfl)) ?_
      refine Run.pure (dd := some 7) rfl rfl (op_assign rfl (Opd.tmp _ _ rfl)) ?_
      refine Run.nil (FinD.mk (by kernel_rfl) ?_)
      refine nK ?_
      (first | exact s_o1 hC rfl tV | exact s_o2 hC rfl tV tV | exact s_o3 hC rfl tV tV tV | exact s_o4 hC rfl tV tV tV tV | exact s_out0 hC rfl | exact s_outO hC rfl rfl rfl)
theorem route_c (l : List Fec) (p : Pfx) (ha : ascX l) (hn : l.length ≤ 2000000) : Pure Try.prog 62 [VFe l, .agg (encP p)] (.tup [.agg (encFe ((routeF l p).getD zFe)), Bf (routeF l p).isSome]) := by
  have kb := bsearchX_c l p hn
  refine Meets.intro Try.func62 rfl (Nat.le_of_ble_eq_true rfl) fun C hC => ?_
  simp only [List.map, argEnv, Nat.reduceAdd]
  refine nK ?_
  refine s_reg rfl ?_
  refine Run.eff (dd := some 3) rfl rfl (op_box_flat rfl (Opd.tmp _ _ rfl) tC rfl) ?_
  refine Run.eff (dd := some 4) rfl rfl (op_alloc rfl rfl rfl rfl) ?_
  refine Run.pure (dd := some 5) rfl rfl (op_assign rfl (Opd.const _)) ?_
  refine Run.nil (FinR.mk ?_)
  refine nK ?_
  refine s_reg rfl ?_
  refine Run.pure (dd := some 9) rfl rfl (op_move rfl (Opd.tmp _ _ rfl)) ?_
  refine Run.load (dd := some 10) rfl rfl (op_loadw_flat rfl (Opd.tmp _ _ rfl) tH rfl) ?_
  refine Run.pure (dd := some 11) rfl rfl (op_call_pure (fun _ => kb) rfl (Opd.func _) (Opds.cons _ _ _ _ (Opd.tmp _ _ rfl) (Opds.cons _ _ _ _ (Opd.tmp _ _ rfl) (Opds.cons _ _ _ _ (Opd.funcF _) Opds.nil)))) ?_
  refine Run.pure (dd := some 8) rfl rfl (op_move rfl (Opd.tmp _ _ rfl)) ?_
  refine Run.pure (dd := some 12) rfl rfl (op_extract_fz rfl (Opd.tmp _ _ rfl) rfl) ?_
  refine Run.pure (dd := some 13) rfl rfl (op_extract_fz rfl (Opd.tmp _ _ rfl) rfl) ?_
  refine Run.pure (dd := some 6) rfl rfl (op_assign rfl (Opd.tmp _ _ rfl)) ?_
  refine Run.pure (dd := some 7) rfl rfl (op_assign rfl (Opd.tmp _ _ rfl)) ?_
  refine Run.nil (FinR.mk ?_)
  refine nK ?_
  refine s_reg rfl ?_
  refine Run.pure (dd := some 14) rfl rfl (op_move rfl (Opd.tmp _ _ rfl)) ?_
  refine Run.pure (dd := some 15) rfl rfl (op_not rfl (Opd.tmp _ _ rfl)) ?_
  refine Run.nil (FinR.mk ?_)
  refine nK ?_
  rcases bsX_find ha with ⟨h1, h2⟩ | ⟨hlt, h1, h2⟩
  · rw [h1, h2]
    refine nK ?_
    refine n_cond _ rfl (fun hb => ?_) (fun hb => ?_)
    · refine nK ?_
      refine s_reg rfl ?_
      refine Run.pure (dd := some 16) rfl rfl (op_build rfl rfl rfl (FillF.nil _)) ?_
      refine Run.eff (dd := none) rfl rfl (op_store_flat rfl (Opd.tmp _ _ rfl) (Opd.tmp _ _ rfl) tC rfl rfl (by first | rfl | assumption) tS) ?_
      refine Run.pure (dd := some 5) rfl rfl (op_assign rfl (Opd.const _)) ?_
      refine Run.nil (FinR.mk ?_)
      refine nK ?_
      refine Next.weakS [4] [] (by rfl) (keeps0 hC _) (G' := [(4, .ptr 0 4 0 0), (5, BV false)]) (H' := [(0, some (.flat 4 [encFe zFe]))]) (by repeat (first | exact trivial | refine ⟨⟨_, rfl, .inl ⟨rfl, rfl⟩⟩, ?_⟩ | refine ⟨⟨_, rfl, .inl ⟨slEq rfl tN, rfl⟩⟩, ?_⟩ | refine ⟨⟨_, rfl, .inl ⟨ivEq tX, rfl⟩⟩, ?_⟩)) (by exact ⟨⟨rfl, rfl, .fflat _ _ _ rfl tW⟩, trivial⟩) rfl ?_
      (first | exact s_o1 hC rfl tV | exact s_o2 hC rfl tV tV | exact s_o3 hC rfl tV tV tV | exact s_o4 hC rfl tV tV tV tV | exact s_out0 hC rfl | exact s_outO hC rfl rfl rfl)
    · simp at hb
  · have hr1 := row_at' encFe l (bsX p l) hlt
    rw [h1, h2]
    generalize l[bsX p l] = x at *
    generalize bsX p l = k at *
    refine nK ?_
    refine n_cond _ rfl (fun hb => ?_) (fun hb => ?_)
    · simp at hb
    · refine nK ?_
      refine s_reg rfl ?_
      refine Run.pure (dd := some 17) rfl rfl (op_move rfl (Opd.tmp _ _ rfl)) ?_
      refine Run.pure (dd := some 18) rfl rfl (op_move rfl (Opd.tmp _ _ rfl)) ?_
      refine Run.pure (dd := some 19) rfl rfl (op_idx_fz k rfl (Opd.tmp _ _ rfl) (Opd.tmp _ _ rfl) (by intro _; exact ⟨rfl, hr1⟩)) ?_
      refine Run.pure (dd := some 20) rfl rfl (op_loadw_fz rfl (Opd.tmp _ _ rfl) rfl) ?_
      refine Run.eff (dd := none) rfl rfl (op_store_flat rfl (Opd.tmp _ _ rfl) (Opd.tmp _ _ rfl) tC rfl rfl (by first | rfl | assumption) tS) ?_
      refine Run.pure (dd := some 5) rfl rfl (op_assign rfl (Opd.const _)) ?_
      refine Run.nil (FinR.mk ?_)
      refine nK ?_
      (first | exact s_o1 hC rfl tV | exact s_o2 hC rfl tV tV | exact s_o3 hC rfl tV tV tV | exact s_o4 hC rfl tV tV tV tV | exact s_out0 hC rfl | exact s_outO hC rfl rfl rfl)
open Go Go.RT Go.Proofs Go.Pl
set_option maxRecDepth 20000
set_option maxHeartbeats 2000000
abbrev R7d (ro : Int) (f3 : FV) (ps : List Int) (f5 : FV) (d : DSt) : Option Ob := R7 (If .u32 ro) (VRg d.1) (VBn d.2.1) f3 (VW ps) f5 d.2.2
theorem bind_m (ro : Int) (f3 f5 : FV) (ps : List Int) (d : DSt) (x : Fec) (hx : x.px.ok) (h1 : d.1.length ≤ 1000000) (h2 : d.2.1.length ≤ 1000000) (h3 : d.2.2.length + ps.length ≤ 1000000) : Meets Try.prog 64 [.ptr 0 7 0 0, .fz (.agg (encFe x))] 1 [(0, R7d ro f3 ps f5 d)] (.fz (.tup [])) [(0, R7d ro f3 ps f5 (bindS ro ps d x))] 1 := by
  obtain ⟨fr, lc, out⟩ := d
  dsimp only at h1 h2 h3
  have kf := find_c lc x.px ro (by omega)
  have kt := ltake_c fr h1
  unfold bindS R7d
  dsimp only
  refine Meets.intro Try.func64 rfl (Nat.le_of_ble_eq_true rfl) fun C hC => ?_
  simp only [List.map, argEnv, Nat.reduceAdd]
  refine nK ?_
  refine s_reg rfl ?_
  refine Run.eff (dd := some 3) rfl rfl (op_box_flat rfl (Opd.tmp _ _ rfl) tC rfl) ?_
  refine Run.nil (FinR.mk ?_)
  refine nK ?_
  refine s_draw mixed ?_
  refine Run.pure (dd := some 11) rfl rfl (op_move rfl (Opd.tmp _ _ rfl)) ?_
  refine Run.pure (dd := some 12) rfl rfl (op_nilck_ptr rfl (Opd.tmp _ _ rfl)) ?_
  refine Run.pure (dd := some 13) rfl rfl (op_fld_ptr (by decide) rfl (Opd.tmp _ _ rfl)) ?_
  refine Run.pure (dd := some 14) rfl rfl (op_fld_ptr (by decide) rfl (Opd.tmp _ _ rfl)) ?_
  refine Run.load (dd := some 15) rfl rfl (op_load1_refs rfl (Opd.tmp _ _ rfl) tH rfl) ?_
  refine Run.pure (dd := some 16) rfl rfl (op_fld_ptr (by decide) rfl (Opd.tmp _ _ rfl)) ?_
  refine Run.load (dd := some 17) rfl rfl (op_loadn_flat rfl (Opd.tmp _ _ rfl) tH tR tR) ?_
  refine Run.pure (dd := some 18) rfl rfl (op_move rfl (Opd.tmp _ _ rfl)) ?_
  refine Run.pure (dd := some 19) rfl rfl (op_nilck_ptr rfl (Opd.tmp _ _ rfl)) ?_
  refine Run.pure (dd := some 20) rfl rfl (op_fld_ptr (by decide) rfl (Opd.tmp _ _ rfl)) ?_
  refine Run.pure (dd := some 21) rfl rfl (op_fld_ptr (by decide) rfl (Opd.tmp _ _ rfl)) ?_
  refine Run.load (dd := some 22) rfl rfl (op_load1_refs rfl (Opd.tmp _ _ rfl) tH rfl) ?_
  refine Run.pure (dd := some 23) rfl rfl (op_call_pure (fun _ => kf) rfl (Opd.func _) (Opds.cons _ _ _ _ (Opd.tmp _ _ rfl) (Opds.cons _ _ _ _ (Opd.tmp _ _ rfl) (Opds.cons _ _ _ _ (Opd.tmp _ _ rfl) Opds.nil)))) ?_
  refine Run.pure (dd := some 10) rfl rfl (op_move rfl (Opd.tmp _ _ rfl)) ?_
  refine Run.pure (dd := some 24) rfl rfl (op_extract_fz rfl (Opd.tmp _ _ rfl) rfl) ?_
  refine Run.pure (dd := some 25) rfl rfl (op_extract_fz rfl (Opd.tmp _ _ rfl) rfl) ?_
  refine Run.pure (dd := some 4) rfl rfl (op_assign rfl (Opd.tmp _ _ rfl)) ?_
  refine Run.pure (dd := some 5) rfl rfl (op_assign rfl (Opd.tmp _ _ rfl)) ?_
  refine Run.nil (FinD.mk (by kernel_rfl) ?_)
  refine nK ?_
  refine Next.weakS [0] [3] (by rfl) (keepsN hC _ rfl) (G' := [(0, .ptr 0 7 0 0), (3, .fz (.cellp (encFe x))), (5, BV (findB lc x.px ro).isSome)]) (H' := [(0, R7 (If .u32 ro) (VRg fr) (VBn lc) f3 (VW ps) f5 out)]) (by repeat (first | exact trivial | refine ⟨⟨_, rfl, .inl ⟨rfl, rfl⟩⟩, ?_⟩ | refine ⟨⟨_, rfl, .inl ⟨slEq rfl tN, rfl⟩⟩, ?_⟩ | refine ⟨⟨_, rfl, .inl ⟨ivEq tX, rfl⟩⟩, ?_⟩ | refine ⟨⟨_, rfl, .inr ⟨_, rfl, tW⟩⟩, ?_⟩)) (by repeat (first | exact trivial | refine ⟨ent_same rfl rfl rfl tL, ?_⟩ | refine ⟨ent_same rfl rfl (rfEq rfl tU) tL, ?_⟩ | refine ⟨ent_same rfl rfl (flEq rfl (by first | (simp; done) | (simp; omega) | (simp [encP, encW, encY, encMs, encBn, encSn, encFe]; done) | simp [maxC, minC])) trivial, ?_⟩)) rfl ?_
  refine nK ?_
  refine s_reg rfl ?_
  refine Run.pure (dd := some 26) rfl rfl (op_move rfl (Opd.tmp _ _ rfl)) ?_
  refine Run.nil (FinR.mk ?_)
  refine nK ?_
  refine n_cond _ rfl (fun hb => ?_) (fun hb => ?_)
  · rw [if_pos hb]
    refine nK ?_
    refine Next.weakS [0] [] (by rfl) (keepsN hC _ rfl) (G' := []) (H' := [(0, R7 (If .u32 ro) (VRg fr) (VBn lc) f3 (VW ps) f5 out)]) trivial (by repeat (first | exact trivial | refine ⟨ent_same rfl rfl rfl tL, ?_⟩ | refine ⟨ent_same rfl rfl (rfEq rfl tU) tL, ?_⟩ | refine ⟨ent_same rfl rfl (flEq rfl (by first | (simp; done) | (simp; omega) | (simp [encP, encW, encY, encMs, encBn, encSn, encFe]; done) | simp [maxC, minC])) trivial, ?_⟩)) rfl ?_
    exact n_out0 rfl
  · rw [if_neg (by rw [hb]; decide)]
    refine nK ?_
    refine s_reg rfl ?_
    refine Run.pure (dd := some 6) rfl rfl (op_assign rfl (Opd.const _)) ?_
    refine Run.nil (FinR.mk ?_)
    refine nK ?_
    refine s_reg rfl ?_
    refine Run.pure (dd := some 27) rfl rfl (op_fld_fz (by decide) rfl (Opd.tmp _ _ rfl) tR) ?_
    refine Run.pure (dd := some 28) rfl rfl (op_load1_fz rfl (Opd.tmp _ _ rfl) rfl) ?_
    refine Run.pure (dd := some 29) rfl rfl (op_not rfl (Opd.tmp _ _ rfl)) ?_
    refine Run.nil (FinR.mk ?_)
    refine nK ?_
    refine n_cond _ rfl (fun hb => ?_) (fun hb => ?_)
    · rw [if_neg (by simpa using hb)]
      have hok := fun h => takeF_ok (l := fr) h
      generalize takeF fr = t at *
      obtain ⟨n, fr2, e⟩ := t
      dsimp only at kt hok ⊢
      refine nK ?_
      refine s_reg rfl ?_
      refine Run.pure (dd := some 31) rfl rfl (op_move rfl (Opd.tmp _ _ rfl)) ?_
      refine Run.pure (dd := some 32) rfl rfl (op_nilck_ptr rfl (Opd.tmp _ _ rfl)) ?_
      refine Run.pure (dd := some 33) rfl rfl (op_fld_ptr (by decide) rfl (Opd.tmp _ _ rfl)) ?_
      refine Run.pure (dd := some 34) rfl rfl (op_fld_ptr (by decide) rfl (Opd.tmp _ _ rfl)) ?_
      refine Run.load (dd := some 35) rfl rfl (op_load1_refs rfl (Opd.tmp _ _ rfl) tH rfl) ?_
      refine Run.pure (dd := some 36) rfl rfl (op_call_pure (fun _ => kt) rfl (Opd.func _) (Opds.cons _ _ _ _ (Opd.tmp _ _ rfl) Opds.nil)) ?_
      refine Run.pure (dd := some 30) rfl rfl (op_move rfl (Opd.tmp _ _ rfl)) ?_
      refine Run.pure (dd := some 37) rfl rfl (op_extract_fz rfl (Opd.tmp _ _ rfl) rfl) ?_
      refine Run.pure (dd := some 38) rfl rfl (op_extract_fz rfl (Opd.tmp _ _ rfl) rfl) ?_
      refine Run.pure (dd := some 39) rfl rfl (op_extract_fz rfl (Opd.tmp _ _ rfl) rfl) ?_
      refine Run.pure (dd := some 7) rfl rfl (op_assign rfl (Opd.tmp _ _ rfl)) ?_
      refine Run.pure (dd := some 8) rfl rfl (op_assign rfl (Opd.tmp _ _ rfl)) ?_
      refine Run.pure (dd := some 9) rfl rfl (op_assign rfl (Opd.tmp _ _ rfl)) ?_
      refine Run.nil (FinR.mk ?_)
      refine nK ?_
      refine s_reg rfl ?_
      refine Run.pure (dd := some 40) rfl rfl (op_move rfl (Opd.tmp _ _ rfl)) ?_
      refine Run.pure (dd := some 41) rfl rfl (op_neq rfl (Opd.tmp _ _ rfl) (Opd.const _)) ?_
      refine Run.nil (FinR.mk ?_)
      refine nK ?_
      refine n_cond _ rfl (fun hb => ?_) (fun hb => ?_)
      · rw [if_pos (by simpa using hb)]
        refine nK ?_
        refine Next.weakS [0] [] (by rfl) (keepsN hC _ rfl) (G' := []) (H' := [(0, R7 (If .u32 ro) (VRg fr) (VBn lc) f3 (VW ps) f5 out)]) trivial (by repeat (first | exact trivial | refine ⟨ent_same rfl rfl rfl tL, ?_⟩ | refine ⟨ent_same rfl rfl (rfEq rfl tU) tL, ?_⟩ | refine ⟨ent_same rfl rfl (flEq rfl (by first | (simp; done) | (simp; omega) | (simp [encP, encW, encY, encMs, encBn, encSn, encFe]; done) | simp [maxC, minC])) trivial, ?_⟩)) rfl ?_
        exact n_out0 rfl
      · rw [if_neg (by simpa using hb)]
        have hn := hok (by simpa using hb)
        have kb := bind_c lc ⟨x.px, ro, n⟩ h2
        have ks := send_m (If .u32 ro) (VRg fr2) (VBn (bindL lc ⟨x.px, ro, n⟩)) f3 (VW ps) f5 out 1 n x.px ps ⟨by simp [inr], hx, by simp only [inr]; omega⟩ h3
        refine nK ?_
        refine s_reg rfl ?_
        refine Run.pure (dd := some 42) rfl rfl (op_move rfl (Opd.tmp _ _ rfl)) ?_
        refine Run.pure (dd := some 43) rfl rfl (op_move rfl (Opd.tmp _ _ rfl)) ?_
        refine Run.pure (dd := some 44) rfl rfl (op_move rfl (Opd.tmp _ _ rfl)) ?_
        refine Run.pure (dd := some 6) rfl rfl (op_assign rfl (Opd.tmp _ _ rfl)) ?_
        refine Run.pure (dd := some 45) rfl rfl (op_nilck_ptr rfl (Opd.tmp _ _ rfl)) ?_
        refine Run.pure (dd := some 46) rfl rfl (op_fld_ptr (by decide) rfl (Opd.tmp _ _ rfl)) ?_
        refine Run.pure (dd := some 47) rfl rfl (op_fld_ptr (by decide) rfl (Opd.tmp _ _ rfl)) ?_
        refine Run.eff (dd := none) rfl rfl (op_store_refs rfl (Opd.tmp _ _ rfl) (Opd.tmp _ _ rfl) tP rfl rfl rfl tS) ?_
        refine Run.nil (FinR.mk ?_)
        refine nK ?_
        refine s_draw mixed ?_
        refine Run.pure (dd := some 48) rfl rfl (op_move rfl (Opd.tmp _ _ rfl)) ?_
        refine Run.pure (dd := some 49) rfl rfl (op_move rfl (Opd.tmp _ _ rfl)) ?_
        refine Run.pure (dd := some 50) rfl rfl (op_nilck_ptr rfl (Opd.tmp _ _ rfl)) ?_
        refine Run.pure (dd := some 51) rfl rfl (op_fld_ptr (by decide) rfl (Opd.tmp _ _ rfl)) ?_
        refine Run.pure (dd := some 52) rfl rfl (op_fld_ptr (by decide) rfl (Opd.tmp _ _ rfl)) ?_
        refine Run.load (dd := some 53) rfl rfl (op_load1_refs rfl (Opd.tmp _ _ rfl) tH rfl) ?_
        refine Run.pure (dd := some 54) rfl rfl (op_fld_fz (by decide) rfl (Opd.tmp _ _ rfl) tR) ?_
        refine Run.pure (dd := some 55) rfl rfl (op_loadn_fz rfl (Opd.tmp _ _ rfl) tR) ?_
        refine Run.pure (dd := some 56) rfl rfl (op_move rfl (Opd.tmp _ _ rfl)) ?_
        refine Run.pure (dd := some 57) rfl rfl (op_nilck_ptr rfl (Opd.tmp _ _ rfl)) ?_
        refine Run.pure (dd := some 58) rfl rfl (op_fld_ptr (by decide) rfl (Opd.tmp _ _ rfl)) ?_
        refine Run.pure (dd := some 59) rfl rfl (op_fld_ptr (by decide) rfl (Opd.tmp _ _ rfl)) ?_
        refine Run.load (dd := some 60) rfl rfl (op_load1_refs rfl (Opd.tmp _ _ rfl) tH rfl) ?_
        refine Run.pure (dd := some 61) rfl rfl (op_move rfl (Opd.tmp _ _ rfl)) ?_
        refine Run.pure (dd := some 62) rfl rfl (op_build rfl rfl rfl (FillF.cons _ _ _ _ _ _ _ _ _ _ (by rfl) (Opd.tmp _ _ rfl) tC (by rfl) tR (FillF.cons _ _ _ _ _ _ _ _ _ _ (by rfl) (Opd.tmp _ _ rfl) tC (by rfl) tR (FillF.cons _ _ _ _ _ _ _ _ _ _ (by rfl) (Opd.tmp _ _ rfl) tC (by rfl) tR (FillF.nil _))))) ?_
        refine Run.pure (dd := some 63) rfl rfl (op_call_pure (fun _ => kb) rfl (Opd.func _) (Opds.cons _ _ _ _ (Opd.tmp _ _ rfl) (Opds.cons _ _ _ _ (Opd.tmp _ _ rfl) Opds.nil))) ?_
        refine Run.pure (dd := some 64) rfl rfl (op_nilck_ptr rfl (Opd.tmp _ _ rfl)) ?_
        refine Run.pure (dd := some 65) rfl rfl (op_fld_ptr (by decide) rfl (Opd.tmp _ _ rfl)) ?_
        refine Run.pure (dd := some 66) rfl rfl (op_fld_ptr (by decide) rfl (Opd.tmp _ _ rfl)) ?_
        refine Run.effW (dd := none) rfl rfl (op_store_refs rfl (Opd.tmp _ _ rfl) (Opd.tmp _ _ rfl) tP rfl rfl rfl tS) (by first | exact ext_call | exact tE) ?_
        refine Run.nil (FinD.mk (by kernel_rfl) ?_)
        refine nK ?_
        refine s_draw mixed ?_
        refine Run.pure (dd := some 67) rfl rfl (op_move rfl (Opd.tmp _ _ rfl)) ?_
        refine Run.pure (dd := some 68) rfl rfl (op_fld_fz (by decide) rfl (Opd.tmp _ _ rfl) tR) ?_
        refine Run.pure (dd := some 69) rfl rfl (op_loadn_fz rfl (Opd.tmp _ _ rfl) tR) ?_
        refine Run.pure (dd := some 70) rfl rfl (op_move rfl (Opd.tmp _ _ rfl)) ?_
        refine Run.pure (dd := some 71) rfl rfl (op_move rfl (Opd.tmp _ _ rfl)) ?_
        refine Run.pure (dd := some 72) rfl rfl (op_nilck_ptr rfl (Opd.tmp _ _ rfl)) ?_
        refine Run.pure (dd := some 73) rfl rfl (op_fld_ptr (by decide) rfl (Opd.tmp _ _ rfl)) ?_
        refine Run.pure (dd := some 74) rfl rfl (op_fld_ptr (by decide) rfl (Opd.tmp _ _ rfl)) ?_
        refine Run.load (dd := some 75) rfl rfl (op_load1_refs rfl (Opd.tmp _ _ rfl) tH rfl) ?_
        refine Run.effW (dd := some 76) rfl rfl (op_call (n := 1) (n' := 1) [0] (fun _ => ks) rfl (Opd.func _) (Opds.cons _ _ _ _ (Opd.tmp _ _ rfl) (Opds.cons _ _ _ _ (Opd.const _) (Opds.cons _ _ _ _ (Opd.tmp _ _ rfl) (Opds.cons _ _ _ _ (Opd.tmp _ _ rfl) (Opds.cons _ _ _ _ (Opd.tmp _ _ rfl) Opds.nil))))) rfl rfl (Lent.of rfl rfl (by repeat (first | exact trivial | refine ⟨⟨rfl, rfl, rfl, tL⟩, ?_⟩)) rfl) rfl rfl rfl rfl rfl) (by first | exact ext_call | exact tE) ?_
        refine Run.nil (FinD.mk (by kernel_rfl) ?_)
        refine Next.weakS [0] [] (by rfl) (keepsN hC _ rfl) (G' := []) (H' := [(0, R7 (If .u32 ro) (VRg fr2) (VBn (bindL lc ⟨x.px, ro, n⟩)) f3 (VW ps) f5 (out ++ ps.map fun m => msgS m 1 x.px n))]) trivial (by repeat (first | exact trivial | refine ⟨ent_same rfl rfl rfl tL, ?_⟩ | refine ⟨ent_same rfl rfl (rfEq rfl tU) tL, ?_⟩ | refine ⟨ent_same rfl rfl (flEq rfl (by first | (simp; done) | (simp; omega) | (simp [encP, encW, encY, encMs, encBn, encSn, encFe]; done) | simp [maxC, minC])) trivial, ?_⟩)) rfl ?_
        exact n_out0 rfl
    · rw [if_pos (by simpa using hb)]
      have kb := bind_c lc ⟨x.px, ro, 3⟩ h2
      have ks := send_m (If .u32 ro) (VRg fr) (VBn (bindL lc ⟨x.px, ro, 3⟩)) f3 (VW ps) f5 out 1 3 x.px ps ⟨by simp [inr], hx, by simp only [inr]; omega⟩ h3
      refine nK ?_
      refine s_draw mixed ?_
      refine Run.pure (dd := some 48) rfl rfl (op_move rfl (Opd.tmp _ _ rfl)) ?_
      refine Run.pure (dd := some 49) rfl rfl (op_move rfl (Opd.tmp _ _ rfl)) ?_
      refine Run.pure (dd := some 50) rfl rfl (op_nilck_ptr rfl (Opd.tmp _ _ rfl)) ?_
      refine Run.pure (dd := some 51) rfl rfl (op_fld_ptr (by decide) rfl (Opd.tmp _ _ rfl)) ?_
      refine Run.pure (dd := some 52) rfl rfl (op_fld_ptr (by decide) rfl (Opd.tmp _ _ rfl)) ?_
      refine Run.load (dd := some 53) rfl rfl (op_load1_refs rfl (Opd.tmp _ _ rfl) tH rfl) ?_
      refine Run.pure (dd := some 54) rfl rfl (op_fld_fz (by decide) rfl (Opd.tmp _ _ rfl) tR) ?_
      refine Run.pure (dd := some 55) rfl rfl (op_loadn_fz rfl (Opd.tmp _ _ rfl) tR) ?_
      refine Run.pure (dd := some 56) rfl rfl (op_move rfl (Opd.tmp _ _ rfl)) ?_
      refine Run.pure (dd := some 57) rfl rfl (op_nilck_ptr rfl (Opd.tmp _ _ rfl)) ?_
      refine Run.pure (dd := some 58) rfl rfl (op_fld_ptr (by decide) rfl (Opd.tmp _ _ rfl)) ?_
      refine Run.pure (dd := some 59) rfl rfl (op_fld_ptr (by decide) rfl (Opd.tmp _ _ rfl)) ?_
      refine Run.load (dd := some 60) rfl rfl (op_load1_refs rfl (Opd.tmp _ _ rfl) tH rfl) ?_
      refine Run.pure (dd := some 61) rfl rfl (op_move rfl (Opd.tmp _ _ rfl)) ?_
      refine Run.pure (dd := some 62) rfl rfl (op_build rfl rfl rfl (FillF.cons _ _ _ _ _ _ _ _ _ _ (by rfl) (Opd.tmp _ _ rfl) tC (by rfl) tR (FillF.cons _ _ _ _ _ _ _ _ _ _ (by rfl) (Opd.tmp _ _ rfl) tC (by rfl) tR (FillF.cons _ _ _ _ _ _ _ _ _ _ (by rfl) (Opd.tmp _ _ rfl) tC (by rfl) tR (FillF.nil _))))) ?_
      refine Run.pure (dd := some 63) rfl rfl (op_call_pure (fun _ => kb) rfl (Opd.func _) (Opds.cons _ _ _ _ (Opd.tmp _ _ rfl) (Opds.cons _ _ _ _ (Opd.tmp _ _ rfl) Opds.nil))) ?_
      refine Run.pure (dd := some 64) rfl rfl (op_nilck_ptr rfl (Opd.tmp _ _ rfl)) ?_
      refine Run.pure (dd := some 65) rfl rfl (op_fld_ptr (by decide) rfl (Opd.tmp _ _ rfl)) ?_
      refine Run.pure (dd := some 66) rfl rfl (op_fld_ptr (by decide) rfl (Opd.tmp _ _ rfl)) ?_
      refine Run.effW (dd := none) rfl rfl (op_store_refs rfl (Opd.tmp _ _ rfl) (Opd.tmp _ _ rfl) tP rfl rfl rfl tS) (by first | exact ext_call | exact tE) ?_
      refine Run.nil (FinD.mk (by kernel_rfl) ?_)
      refine nK ?_
      refine s_draw mixed ?_
      refine Run.pure (dd := some 67) rfl rfl (op_move rfl (Opd.tmp _ _ rfl)) ?_
      refine Run.pure (dd := some 68) rfl rfl (op_fld_fz (by decide) rfl (Opd.tmp _ _ rfl) tR) ?_
      refine Run.pure (dd := some 69) rfl rfl (op_loadn_fz rfl (Opd.tmp _ _ rfl) tR) ?_
      refine Run.pure (dd := some 70) rfl rfl (op_move rfl (Opd.tmp _ _ rfl)) ?_
      refine Run.pure (dd := some 71) rfl rfl (op_move rfl (Opd.tmp _ _ rfl)) ?_
      refine Run.pure (dd := some 72) rfl rfl (op_nilck_ptr rfl (Opd.tmp _ _ rfl)) ?_
      refine Run.pure (dd := some 73) rfl rfl (op_fld_ptr (by decide) rfl (Opd.tmp _ _ rfl)) ?_
      refine Run.pure (dd := some 74) rfl rfl (op_fld_ptr (by decide) rfl (Opd.tmp _ _ rfl)) ?_
      refine Run.load (dd := some 75) rfl rfl (op_load1_refs rfl (Opd.tmp _ _ rfl) tH rfl) ?_
      refine Run.effW (dd := some 76) rfl rfl (op_call (n := 1) (n' := 1) [0] (fun _ => ks) rfl (Opd.func _) (Opds.cons _ _ _ _ (Opd.tmp _ _ rfl) (Opds.cons _ _ _ _ (Opd.const _) (Opds.cons _ _ _ _ (Opd.tmp _ _ rfl) (Opds.cons _ _ _ _ (Opd.tmp _ _ rfl) (Opds.cons _ _ _ _ (Opd.tmp _ _ rfl) Opds.nil))))) rfl rfl (Lent.of rfl rfl (by repeat (first | exact trivial | refine ⟨⟨rfl, rfl, rfl, tL⟩, ?_⟩)) rfl) rfl rfl rfl rfl rfl) (by first | exact ext_call | exact tE) ?_
      refine Run.nil (FinD.mk (by kernel_rfl) ?_)
      refine Next.weakS [0] [] (by rfl) (keepsN hC _ rfl) (G' := []) (H' := [(0, R7 (If .u32 ro) (VRg fr) (VBn (bindL lc ⟨x.px, ro, 3⟩)) f3 (VW ps) f5 (out ++ ps.map fun m => msgS m 1 x.px 3))]) trivial (by repeat (first | exact trivial | refine ⟨ent_same rfl rfl rfl tL, ?_⟩ | refine ⟨ent_same rfl rfl (rfEq rfl tU) tL, ?_⟩ | refine ⟨ent_same rfl rfl (flEq rfl (by first | (simp; done) | (simp; omega) | (simp [encP, encW, encY, encMs, encBn, encSn, encFe]; done) | simp [maxC, minC])) trivial, ?_⟩)) rfl ?_
      exact n_out0 rfl
abbrev RRt (f0 f1 f2 f3 f4 : FV) (l : List Fec) : Option Ob := some (.refs 7 [[.fz f0, .fz f1, .fz f2, .fz f3, .fz f4, .own 4 (l.map encFe), .own 2 []]])
theorem routes_m (ro : Int) (f3 : FV) (ps : List Int) (fr : List Rg) (lc : List Bnd) (rt l : List Fec) (hl : ∀ x ∈ l, okFe x) (hlc : ∀ b ∈ lc, okB' b) (hln : l.length ≤ 1000000) (h1 : fr.length ≤ 100000) (h2 : lc.length ≤ 3000) (h3 : ps.length ≤ 100) : Meets Try.prog 41 [.ptr 0 7 0 0, .fz (VFe l)] 1 [(0, R7d ro f3 ps (VFe rt) (fr, lc, []))] (IV .i64 (routesG ro fr lc ps rt l).1) [(0, R7d ro f3 ps (VFe (routesG ro fr lc ps rt l).2.2) (routesG ro fr lc ps rt l).2.1)] 1 := by
  have kc := rcheck_m ro (VRg fr) (VBn lc) f3 (VW ps) (VFe rt) [] l hl (by omega)
  unfold routesG R7d
  dsimp only
  refine Meets.intro Try.func41 rfl (Nat.le_of_ble_eq_true rfl) fun C hC => ?_
  simp only [List.map, argEnv, Nat.reduceAdd]
  refine nK ?_
  refine s_reg rfl ?_
  refine Run.pure (dd := some 4) rfl rfl (op_assign rfl (Opd.const _)) ?_
  refine Run.nil (FinR.mk ?_)
  refine nK ?_
  refine s_reg rfl ?_
  refine Run.pure (dd := some 16) rfl rfl (op_move rfl (Opd.tmp _ _ rfl)) ?_
  refine Run.pure (dd := some 17) rfl rfl (op_move rfl (Opd.tmp _ _ rfl)) ?_
  refine Run.eff (dd := some 18) rfl rfl (op_call (n := 1) (n' := 1) [0] (fun _ => kc) rfl (Opd.func _) (Opds.cons _ _ _ _ (Opd.tmp _ _ rfl) (Opds.cons _ _ _ _ (Opd.tmp _ _ rfl) Opds.nil)) rfl rfl (Lent.of rfl rfl (by repeat (first | exact trivial | refine ⟨⟨rfl, rfl, rfl, tL⟩, ?_⟩)) rfl) rfl rfl rfl rfl rfl) ?_
  refine Run.pure (dd := some 5) rfl rfl (op_assign rfl (Opd.tmp _ _ rfl)) ?_
  refine Run.nil (FinR.mk ?_)
  refine nK ?_
  refine s_reg rfl ?_
  refine Run.pure (dd := some 19) rfl rfl (op_move rfl (Opd.tmp _ _ rfl)) ?_
  refine Run.pure (dd := some 20) rfl rfl (op_neq rfl (Opd.tmp _ _ rfl) (Opd.const _)) ?_
  refine Run.nil (FinR.mk ?_)
  refine nK ?_
  refine n_cond _ rfl (fun hb => ?_) (fun hb => ?_)
  · rw [if_pos (by simpa using hb)]
    refine nK ?_
    refine s_reg rfl ?_
    refine Run.pure (dd := some 21) rfl rfl (op_move rfl (Opd.tmp _ _ rfl)) ?_
    refine Run.pure (dd := some 4) rfl rfl (op_assign rfl (Opd.tmp _ _ rfl)) ?_
    refine Run.nil (FinR.mk ?_)
    refine nK ?_
    refine Next.weakS [0] [] (by rfl) (keepsN hC _ rfl) (G' := [(4, IV .i64 (routesE ro l))]) (H' := [(0, R7 (If .u32 ro) (VRg fr) (VBn lc) f3 (VW ps) (VFe rt) [])]) (by repeat (first | exact trivial | refine ⟨⟨_, rfl, .inl ⟨rfl, rfl⟩⟩, ?_⟩ | refine ⟨⟨_, rfl, .inl ⟨slEq rfl tN, rfl⟩⟩, ?_⟩ | refine ⟨⟨_, rfl, .inl ⟨ivEq tX, rfl⟩⟩, ?_⟩)) (by repeat (first | exact trivial | refine ⟨ent_same rfl rfl rfl tL, ?_⟩ | refine ⟨ent_same rfl rfl (rfEq rfl tU) tL, ?_⟩ | refine ⟨ent_same rfl rfl (flEq rfl (by first | (simp; done) | (simp; omega) | (simp [encP, encW, encY, encMs, encBn, encSn, encFe]; done) | simp [maxC, minC])) trivial, ?_⟩)) rfl ?_
    exact n_out1 rfl (by rfl) rfl rfl
  · have he : routesE ro l = 0 := by simpa using hb
    rw [if_neg (by simpa using he)]
    obtain ⟨hasc, hl2, hval⟩ := routesE_ok he
    dsimp only
    refine nK ?_
    refine s_reg rfl ?_
    refine Run.pure (dd := some 22) rfl rfl (op_move rfl (Opd.tmp _ _ rfl)) ?_
    refine Run.pure (dd := some 23) rfl rfl (op_nilck_ptr rfl (Opd.tmp _ _ rfl)) ?_
    refine Run.pure (dd := some 24) rfl rfl (op_fld_ptr (by decide) rfl (Opd.tmp _ _ rfl)) ?_
    refine Run.pure (dd := some 25) rfl rfl (op_fld_ptr (by decide) rfl (Opd.tmp _ _ rfl)) ?_
    refine Run.eff (dd := none) rfl rfl (op_store_refs rfl (Opd.tmp _ _ rfl) (Opd.const _) tP rfl rfl rfl tS) ?_
    refine Run.nil (FinR.mk ?_)
    refine nK ?_
    refine Next.adoptCell 0 0 5 4 rfl rfl rfl rfl ?_
    refine Next.untake 0 0 5 rfl rfl rfl rfl rfl rfl ?_
    refine nK ?_
    refine s_reg rfl ?_
    refine Run.pure (dd := some 26) rfl rfl (op_move rfl (Opd.tmp _ _ rfl)) ?_
    refine Run.pure (dd := some 27) rfl rfl (op_len_fz rfl (by first | exact Opd.tmp _ _ rfl | exact Opd.nil _ _ (Opd.tmp _ _ rfl)) (by first | exact List.length_map _ | rfl)) ?_
    refine Run.pure (dd := some 28) rfl rfl (op_move rfl (Opd.const _)) ?_
    refine Run.nil (FinR.mk ?_)
    refine nK ?_
    refine n_loop (ι := Nat) (fun i => ([(0, .ptr 0 7 0 0), (26, .fz (VFe l)), (27, IV .i64 l.length), (28, IV .i64 i)], [(0, RRt (If .u32 ro) (VRg fr) (VBn lc) f3 (VW ps) (l.take i))], 1)) (fun i => i ≤ l.length) (fun i => l.length - i) 0 (Nat.zero_le _) ?_ ?_
    · refine Next.weakS [0] [] (by rfl) (keepsN hC _ rfl) (by repeat (first | exact trivial | refine ⟨⟨_, rfl, .inl ⟨rfl, rfl⟩⟩, ?_⟩ | refine ⟨⟨_, rfl, .inl ⟨slEq rfl tN, rfl⟩⟩, ?_⟩ | refine ⟨⟨_, rfl, .inl ⟨ivEq tX, rfl⟩⟩, ?_⟩)) (by repeat (first | exact trivial | refine ⟨ent_same rfl rfl rfl tL, ?_⟩ | refine ⟨ent_same rfl rfl (rfEq rfl tU) tL, ?_⟩ | refine ⟨ent_same rfl rfl (flEq rfl (by first | (simp; done) | (simp; omega) | (simp [encP, encW, encY, encMs, encBn, encSn, encFe]; done) | simp [maxC, minC])) trivial, ?_⟩)) rfl rel_intro
    · intro i hi K hK
      refine nK ?_
      refine s_reg rfl ?_
      refine Run.pure (dd := some 29) rfl rfl (op_lss rfl (Opd.tmp _ _ rfl) (Opd.tmp _ _ rfl)) ?_
      refine Run.nil (FinR.mk ?_)
      refine nK ?_
      refine n_cond _ rfl (fun hb => ?_) (fun hb => ?_)
      · have hlt : i < l.length := by simp at hb; omega
        have hr1 := row_at' encFe l i hlt
        have hK1 := hK (i + 1) (by omega) (by omega)
        rw [List.take_succ_eq_append_getElem hlt] at hK1
        unfold RRt at hK1
        rw [app2'] at hK1
        have hx := hopsE_len (hval _ (List.getElem_mem hlt)).2
        have hol : (l.take i).length ≤ 2000 := by simp; omega
        generalize l.take i = o at *
        generalize l[i] = x at *
        have kw := cloneW_c x.hs (by omega)
        refine nK ?_
        refine s_reg rfl ?_
        refine Run.pure (dd := some 30) rfl rfl (op_idx_fz _ rfl (Opd.tmp _ _ rfl) (Opd.tmp _ _ rfl) tF) ?_
        refine Run.pure (dd := some 31) rfl rfl (op_loadw_fz rfl (Opd.tmp _ _ rfl) rfl) ?_
        refine Run.eff (dd := some 7) rfl rfl (op_alloc rfl rfl rfl rfl) ?_
        refine Run.eff (dd := none) rfl rfl (op_store_flat rfl (Opd.tmp _ _ rfl) (Opd.tmp _ _ rfl) tC rfl rfl (by first | rfl | assumption) tS) ?_
        refine Run.nil (FinR.mk ?_)
        refine nK ?_
        refine s_reg rfl ?_
        refine Run.pure (dd := some 32) rfl rfl (op_fld_ptr (by decide) rfl (Opd.tmp _ _ rfl)) ?_
        refine Run.load (dd := some 33) rfl rfl (op_load1_flat rfl (Opd.tmp _ _ rfl) tH rfl) ?_
        refine Run.pure (dd := some 34) rfl rfl (op_call_pure (fun _ => kw) rfl (Opd.func _) (Opds.cons _ _ _ _ (Opd.tmp _ _ rfl) Opds.nil)) ?_
        refine Run.pure (dd := some 35) rfl rfl (op_fld_ptr (by decide) rfl (Opd.tmp _ _ rfl)) ?_
        refine Run.eff (dd := none) rfl rfl (op_store_flat rfl (Opd.tmp _ _ rfl) (Opd.tmp _ _ rfl) tC rfl rfl (by first | rfl | assumption) tS) ?_
        refine Run.nil (FinR.mk ?_)
        refine nK ?_
        refine Next.take 0 0 5 rfl rfl rfl rfl ?_
        refine nK ?_
        refine s_draw mixed ?_
        refine Run.pure (dd := some 36) rfl rfl (op_move rfl (Opd.tmp _ _ rfl)) ?_
        refine Run.pure (dd := some 37) rfl rfl (op_move rfl (Opd.tmp _ _ rfl)) ?_
        refine Run.pure (dd := some 38) rfl rfl (op_nilck_ptr rfl (Opd.tmp _ _ rfl)) ?_
        refine Run.pure (dd := some 39) rfl rfl (op_fld_ptr (by decide) rfl (Opd.tmp _ _ rfl)) ?_
        refine Run.pure (dd := some 40) rfl rfl (op_fld_ptr (by decide) rfl (Opd.tmp _ _ rfl)) ?_
        refine Run.load (dd := some 41) rfl rfl (op_load1_refs rfl (Opd.tmp _ _ rfl) tH rfl) ?_
        refine Run.load (dd := some 42) rfl rfl (op_loadw_flat rfl (Opd.tmp _ _ rfl) tH rfl) ?_
        refine Run.pure (dd := some 43) rfl rfl (op_buildSlice_fz rfl (RowsF.cons _ _ _ _ _ _ (Opd.tmp _ _ rfl) tC (by rfl) (RowsF.nil _)) rfl rfl) ?_
        refine Run.effW (dd := some 44) rfl rfl (op_append rfl (Opd.tmp _ _ rfl) (Opd.tmp _ _ rfl) rfl (by simp) rfl rfl tB tB) (by first | exact ext_call | exact tE) ?_
        refine Run.pure (dd := some 45) rfl rfl (op_nilck_ptr rfl (Opd.tmp _ _ rfl)) ?_
        refine Run.pure (dd := some 46) rfl rfl (op_fld_ptr (by decide) rfl (Opd.tmp _ _ rfl)) ?_
        refine Run.pure (dd := some 47) rfl rfl (op_fld_ptr (by decide) rfl (Opd.tmp _ _ rfl)) ?_
        refine Run.effW (dd := none) rfl rfl (op_store_refs rfl (Opd.tmp _ _ rfl) (Opd.tmp _ _ rfl) tP rfl rfl rfl tS) (by first | exact ext_call | exact tE) ?_
        refine Run.nil (FinD.mk (by kernel_rfl) ?_)
        refine nK ?_
        refine s_reg rfl ?_
        refine Run.pure (dd := some 48) rfl rfl (op_add rfl (Opd.tmp _ _ rfl) (Opd.const _) tI) ?_
        refine Run.pure (dd := some 28) rfl rfl (op_move rfl (Opd.tmp _ _ rfl)) ?_
        refine Run.nil (FinR.mk ?_)
        refine nK ?_
        refine Next.untake 0 0 5 rfl rfl rfl rfl (by simp) rfl ?_
        refine Next.weakS [0] [] (by rfl) (keepsN hC _ rfl) (by repeat (first | exact trivial | refine ⟨⟨_, rfl, .inl ⟨rfl, rfl⟩⟩, ?_⟩ | refine ⟨⟨_, rfl, .inl ⟨slEq rfl tN, rfl⟩⟩, ?_⟩ | refine ⟨⟨_, rfl, .inl ⟨ivEq tX, rfl⟩⟩, ?_⟩)) (by repeat (first | exact trivial | refine ⟨ent_same rfl rfl rfl tL, ?_⟩ | refine ⟨ent_same rfl rfl (rfEq rfl tU) tL, ?_⟩ | refine ⟨ent_same rfl rfl (flEq rfl (by first | (simp; done) | (simp; omega) | (simp [encP, encW, encY, encMs, encBn, encSn, encFe]; done) | simp [maxC, minC])) trivial, ?_⟩)) rfl hK1
      · have hie : i = l.length := by simp at hb; omega
        rw [hie, List.take_length]
        clear hK
        have kcl := cloneB_c lc (by omega)
        refine nK ?_
        refine Next.take 0 0 5 rfl rfl rfl rfl ?_
        refine Next.freezeCell 0 0 5 _ rfl rfl rfl rfl rfl rfl ?_
        refine nK ?_
        refine s_reg rfl ?_
        refine Run.pure (dd := some 49) rfl rfl (op_move rfl (Opd.tmp _ _ rfl)) ?_
        refine Run.pure (dd := some 50) rfl rfl (op_nilck_ptr rfl (Opd.tmp _ _ rfl)) ?_
        refine Run.pure (dd := some 51) rfl rfl (op_fld_ptr (by decide) rfl (Opd.tmp _ _ rfl)) ?_
        refine Run.pure (dd := some 52) rfl rfl (op_fld_ptr (by decide) rfl (Opd.tmp _ _ rfl)) ?_
        refine Run.load (dd := some 53) rfl rfl (op_load1_refs rfl (Opd.tmp _ _ rfl) tH rfl) ?_
        refine Run.pure (dd := some 54) rfl rfl (op_call_pure (fun _ => kcl) rfl (Opd.func _) (Opds.cons _ _ _ _ (Opd.tmp _ _ rfl) Opds.nil)) ?_
        refine Run.pure (dd := some 55) rfl rfl (op_len_fz rfl (by first | exact Opd.tmp _ _ rfl | exact Opd.nil _ _ (Opd.tmp _ _ rfl)) (by first | exact List.length_map _ | rfl)) ?_
        refine Run.pure (dd := some 56) rfl rfl (op_move rfl (Opd.const _)) ?_
        refine Run.nil (FinR.mk ?_)
        refine nK ?_
        refine n_loop (ι := Nat) (fun i => ([(0, .ptr 0 7 0 0), (54, .fz (VBn lc)), (55, IV .i64 lc.length), (56, IV .i64 i)], [(0, R7d ro f3 ps (VFe l) (pdG ro ps l fr lc i))], 1)) (fun i => i ≤ lc.length) (fun i => lc.length - i) 0 (Nat.zero_le _) ?_ ?_
        · refine Next.weakS [0] [] (by rfl) (keepsN hC _ rfl) (by repeat (first | exact trivial | refine ⟨⟨_, rfl, .inl ⟨rfl, rfl⟩⟩, ?_⟩ | refine ⟨⟨_, rfl, .inl ⟨slEq rfl tN, rfl⟩⟩, ?_⟩ | refine ⟨⟨_, rfl, .inl ⟨ivEq tX, rfl⟩⟩, ?_⟩)) (by repeat (first | exact trivial | refine ⟨ent_same rfl rfl rfl tL, ?_⟩ | refine ⟨ent_same rfl rfl (rfEq rfl tU) tL, ?_⟩ | refine ⟨ent_same rfl rfl (flEq rfl (by first | (simp; done) | (simp; omega) | (simp [encP, encW, encY, encMs, encBn, encSn, encFe]; done) | simp [maxC, minC])) trivial, ?_⟩)) rfl rel_intro
        · intro i hi K hK
          obtain ⟨g1, g2, g3⟩ := pdG_len ro ps l fr lc i hi
          have g4 : i * ps.length ≤ 3000 * 100 := Nat.mul_le_mul (by omega) h3
          refine nK ?_
          refine s_reg rfl ?_
          refine Run.pure (dd := some 57) rfl rfl (op_lss rfl (Opd.tmp _ _ rfl) (Opd.tmp _ _ rfl)) ?_
          refine Run.nil (FinR.mk ?_)
          refine nK ?_
          refine n_cond _ rfl (fun hb => ?_) (fun hb => ?_)
          · have hlt : i < lc.length := by simp at hb; omega
            have hr1 := row_at' encBn lc i hlt
            have hK1 := hK (i + 1) (by omega) (by omega)
            rw [pdG_succ ro ps l fr hlt] at hK1
            have hob := hlc _ (List.getElem_mem hlt)
            generalize pdG ro ps l fr lc i = d at *
            obtain ⟨fr1, lc1, out1⟩ := d
            generalize lc[i] = b at *
            dsimp only at g1 g2 g3
            have kr := route_c l b.px hasc (by omega)
            have ku := unbind_c lc1 b.px ro (by omega)
            have kg := lgive_c fr1 b.la (by omega) hob.la
            have ks := send_m (If .u32 ro) (VRg fr1) (VBn (unbL lc1 b.px ro)) f3 (VW ps) (VFe l) out1 2 b.la b.px ps (hob.msg 2 (by simp [inr])) (by omega)
            have hokb := okB_eq l b
            generalize (routeF l b.px).isSome = rs at *
            generalize (routeF l b.px).getD zFe = rx at *
            unfold pdS R7d at hK1
            dsimp only at hK1
            refine nK ?_
            refine s_reg rfl ?_
            refine Run.pure (dd := some 58) rfl rfl (op_idx_fz _ rfl (Opd.tmp _ _ rfl) (Opd.tmp _ _ rfl) tF) ?_
            refine Run.pure (dd := some 59) rfl rfl (op_loadw_fz rfl (Opd.tmp _ _ rfl) rfl) ?_
            refine Run.eff (dd := some 9) rfl rfl (op_alloc rfl rfl rfl rfl) ?_
            refine Run.eff (dd := none) rfl rfl (op_store_flat rfl (Opd.tmp _ _ rfl) (Opd.tmp _ _ rfl) tC rfl rfl (by first | rfl | assumption) tS) ?_
            refine Run.nil (FinR.mk ?_)
            refine nK ?_
            refine s_draw mixed ?_
            refine Run.pure (dd := some 61) rfl rfl (op_move rfl (Opd.tmp _ _ rfl)) ?_
            refine Run.pure (dd := some 62) rfl rfl (op_nilck_ptr rfl (Opd.tmp _ _ rfl)) ?_
            refine Run.pure (dd := some 63) rfl rfl (op_fld_ptr (by decide) rfl (Opd.tmp _ _ rfl)) ?_
            refine Run.pure (dd := some 64) rfl rfl (op_fld_ptr (by decide) rfl (Opd.tmp _ _ rfl)) ?_
            refine Run.load (dd := some 65) rfl rfl (op_load1_refs rfl (Opd.tmp _ _ rfl) tH rfl) ?_
            refine Run.pure (dd := some 66) rfl rfl (op_fld_ptr (by decide) rfl (Opd.tmp _ _ rfl)) ?_
            refine Run.load (dd := some 67) rfl rfl (op_loadn_flat rfl (Opd.tmp _ _ rfl) tH tR tR) ?_
            refine Run.pure (dd := some 68) rfl rfl (op_call_pure (fun _ => kr) rfl (Opd.func _) (Opds.cons _ _ _ _ (Opd.tmp _ _ rfl) (Opds.cons _ _ _ _ (Opd.tmp _ _ rfl) Opds.nil))) ?_
            refine Run.pure (dd := some 60) rfl rfl (op_move rfl (Opd.tmp _ _ rfl)) ?_
            refine Run.pure (dd := some 69) rfl rfl (op_extract_fz rfl (Opd.tmp _ _ rfl) rfl) ?_
            refine Run.pure (dd := some 70) rfl rfl (op_extract_fz rfl (Opd.tmp _ _ rfl) rfl) ?_
            refine Run.effW (dd := some 10) rfl rfl (op_alloc rfl rfl rfl rfl) (by first | exact ext_call | exact tE) ?_
            refine Run.effW (dd := none) rfl rfl (op_store_flat rfl (Opd.tmp _ _ rfl) (Opd.tmp _ _ rfl) tC rfl rfl (by first | rfl | assumption) tS) (by first | exact ext_call | exact tE) ?_
            refine Run.pure (dd := some 11) rfl rfl (op_assign rfl (Opd.tmp _ _ rfl)) ?_
            refine Run.nil (FinD.mk (by kernel_rfl) ?_)
            refine nK ?_
            refine s_reg rfl ?_
            refine Run.pure (dd := some 71) rfl rfl (op_move rfl (Opd.tmp _ _ rfl)) ?_
            refine Run.pure (dd := some 72) rfl rfl (op_move rfl (Opd.tmp _ _ rfl)) ?_
            refine Run.pureG (dd := some 73) rfl rfl rfl tG (op_fld_ptr (by decide) rfl (Opd.tmp _ _ rfl)) ?_
            refine Run.loadG (dd := some 74) rfl rfl rfl tG (op_load1_flat rfl (Opd.topt _ _ _ rfl tO) tH rfl) ?_
            refine Run.pureG (dd := some 75) rfl rfl rfl tG (op_fld_ptr (by decide) rfl (Opd.tmp _ _ rfl)) ?_
            refine Run.loadG (dd := some 76) rfl rfl rfl tG (op_load1_flat rfl (Opd.topt _ _ _ rfl tO) tH rfl) ?_
            refine Run.pureG (dd := some 77) rfl rfl rfl tG (op_eql rfl (Opd.topt _ _ _ rfl tO) (Opd.const _)) ?_
            refine Run.pureG (dd := some 78) rfl rfl rfl tG (op_eqlB rfl (Opd.topt _ _ _ rfl tO) (Opd.topt _ _ _ rfl tO)) ?_
            refine Run.pure (dd := some 79) rfl rfl (op_pick_and rfl (Opd.tmp _ _ rfl) (Opd.topt _ _ _ rfl tO)) ?_
            refine Run.nil (FinR.mk ?_)
            refine nK ?_
            refine n_cond _ rfl (fun hb => ?_) (fun hb => ?_)
            · have hk : okB l b = true := hokb.trans hb
              rw [if_pos hk] at hK1
              refine nK ?_
              refine s_reg rfl ?_
              refine Run.pure (dd := some 132) rfl rfl (op_add rfl (Opd.tmp _ _ rfl) (Opd.const _) tI) ?_
              refine Run.pure (dd := some 56) rfl rfl (op_move rfl (Opd.tmp _ _ rfl)) ?_
              refine Run.nil (FinR.mk ?_)
              refine nK ?_
              refine Next.weakS [0] [] (by rfl) (keepsN hC _ rfl) (by repeat (first | exact trivial | refine ⟨⟨_, rfl, .inl ⟨rfl, rfl⟩⟩, ?_⟩ | refine ⟨⟨_, rfl, .inl ⟨slEq rfl tN, rfl⟩⟩, ?_⟩ | refine ⟨⟨_, rfl, .inl ⟨ivEq tX, rfl⟩⟩, ?_⟩)) (by repeat (first | exact trivial | refine ⟨ent_same rfl rfl rfl tL, ?_⟩ | refine ⟨ent_same rfl rfl (rfEq rfl tU) tL, ?_⟩ | refine ⟨ent_same rfl rfl (flEq rfl (by first | (simp; done) | (simp; omega) | (simp [encP, encW, encY, encMs, encBn, encSn, encFe]; done) | simp [maxC, minC])) trivial, ?_⟩)) rfl hK1
            · have hk : okB l b = false := hokb.trans hb
              rw [if_neg (by rw [hk]; decide)] at hK1
              refine nK ?_
              refine s_draw mixed ?_
              refine Run.pure (dd := some 81) rfl rfl (op_move rfl (Opd.tmp _ _ rfl)) ?_
              refine Run.pure (dd := some 82) rfl rfl (op_move rfl (Opd.tmp _ _ rfl)) ?_
              refine Run.pure (dd := some 83) rfl rfl (op_nilck_ptr rfl (Opd.tmp _ _ rfl)) ?_
              refine Run.pure (dd := some 84) rfl rfl (op_fld_ptr (by decide) rfl (Opd.tmp _ _ rfl)) ?_
              refine Run.pure (dd := some 85) rfl rfl (op_fld_ptr (by decide) rfl (Opd.tmp _ _ rfl)) ?_
              refine Run.load (dd := some 86) rfl rfl (op_load1_refs rfl (Opd.tmp _ _ rfl) tH rfl) ?_
              refine Run.pure (dd := some 87) rfl rfl (op_fld_ptr (by decide) rfl (Opd.tmp _ _ rfl)) ?_
              refine Run.load (dd := some 88) rfl rfl (op_loadn_flat rfl (Opd.tmp _ _ rfl) tH tR tR) ?_
              refine Run.pure (dd := some 89) rfl rfl (op_move rfl (Opd.tmp _ _ rfl)) ?_
              refine Run.pure (dd := some 90) rfl rfl (op_nilck_ptr rfl (Opd.tmp _ _ rfl)) ?_
              refine Run.pure (dd := some 91) rfl rfl (op_fld_ptr (by decide) rfl (Opd.tmp _ _ rfl)) ?_
              refine Run.pure (dd := some 92) rfl rfl (op_fld_ptr (by decide) rfl (Opd.tmp _ _ rfl)) ?_
              refine Run.load (dd := some 93) rfl rfl (op_load1_refs rfl (Opd.tmp _ _ rfl) tH rfl) ?_
              refine Run.pure (dd := some 94) rfl rfl (op_call_pure (fun _ => ku) rfl (Opd.func _) (Opds.cons _ _ _ _ (Opd.tmp _ _ rfl) (Opds.cons _ _ _ _ (Opd.tmp _ _ rfl) (Opds.cons _ _ _ _ (Opd.tmp _ _ rfl) Opds.nil)))) ?_
              refine Run.pure (dd := some 80) rfl rfl (op_move rfl (Opd.tmp _ _ rfl)) ?_
              refine Run.pure (dd := some 95) rfl rfl (op_extract_fz rfl (Opd.tmp _ _ rfl) rfl) ?_
              refine Run.pure (dd := some 96) rfl rfl (op_extract_fz rfl (Opd.tmp _ _ rfl) rfl) ?_
              refine Run.pure (dd := some 97) rfl rfl (op_nilck_ptr rfl (Opd.tmp _ _ rfl)) ?_
              refine Run.pure (dd := some 98) rfl rfl (op_fld_ptr (by decide) rfl (Opd.tmp _ _ rfl)) ?_
              refine Run.pure (dd := some 99) rfl rfl (op_fld_ptr (by decide) rfl (Opd.tmp _ _ rfl)) ?_
              refine Run.effW (dd := none) rfl rfl (op_store_refs rfl (Opd.tmp _ _ rfl) (Opd.tmp _ _ rfl) tP rfl rfl rfl tS) (by first | exact ext_call | exact tE) ?_
              refine Run.nil (FinD.mk (by kernel_rfl) ?_)
              refine nK ?_
              refine s_draw mixed ?_
              refine Run.pure (dd := some 100) rfl rfl (op_move rfl (Opd.tmp _ _ rfl)) ?_
              refine Run.pure (dd := some 101) rfl rfl (op_fld_ptr (by decide) rfl (Opd.tmp _ _ rfl)) ?_
              refine Run.load (dd := some 102) rfl rfl (op_loadn_flat rfl (Opd.tmp _ _ rfl) tH tR tR) ?_
              refine Run.pure (dd := some 103) rfl rfl (op_fld_ptr (by decide) rfl (Opd.tmp _ _ rfl)) ?_
              refine Run.load (dd := some 104) rfl rfl (op_load1_flat rfl (Opd.tmp _ _ rfl) tH rfl) ?_
              refine Run.pure (dd := some 105) rfl rfl (op_move rfl (Opd.tmp _ _ rfl)) ?_
              refine Run.pure (dd := some 106) rfl rfl (op_nilck_ptr rfl (Opd.tmp _ _ rfl)) ?_
              refine Run.pure (dd := some 107) rfl rfl (op_fld_ptr (by decide) rfl (Opd.tmp _ _ rfl)) ?_
              refine Run.pure (dd := some 108) rfl rfl (op_fld_ptr (by decide) rfl (Opd.tmp _ _ rfl)) ?_
              refine Run.load (dd := some 109) rfl rfl (op_load1_refs rfl (Opd.tmp _ _ rfl) tH rfl) ?_
              refine Run.effW (dd := some 110) rfl rfl (op_call (n := 1) (n' := 1) [0] (fun _ => ks) rfl (Opd.func _) (Opds.cons _ _ _ _ (Opd.tmp _ _ rfl) (Opds.cons _ _ _ _ (Opd.const _) (Opds.cons _ _ _ _ (Opd.tmp _ _ rfl) (Opds.cons _ _ _ _ (Opd.tmp _ _ rfl) (Opds.cons _ _ _ _ (Opd.tmp _ _ rfl) Opds.nil))))) rfl rfl (Lent.of rfl rfl (by repeat (first | exact trivial | refine ⟨⟨rfl, rfl, rfl, tL⟩, ?_⟩)) rfl) rfl rfl rfl rfl rfl) (by first | exact ext_call | exact tE) ?_
              refine Run.nil (FinD.mk (by kernel_rfl) ?_)
              refine nK ?_
              refine s_reg rfl ?_
              refine Run.pure (dd := some 111) rfl rfl (op_fld_ptr (by decide) rfl (Opd.tmp _ _ rfl)) ?_
              refine Run.load (dd := some 112) rfl rfl (op_load1_flat rfl (Opd.tmp _ _ rfl) tH rfl) ?_
              refine Run.pure (dd := some 113) rfl rfl (op_neq rfl (Opd.tmp _ _ rfl) (Opd.const _)) ?_
              refine Run.nil (FinR.mk ?_)
              refine nK ?_
              refine n_cond _ rfl (fun hb => ?_) (fun hb => ?_)
              · rw [if_pos (by simpa using hb)] at hK1
                generalize giveF fr1 b.la = gv at *
                obtain ⟨fr2, ge⟩ := gv
                dsimp only at kg hK1
                refine nK ?_
                refine s_draw mixed ?_
                refine Run.pure (dd := some 115) rfl rfl (op_move rfl (Opd.tmp _ _ rfl)) ?_
                refine Run.pure (dd := some 116) rfl rfl (op_nilck_ptr rfl (Opd.tmp _ _ rfl)) ?_
                refine Run.pure (dd := some 117) rfl rfl (op_fld_ptr (by decide) rfl (Opd.tmp _ _ rfl)) ?_
                refine Run.pure (dd := some 118) rfl rfl (op_fld_ptr (by decide) rfl (Opd.tmp _ _ rfl)) ?_
                refine Run.load (dd := some 119) rfl rfl (op_load1_refs rfl (Opd.tmp _ _ rfl) tH rfl) ?_
                refine Run.pure (dd := some 120) rfl rfl (op_fld_ptr (by decide) rfl (Opd.tmp _ _ rfl)) ?_
                refine Run.load (dd := some 121) rfl rfl (op_load1_flat rfl (Opd.tmp _ _ rfl) tH rfl) ?_
                refine Run.pure (dd := some 122) rfl rfl (op_call_pure (fun _ => kg) rfl (Opd.func _) (Opds.cons _ _ _ _ (Opd.tmp _ _ rfl) (Opds.cons _ _ _ _ (Opd.tmp _ _ rfl) Opds.nil))) ?_
                refine Run.pure (dd := some 114) rfl rfl (op_move rfl (Opd.tmp _ _ rfl)) ?_
                refine Run.pure (dd := some 123) rfl rfl (op_extract_fz rfl (Opd.tmp _ _ rfl) rfl) ?_
                refine Run.pure (dd := some 124) rfl rfl (op_extract_fz rfl (Opd.tmp _ _ rfl) rfl) ?_
                refine Run.pure (dd := some 12) rfl rfl (op_assign rfl (Opd.tmp _ _ rfl)) ?_
                refine Run.pure (dd := some 13) rfl rfl (op_assign rfl (Opd.tmp _ _ rfl)) ?_
                refine Run.nil (FinD.mk (by kernel_rfl) ?_)
                refine nK ?_
                refine s_reg rfl ?_
                refine Run.pure (dd := some 125) rfl rfl (op_move rfl (Opd.tmp _ _ rfl)) ?_
                refine Run.pure (dd := some 126) rfl rfl (op_eql rfl (Opd.tmp _ _ rfl) (Opd.const _)) ?_
                refine Run.nil (FinR.mk ?_)
                refine nK ?_
                refine n_cond _ rfl (fun hb => ?_) (fun hb => ?_)
                · rw [if_pos (by simpa using hb)] at hK1
                  refine nK ?_
                  refine s_reg rfl ?_
                  refine Run.pure (dd := some 127) rfl rfl (op_move rfl (Opd.tmp _ _ rfl)) ?_
                  refine Run.pure (dd := some 128) rfl rfl (op_move rfl (Opd.tmp _ _ rfl)) ?_
                  refine Run.pure (dd := some 129) rfl rfl (op_nilck_ptr rfl (Opd.tmp _ _ rfl)) ?_
                  refine Run.pure (dd := some 130) rfl rfl (op_fld_ptr (by decide) rfl (Opd.tmp _ _ rfl)) ?_
                  refine Run.pure (dd := some 131) rfl rfl (op_fld_ptr (by decide) rfl (Opd.tmp _ _ rfl)) ?_
                  refine Run.eff (dd := none) rfl rfl (op_store_refs rfl (Opd.tmp _ _ rfl) (Opd.tmp _ _ rfl) tP rfl rfl rfl tS) ?_
                  refine Run.nil (FinR.mk ?_)
                  refine nK ?_
                  refine s_reg rfl ?_
                  refine Run.pure (dd := some 132) rfl rfl (op_add rfl (Opd.tmp _ _ rfl) (Opd.const _) tI) ?_
                  refine Run.pure (dd := some 56) rfl rfl (op_move rfl (Opd.tmp _ _ rfl)) ?_
                  refine Run.nil (FinR.mk ?_)
                  refine nK ?_
                  refine Next.weakS [0] [] (by rfl) (keepsN hC _ rfl) (by repeat (first | exact trivial | refine ⟨⟨_, rfl, .inl ⟨rfl, rfl⟩⟩, ?_⟩ | refine ⟨⟨_, rfl, .inl ⟨slEq rfl tN, rfl⟩⟩, ?_⟩ | refine ⟨⟨_, rfl, .inl ⟨ivEq tX, rfl⟩⟩, ?_⟩)) (by repeat (first | exact trivial | refine ⟨ent_same rfl rfl rfl tL, ?_⟩ | refine ⟨ent_same rfl rfl (rfEq rfl tU) tL, ?_⟩ | refine ⟨ent_same rfl rfl (flEq rfl (by first | (simp; done) | (simp; omega) | (simp [encP, encW, encY, encMs, encBn, encSn, encFe]; done) | simp [maxC, minC])) trivial, ?_⟩)) rfl hK1
                · rw [if_neg (by simpa using hb)] at hK1
                  refine nK ?_
                  refine s_reg rfl ?_
                  refine Run.pure (dd := some 132) rfl rfl (op_add rfl (Opd.tmp _ _ rfl) (Opd.const _) tI) ?_
                  refine Run.pure (dd := some 56) rfl rfl (op_move rfl (Opd.tmp _ _ rfl)) ?_
                  refine Run.nil (FinR.mk ?_)
                  refine nK ?_
                  refine Next.weakS [0] [] (by rfl) (keepsN hC _ rfl) (by repeat (first | exact trivial | refine ⟨⟨_, rfl, .inl ⟨rfl, rfl⟩⟩, ?_⟩ | refine ⟨⟨_, rfl, .inl ⟨slEq rfl tN, rfl⟩⟩, ?_⟩ | refine ⟨⟨_, rfl, .inl ⟨ivEq tX, rfl⟩⟩, ?_⟩)) (by repeat (first | exact trivial | refine ⟨ent_same rfl rfl rfl tL, ?_⟩ | refine ⟨ent_same rfl rfl (rfEq rfl tU) tL, ?_⟩ | refine ⟨ent_same rfl rfl (flEq rfl (by first | (simp; done) | (simp; omega) | (simp [encP, encW, encY, encMs, encBn, encSn, encFe]; done) | simp [maxC, minC])) trivial, ?_⟩)) rfl hK1
              · rw [if_neg (by simpa using hb)] at hK1
                refine nK ?_
                refine s_reg rfl ?_
                refine Run.pure (dd := some 132) rfl rfl (op_add rfl (Opd.tmp _ _ rfl) (Opd.const _) tI) ?_
                refine Run.pure (dd := some 56) rfl rfl (op_move rfl (Opd.tmp _ _ rfl)) ?_
                refine Run.nil (FinR.mk ?_)
                refine nK ?_
                refine Next.weakS [0] [] (by rfl) (keepsN hC _ rfl) (by repeat (first | exact trivial | refine ⟨⟨_, rfl, .inl ⟨rfl, rfl⟩⟩, ?_⟩ | refine ⟨⟨_, rfl, .inl ⟨slEq rfl tN, rfl⟩⟩, ?_⟩ | refine ⟨⟨_, rfl, .inl ⟨ivEq tX, rfl⟩⟩, ?_⟩)) (by repeat (first | exact trivial | refine ⟨ent_same rfl rfl rfl tL, ?_⟩ | refine ⟨ent_same rfl rfl (rfEq rfl tU) tL, ?_⟩ | refine ⟨ent_same rfl rfl (flEq rfl (by first | (simp; done) | (simp; omega) | (simp [encP, encW, encY, encMs, encBn, encSn, encFe]; done) | simp [maxC, minC])) trivial, ?_⟩)) rfl hK1
          · have hie : i = lc.length := by simp at hb; omega
            rw [hie] at g1 g2 g3 ⊢
            clear hK
            have g5 : lc.length * ps.length ≤ 3000 * 100 := Nat.mul_le_mul (by omega) h3
            generalize pdG ro ps l fr lc lc.length = d0 at *
            refine nK ?_
            refine s_reg rfl ?_
            refine Run.pure (dd := some 133) rfl rfl (op_move rfl (Opd.tmp _ _ rfl)) ?_
            refine Run.pure (dd := some 134) rfl rfl (op_nilck_ptr rfl (Opd.tmp _ _ rfl)) ?_
            refine Run.pure (dd := some 135) rfl rfl (op_fld_ptr (by decide) rfl (Opd.tmp _ _ rfl)) ?_
            refine Run.pure (dd := some 136) rfl rfl (op_fld_ptr (by decide) rfl (Opd.tmp _ _ rfl)) ?_
            refine Run.load (dd := some 137) rfl rfl (op_load1_refs rfl (Opd.tmp _ _ rfl) tH rfl) ?_
            refine Run.pure (dd := some 138) rfl rfl (op_len_fz rfl (by first | exact Opd.tmp _ _ rfl | exact Opd.nil _ _ (Opd.tmp _ _ rfl)) (by first | exact List.length_map _ | rfl)) ?_
            refine Run.pure (dd := some 139) rfl rfl (op_move rfl (Opd.const _)) ?_
            refine Run.nil (FinR.mk ?_)
            refine nK ?_
            refine n_loop (ι := Nat) (fun i => ([(0, .ptr 0 7 0 0), (137, .fz (VFe l)), (138, IV .i64 l.length), (139, IV .i64 i)], [(0, R7d ro f3 ps (VFe l) (bdG ro ps l d0 i))], 1)) (fun i => i ≤ l.length) (fun i => l.length - i) 0 (Nat.zero_le _) ?_ ?_
            · refine Next.weakS [0] [] (by rfl) (keepsN hC _ rfl) (by repeat (first | exact trivial | refine ⟨⟨_, rfl, .inl ⟨rfl, rfl⟩⟩, ?_⟩ | refine ⟨⟨_, rfl, .inl ⟨slEq rfl tN, rfl⟩⟩, ?_⟩ | refine ⟨⟨_, rfl, .inl ⟨ivEq tX, rfl⟩⟩, ?_⟩)) (by repeat (first | exact trivial | refine ⟨ent_same rfl rfl rfl tL, ?_⟩ | refine ⟨ent_same rfl rfl (rfEq rfl tU) tL, ?_⟩ | refine ⟨ent_same rfl rfl (flEq rfl (by first | (simp; done) | (simp; omega) | (simp [encP, encW, encY, encMs, encBn, encSn, encFe]; done) | simp [maxC, minC])) trivial, ?_⟩)) rfl rel_intro
            · intro i hi K hK
              obtain ⟨q1, q2, q3⟩ := bdG_len ro ps l d0 i hi
              have q4 : i * ps.length ≤ 2000 * 100 := Nat.mul_le_mul (by omega) h3
              refine nK ?_
              refine s_reg rfl ?_
              refine Run.pure (dd := some 140) rfl rfl (op_lss rfl (Opd.tmp _ _ rfl) (Opd.tmp _ _ rfl)) ?_
              refine Run.nil (FinR.mk ?_)
              refine nK ?_
              refine n_cond _ rfl (fun hb => ?_) (fun hb => ?_)
              · have hlt : i < l.length := by simp at hb; omega
                have hr1 := row_at' encFe l i hlt
                have hK1 := hK (i + 1) (by omega) (by omega)
                rw [bdG_succ ro ps d0 hlt] at hK1
                have hx := hl _ (List.getElem_mem hlt)
                generalize bdG ro ps l d0 i = d at *
                generalize l[i] = x at *
                have kb := bind_m ro f3 (VFe l) ps d x hx.px (by omega) (by omega) (by omega)
                refine nK ?_
                refine s_reg rfl ?_
                refine Run.pure (dd := some 141) rfl rfl (op_idx_fz _ rfl (Opd.tmp _ _ rfl) (Opd.tmp _ _ rfl) tF) ?_
                refine Run.pure (dd := some 142) rfl rfl (op_loadw_fz rfl (Opd.tmp _ _ rfl) rfl) ?_
                refine Run.eff (dd := some 15) rfl rfl (op_alloc rfl rfl rfl rfl) ?_
                refine Run.eff (dd := none) rfl rfl (op_store_flat rfl (Opd.tmp _ _ rfl) (Opd.tmp _ _ rfl) tC rfl rfl (by first | rfl | assumption) tS) ?_
                refine Run.nil (FinR.mk ?_)
                refine nK ?_
                refine s_reg rfl ?_
                refine Run.pure (dd := some 143) rfl rfl (op_move rfl (Opd.tmp _ _ rfl)) ?_
                refine Run.load (dd := some 144) rfl rfl (op_loadw_flat rfl (Opd.tmp _ _ rfl) tH rfl) ?_
                refine Run.eff (dd := some 145) rfl rfl (op_call (n := 1) (n' := 1) [0] (fun _ => kb) rfl (Opd.func _) (Opds.cons _ _ _ _ (Opd.tmp _ _ rfl) (Opds.cons _ _ _ _ (Opd.tmp _ _ rfl) Opds.nil)) rfl rfl (Lent.of rfl rfl (by repeat (first | exact trivial | refine ⟨⟨rfl, rfl, rfl, tL⟩, ?_⟩)) rfl) rfl rfl rfl rfl rfl) ?_
                refine Run.nil (FinR.mk ?_)
                refine nK ?_
                refine s_reg rfl ?_
                refine Run.pure (dd := some 146) rfl rfl (op_add rfl (Opd.tmp _ _ rfl) (Opd.const _) tI) ?_
                refine Run.pure (dd := some 139) rfl rfl (op_move rfl (Opd.tmp _ _ rfl)) ?_
                refine Run.nil (FinR.mk ?_)
                refine nK ?_
                refine Next.weakS [0] [] (by rfl) (keepsN hC _ rfl) (by repeat (first | exact trivial | refine ⟨⟨_, rfl, .inl ⟨rfl, rfl⟩⟩, ?_⟩ | refine ⟨⟨_, rfl, .inl ⟨slEq rfl tN, rfl⟩⟩, ?_⟩ | refine ⟨⟨_, rfl, .inl ⟨ivEq tX, rfl⟩⟩, ?_⟩)) (by repeat (first | exact trivial | refine ⟨ent_same rfl rfl rfl tL, ?_⟩ | refine ⟨ent_same rfl rfl (rfEq rfl tU) tL, ?_⟩ | refine ⟨ent_same rfl rfl (flEq rfl (by first | (simp; done) | (simp; omega) | (simp [encP, encW, encY, encMs, encBn, encSn, encFe]; done) | simp [maxC, minC])) trivial, ?_⟩)) rfl hK1
              · have hie : i = l.length := by simp at hb; omega
                rw [hie]
                generalize bdG ro ps l d0 l.length = d at *
                refine nK ?_
                refine s_reg rfl ?_
                refine Run.pure (dd := some 4) rfl rfl (op_assign rfl (Opd.const _)) ?_
                refine Run.nil (FinR.mk ?_)
                refine nK ?_
                refine Next.weakS [0] [] (by rfl) (keepsN hC _ rfl) (G' := [(4, IV .i64 0)]) (H' := [(0, R7 (If .u32 ro) (VRg d.1) (VBn d.2.1) f3 (VW ps) (VFe l) d.2.2)]) (by repeat (first | exact trivial | refine ⟨⟨_, rfl, .inl ⟨rfl, rfl⟩⟩, ?_⟩ | refine ⟨⟨_, rfl, .inl ⟨slEq rfl tN, rfl⟩⟩, ?_⟩ | refine ⟨⟨_, rfl, .inl ⟨ivEq tX, rfl⟩⟩, ?_⟩)) (by repeat (first | exact trivial | refine ⟨ent_same rfl rfl rfl tL, ?_⟩ | refine ⟨ent_same rfl rfl (rfEq rfl tU) tL, ?_⟩ | refine ⟨ent_same rfl rfl (flEq rfl (by first | (simp; done) | (simp; omega) | (simp [encP, encW, encY, encMs, encBn, encSn, encFe]; done) | simp [maxC, minC])) trivial, ?_⟩)) rfl ?_
                exact n_out1 rfl (by rfl) rfl rfl
end Go.Proofs.Ytkofbemgpeagbaa
/- The program's Handle and the document's. No program in sight. -/
namespace Go.Pl
open Go Go.RT
set_option linter.all false
structure okLs (s : Lst) : Prop where
  v : vD s.ro s.fr s.lc
  ps : ascP' s.ps
  lc : ∀ b ∈ s.lc, okB' b
  rt : ∀ x ∈ s.rt, okFs x
  rta : ascX s.rt
  nfr : s.fr.length ≤ 100000
  nlc : s.lc.length ≤ 3000
  nrm : s.rm.length ≤ 100000
  nps : s.ps.length ≤ 100
  nrt : s.rt.length ≤ 2000
structure okLe (e : Lev) : Prop where
  k : inr .i64 e.k
  da : ∀ x ∈ e.da, 0 ≤ x ∧ x < 256
  nda : e.da.length ≤ 1000000
  rt : ∀ x ∈ e.rt, okFe x
  nrt : e.rt.length ≤ 1000000
def finP (e : Int) (s : Lst) (o : List Snd) : Res := if e ≠ 0 then badR e else (s, o, 0)
def handleP (s : Lst) (e : Lev) : Res :=
  if e.k = 1 then (let r := upG s.ro s.lc s.ps e.pe; finP r.1 { s with ps := r.2.1 } r.2.2) else
  if e.k = 2 then (let r := downG s.rm s.ps e.pe; finP r.1 { s with ps := r.2.1, rm := r.2.2 } []) else
  if e.k = 3 then (let r := dataG s.ro s.lc s.rm s.ps e.pe e.da; finP r.1 { s with rm := r.2.1 } r.2.2) else
  if e.k = 4 then (let r := routesG s.ro s.fr s.lc s.ps s.rt e.rt; finP r.1 { s with fr := r.2.1.1, lc := r.2.1.2.1, rt := r.2.2 } r.2.1.2.2) else badR 15
theorem dataG_fin (s : Lst) (n : Int) (d : List Int) : (let r := dataG s.ro s.lc s.rm s.ps n d; finP r.1 { s with rm := r.2.1 } r.2.2) = dataF s n d := by
  dsimp only
  by_cases c : s.ps.contains n = true
  · have c2 : ¬ (!s.ps.contains n) = true := by rw [c]; decide
    have c3 : ¬ s.ps.contains n = false := by rw [c]; decide
    unfold dataF
    rw [if_neg c3]
    by_cases d1 : (decodeF d).2 ≠ 0
    · have hG : dataG s.ro s.lc s.rm s.ps n d = ((decodeF d).2, s.rm, []) := by unfold dataG; rw [if_neg c2, if_pos d1]
      rw [hG, if_pos d1]; unfold finP; rw [if_pos d1]
    · rw [if_neg d1]
      dsimp only
      by_cases k1 : (decodeF d).1.k = 1
      · have hG : dataG s.ro s.lc s.rm s.ps n d = (0, bindL s.rm ⟨(decodeF d).1.px, n, (decodeF d).1.la⟩, []) := by unfold dataG; rw [if_neg c2, if_neg d1]; dsimp only; rw [if_pos k1]
        rw [hG, if_pos k1]; rfl
      · rw [if_neg k1]
        by_cases k2 : (decodeF d).1.k = 2
        · rw [if_pos k2]
          have hG : dataG s.ro s.lc s.rm s.ps n d = if ((findB s.rm (decodeF d).1.px n).isSome && decide ((findB s.rm (decodeF d).1.px n).getD 0 = (decodeF d).1.la)) = true then (0, unbL s.rm (decodeF d).1.px n, [msgS n 3 (decodeF d).1.px (decodeF d).1.la]) else (0, s.rm, []) := by unfold dataG; rw [if_neg c2, if_neg d1]; dsimp only; rw [if_neg k1, if_pos k2]
          rw [hG]
          cases q : findB s.rm (decodeF d).1.px n with
          | none => simp [finP]
          | some la =>
            by_cases z : la = (decodeF d).1.la
            · simp [finP, z]
            · simp [finP, z]
        · rw [if_neg k2]
          by_cases k4 : (decodeF d).1.k = 4
          · rw [if_pos k4]
            have hG : dataG s.ro s.lc s.rm s.ps n d = if (findB s.lc (decodeF d).1.px s.ro).isSome = true then (0, s.rm, [msgS n 1 (decodeF d).1.px ((findB s.lc (decodeF d).1.px s.ro).getD 0)]) else (0, s.rm, []) := by unfold dataG; rw [if_neg c2, if_neg d1]; dsimp only; rw [if_neg k1, if_neg k2, if_pos k4]
            rw [hG]
            cases q : findB s.lc (decodeF d).1.px s.ro with
            | none => simp [finP]
            | some la => simp [finP]
          · rw [if_neg k4]
            have hG : dataG s.ro s.lc s.rm s.ps n d = (0, s.rm, []) := by unfold dataG; rw [if_neg c2, if_neg d1]; dsimp only; rw [if_neg k1, if_neg k2, if_neg k4]
            rw [hG]; rfl
  · have c' : s.ps.contains n = false := by simpa using c
    have hG : dataG s.ro s.lc s.rm s.ps n d = (6, s.rm, []) := by unfold dataG; rw [if_pos (by rw [c']; decide)]
    unfold dataF
    rw [hG, if_pos c']; rfl
theorem handleP_eq {s : Lst} (h : okLs s) (e : Lev) : handleP s e = handleF s e := by
  unfold handleP handleF
  split
  · unfold upG upF
    split
    · rfl
    · split
      · rfl
      · rfl
  · split
    · unfold downG downF
      by_cases c : s.ps.contains e.pe = true
      · rw [if_neg (by rw [c]; decide), if_neg (by rw [c]; decide)]
        simp [finP]
      · have c' : s.ps.contains e.pe = false := by simpa using c
        rw [if_pos (by rw [c']; decide), if_pos c']; rfl
    · split
      · exact dataG_fin s e.pe e.da
      · split
        · unfold routesG routesF
          by_cases c : routesE s.ro e.rt ≠ 0
          · rw [if_pos c, if_pos c]; simp [finP, c]
          · rw [if_neg c, if_neg c]
            have e1 : bdG s.ro s.ps e.rt (pdG s.ro s.ps e.rt s.fr s.lc s.lc.length) e.rt.length = bindF s e.rt (dropF s e.rt) := by
              unfold bdG pdG bindF dropF
              rw [List.take_length, List.take_length]
              have := pd_eq (ro := s.ro) (ps := s.ps) (l := e.rt) s.lc [] s.fr [] h.v
              rw [List.nil_append] at this
              rw [this]
            rw [e1]; rfl
        · rfl
end Go.Pl
/- Numbers of labels; large arguments. No program in sight. -/
namespace Go.Pl
open Go Go.RT
set_option linter.all false
/-- valid lists are short -/
theorem vG_len : ∀ {l : List Rg} (b : Int), vG l → (∀ r ∈ l, b ≤ r.f) → (l.length : Int) * 2 + b ≤ 1048577 + (if l.length = 0 then b else 0)
  | [], b, _, _ => by simp; omega
  | r :: t, b, h, hb => by
    have hr := h.hd.1
    have r1 := hr.lo
    have r2 := hr.le
    have r3 := hr.hi
    have b1 := hb r (List.mem_cons_self ..)
    have ih := vG_len (r.t + 2) h.tl fun x hx => by have := h.hd.2 x hx; unfold ltG at this; omega
    simp only [List.length_cons]
    rw [if_neg (by omega)]
    split at ih
    · next k => rw [k]; simp; omega
    · omega
theorem vG_short {l : List Rg} (h : vG l) : l.length ≤ 1000000 := by
  have := vG_len 0 h fun r hr => by have := (h.v r hr).lo; omega
  split at this <;> omega
end Go.Pl
