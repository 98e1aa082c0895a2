/- A part of the proof: J14, J15, JP7, J16, J17, J18, JP8, J19, J20, J21, JP9, J22, J23, JP10. -/
import Derived.Test.YtfkcbglnadjnnaaZE
set_option linter.all false
namespace Go.Proofs.Ytfkcbglnadjnnaa
open Go Go.RT Go.Proofs Go.Pl
set_option linter.all false
set_option maxRecDepth 20000
theorem keep_c (l : List Pvr) (hn : l.length ≤ 200000) (gf : Nat) [FnB Try.prog gf] (caps : List FV) (p : Pvr → Bool) (hp : ∀ x, Pure Try.prog gf ([.agg (encPv x)] ++ caps) (Bf (p x))) : Pure Try.prog 67 [VPv l, .clo gf caps] (.tup [VPv (l.filter p), VPv (l.filter fun x => !p x)]) := by
  refine Meets.intro Try.func67 rfl (Nat.le_of_ble_eq_true rfl) fun C hC => ?_
  simp only [List.map, argEnv, Nat.reduceAdd]
  refine nK ?_
  refine s_reg rfl ?_
  refine Run.pure (dd := some 4) rfl rfl (op_assign rfl (Opd.const _)) ?_
  refine Run.pure (dd := some 5) rfl rfl (op_assign rfl (Opd.const _)) ?_
  refine Run.nil (FinR.mk ?_)
  refine nK ?_
  refine Next.adopt 4 22 rfl ?_
  refine Next.adopt 5 22 rfl ?_
  refine nK ?_
  refine s_reg rfl ?_
  refine Run.pure (dd := some 8) rfl rfl (op_move rfl (Opd.tmp _ _ rfl)) ?_
  refine Run.pure (dd := some 9) rfl rfl (op_len_fz rfl (by first | exact Opd.tmp _ _ rfl | exact Opd.nil _ _ (Opd.tmp _ _ rfl)) (by first | exact List.length_map _ | rfl)) ?_
  refine Run.pure (dd := some 10) rfl rfl (op_move rfl (Opd.const _)) ?_
  refine Run.nil (FinR.mk ?_)
  refine nK ?_
  refine n_loop (ι := Nat × List Pvr × List Pvr) (fun g => ([(1, .fz (.clo gf caps)), (4, .sl 0 22 0 g.2.1.length), (5, .sl 1 22 0 g.2.2.length), (8, .fz (VPv l)), (9, IV .i64 l.length), (10, IV .i64 g.1)], [(0, OPv g.2.1), (1, OPv g.2.2)], 2)) (fun g => g.1 ≤ l.length ∧ g.2.1 = (l.take g.1).filter p ∧ g.2.2 = (l.take g.1).filter fun x => !p x) (fun g => l.length - g.1) (0, [], []) ⟨Nat.zero_le _, by simp, by simp⟩ ?_ ?_
  · refine Next.weakS [4, 5] [] (by rfl) (by first | exact keeps0 hC _ | exact keepsN hC _ rfl) (by repeat (first | exact trivial | refine ⟨⟨_, rfl, .inl ⟨rfl, rfl⟩⟩, ?_⟩ | refine ⟨⟨_, rfl, .inl ⟨slEq rfl tN, rfl⟩⟩, ?_⟩ | refine ⟨⟨_, rfl, .inl ⟨ivEq tX, rfl⟩⟩, ?_⟩)) (by repeat (first | exact trivial | refine ⟨ent_same rfl rfl rfl tL, ?_⟩ | refine ⟨ent_same rfl rfl (rfEq rfl tU) tL, ?_⟩ | refine ⟨ent_same rfl rfl (flEq rfl (by first | (simp; done) | (simp; omega) | (simp [encP, encPv, encAt, encSg, encTl, encW, encN, encY]; done) | simp [maxC, minC])) trivial, ?_⟩)) rfl (rel_intro)
  · intro ⟨i, o1, o2⟩ ⟨hi, hS, hT⟩ K hK
    dsimp only at hi hS hT ⊢
    have hl1 : o1.length ≤ l.length := by rw [hS]; exact filtV_le _ _ _
    have hl2 : o2.length ≤ l.length := by rw [hT]; exact filtV_le _ _ _
    refine nK ?_
    refine s_reg rfl ?_
    refine Run.pure (dd := some 11) rfl rfl (op_lss rfl (Opd.tmp _ _ rfl) (Opd.tmp _ _ rfl)) ?_
    refine Run.nil (FinR.mk ?_)
    refine nK ?_
    refine n_cond _ rfl (fun hb => ?_) (fun hb => ?_)
    · have hlt : i < l.length := by simp at hb; omega
      have hr1 := row_at' encPv l i hlt
      have hs := filtV_take p hlt
      have ht := filtV_take (fun x => !p x) hlt
      rw [← hS] at hs
      rw [← hT] at ht
      have hK1 := fun a b h h2 => hK (i + 1, a, b) ⟨by dsimp only; omega, h, h2⟩ (by dsimp only; omega)
      dsimp only at hK1
      generalize l[i] = x at *
      have kp := hp x
      refine nK ?_
      refine s_reg rfl ?_
      refine Run.pure (dd := some 12) rfl rfl (op_idx_fz _ rfl (Opd.tmp _ _ rfl) (Opd.tmp _ _ rfl) tF) ?_
      refine Run.pure (dd := some 13) rfl rfl (op_loadw_fz rfl (Opd.tmp _ _ rfl) rfl) ?_
      refine Run.eff (dd := some 7) rfl rfl (op_alloc rfl rfl rfl rfl) ?_
      refine Run.eff (dd := none) rfl rfl (op_store_flat rfl (Opd.tmp _ _ rfl) (Opd.tmp _ _ rfl) tC rfl rfl (by first | rfl | assumption) tS) ?_
      refine Run.nil (FinR.mk ?_)
      refine nK ?_
      refine s_reg rfl ?_
      refine Run.pure (dd := some 14) rfl rfl (op_move rfl (Opd.tmp _ _ rfl)) ?_
      refine Run.load (dd := some 15) rfl rfl (op_loadw_flat rfl (Opd.tmp _ _ rfl) tH rfl) ?_
      refine Run.pure (dd := some 16) rfl rfl (op_call_pureC (fun _ => kp) rfl (Opd.tmp _ _ rfl) (Opds.cons _ _ _ _ (Opd.tmp _ _ rfl) Opds.nil)) ?_
      refine Run.nil (FinR.mk ?_)
      refine nK ?_
      refine n_cond _ rfl (fun hb => ?_) (fun hb => ?_)
      · have hb' : p x = true := hb
        rw [if_pos hb'] at hs
        rw [if_neg (by rw [hb']; decide), List.append_nil] at ht
        have hK2 := hK1 (o1 ++ [x]) o2 hs.symm ht.symm
        unfold OPv at hK2
        rw [app1, app2] at hK2
        refine nK ?_
        refine s_reg rfl ?_
        refine Run.pure (dd := some 17) rfl rfl (op_move rfl (Opd.tmp _ _ rfl)) ?_
        refine Run.load (dd := some 18) rfl rfl (op_loadw_flat rfl (Opd.tmp _ _ rfl) tH rfl) ?_
        refine Run.pure (dd := some 19) rfl rfl (op_buildSlice_fz rfl (RowsF.cons _ _ _ _ _ _ (Opd.tmp _ _ rfl) tC (by rfl) (RowsF.nil _)) rfl rfl) ?_
        refine Run.eff (dd := some 20) rfl rfl (op_append rfl (Opd.tmp _ _ rfl) (Opd.tmp _ _ rfl) rfl (by simp) rfl rfl tB tB) ?_
        refine Run.pure (dd := some 4) rfl rfl (op_assign rfl (Opd.tmp _ _ rfl)) ?_
        refine Run.nil (FinR.mk ?_)
        refine nK ?_
        refine s_reg rfl ?_
        refine Run.pure (dd := some 25) rfl rfl (op_add rfl (Opd.tmp _ _ rfl) (Opd.const _) tI) ?_
        refine Run.pure (dd := some 10) rfl rfl (op_move rfl (Opd.tmp _ _ rfl)) ?_
        refine Run.nil (FinR.mk ?_)
        refine nK ?_
        refine Next.weakS [4, 5] [] (by rfl) (by first | exact keeps0 hC _ | exact keepsN hC _ rfl) (by repeat (first | exact trivial | refine ⟨⟨_, rfl, .inl ⟨rfl, rfl⟩⟩, ?_⟩ | refine ⟨⟨_, rfl, .inl ⟨slEq rfl tN, rfl⟩⟩, ?_⟩ | refine ⟨⟨_, rfl, .inl ⟨ivEq tX, rfl⟩⟩, ?_⟩)) (by repeat (first | exact trivial | refine ⟨ent_same rfl rfl rfl tL, ?_⟩ | refine ⟨ent_same rfl rfl (rfEq rfl tU) tL, ?_⟩ | refine ⟨ent_same rfl rfl (flEq rfl (by first | (simp; done) | (simp; omega) | (simp [encP, encPv, encAt, encSg, encTl, encW, encN, encY]; done) | simp [maxC, minC])) trivial, ?_⟩)) rfl (hK2)
      · have hb' : p x = false := hb
        rw [if_neg (by rw [hb']; decide), List.append_nil] at hs
        rw [if_pos (by rw [hb']; decide)] at ht
        have hK2 := hK1 o1 (o2 ++ [x]) hs.symm ht.symm
        unfold OPv at hK2
        rw [app1, app2] at hK2
        refine nK ?_
        refine s_reg rfl ?_
        refine Run.pure (dd := some 21) rfl rfl (op_move rfl (Opd.tmp _ _ rfl)) ?_
        refine Run.load (dd := some 22) rfl rfl (op_loadw_flat rfl (Opd.tmp _ _ rfl) tH rfl) ?_
        refine Run.pure (dd := some 23) rfl rfl (op_buildSlice_fz rfl (RowsF.cons _ _ _ _ _ _ (Opd.tmp _ _ rfl) tC (by rfl) (RowsF.nil _)) rfl rfl) ?_
        refine Run.eff (dd := some 24) rfl rfl (op_append rfl (Opd.tmp _ _ rfl) (Opd.tmp _ _ rfl) rfl (by simp) rfl rfl tB tB) ?_
        refine Run.pure (dd := some 5) rfl rfl (op_assign rfl (Opd.tmp _ _ rfl)) ?_
        refine Run.nil (FinR.mk ?_)
        refine nK ?_
        refine s_reg rfl ?_
        refine Run.pure (dd := some 25) rfl rfl (op_add rfl (Opd.tmp _ _ rfl) (Opd.const _) tI) ?_
        refine Run.pure (dd := some 10) rfl rfl (op_move rfl (Opd.tmp _ _ rfl)) ?_
        refine Run.nil (FinR.mk ?_)
        refine nK ?_
        refine Next.weakS [4, 5] [] (by rfl) (by first | exact keeps0 hC _ | exact keepsN hC _ rfl) (by repeat (first | exact trivial | refine ⟨⟨_, rfl, .inl ⟨rfl, rfl⟩⟩, ?_⟩ | refine ⟨⟨_, rfl, .inl ⟨slEq rfl tN, rfl⟩⟩, ?_⟩ | refine ⟨⟨_, rfl, .inl ⟨ivEq tX, rfl⟩⟩, ?_⟩)) (by repeat (first | exact trivial | refine ⟨ent_same rfl rfl rfl tL, ?_⟩ | refine ⟨ent_same rfl rfl (rfEq rfl tU) tL, ?_⟩ | refine ⟨ent_same rfl rfl (flEq rfl (by first | (simp; done) | (simp; omega) | (simp [encP, encPv, encAt, encSg, encTl, encW, encN, encY]; done) | simp [maxC, minC])) trivial, ?_⟩)) rfl (hK2)
    · have hie : i = l.length := by simp at hb; omega
      rw [hie, List.take_length] at hS hT
      rw [← hS, ← hT]
      refine nK ?_
      refine s_reg rfl ?_
      refine Run.pure (dd := some 26) rfl rfl (op_move rfl (Opd.tmp _ _ rfl)) ?_
      refine Run.pure (dd := some 27) rfl rfl (op_move rfl (Opd.tmp _ _ rfl)) ?_
      refine Run.pure (dd := some 4) rfl rfl (op_assign rfl (Opd.tmp _ _ rfl)) ?_
      refine Run.pure (dd := some 5) rfl rfl (op_assign rfl (Opd.tmp _ _ rfl)) ?_
      refine Run.nil (FinR.mk ?_)
      refine nK ?_
      refine Next.weakS [] [4, 5] (by rfl) (keeps0 hC _) (G' := [(4, .fz (VPv o1)), (5, .fz (VPv o2))]) (H' := []) (by repeat (first | exact trivial | refine ⟨⟨_, rfl, .inl ⟨rfl, rfl⟩⟩, ?_⟩ | refine ⟨⟨_, rfl, .inl ⟨slEq rfl tN, rfl⟩⟩, ?_⟩ | refine ⟨⟨_, rfl, .inl ⟨ivEq tX, rfl⟩⟩, ?_⟩ | refine ⟨⟨_, rfl, .inr ⟨_, rfl, tW⟩⟩, ?_⟩)) trivial rfl ?_
      (first | exact s_o1 hC rfl tV | exact s_o2 hC rfl tV tV | exact s_o3 hC rfl tV tV tV | exact s_o4 hC rfl tV tV tV tV | exact s_out0 hC rfl | exact s_outO hC rfl rfl rfl)
theorem prefixes_c (l : List Pvr) (hn : l.length ≤ 9000) : Pure Try.prog 49 [VPv l] (VP (pfsF l)) := by
  unfold pfsF
  refine Meets.intro Try.func49 rfl (Nat.le_of_ble_eq_true rfl) fun C hC => ?_
  simp only [List.map, argEnv, Nat.reduceAdd]
  refine nK ?_
  refine s_reg rfl ?_
  refine Run.pure (dd := some 2) rfl rfl (op_assign rfl (Opd.const _)) ?_
  refine Run.nil (FinR.mk ?_)
  refine nK ?_
  refine s_reg rfl ?_
  refine Run.pure (dd := some 3) rfl rfl (op_assign rfl (Opd.const _)) ?_
  refine Run.nil (FinR.mk ?_)
  refine nK ?_
  refine Next.adopt 3 2 rfl ?_
  refine nK ?_
  refine s_reg rfl ?_
  refine Run.pure (dd := some 6) rfl rfl (op_move rfl (Opd.tmp _ _ rfl)) ?_
  refine Run.pure (dd := some 7) rfl rfl (op_len_fz rfl (by first | exact Opd.tmp _ _ rfl | exact Opd.nil _ _ (Opd.tmp _ _ rfl)) (by first | exact List.length_map _ | rfl)) ?_
  refine Run.pure (dd := some 8) rfl rfl (op_move rfl (Opd.const _)) ?_
  refine Run.nil (FinR.mk ?_)
  refine nK ?_
  refine n_loop (ι := Nat) (fun i => ([(3, .sl 0 2 0 ((l.take i).map (·.px)).length), (6, .fz (VPv l)), (7, IV .i64 l.length), (8, IV .i64 i)], [(0, OPf ((l.take i).map (·.px)))], 1)) (fun i => i ≤ l.length) (fun i => l.length - i) 0 (Nat.zero_le _) ?_ ?_
  · refine Next.weakS [3] [] (by rfl) (by first | exact keeps0 hC _ | exact keepsN hC _ rfl) (by repeat (first | exact trivial | refine ⟨⟨_, rfl, .inl ⟨rfl, rfl⟩⟩, ?_⟩ | refine ⟨⟨_, rfl, .inl ⟨slEq rfl tN, rfl⟩⟩, ?_⟩ | refine ⟨⟨_, rfl, .inl ⟨ivEq tX, rfl⟩⟩, ?_⟩)) (by repeat (first | exact trivial | refine ⟨ent_same rfl rfl rfl tL, ?_⟩ | refine ⟨ent_same rfl rfl (rfEq rfl tU) tL, ?_⟩ | refine ⟨ent_same rfl rfl (flEq rfl (by first | (simp; done) | (simp; omega) | (simp [encP, encPv, encAt, encSg, encTl, encW, encN, encY]; done) | simp [maxC, minC])) trivial, ?_⟩)) rfl (rel_intro)
  · intro i hi K hK
    have hol : ((l.take i).map (·.px)).length = i := by rw [List.length_map, List.length_take]; omega
    refine nK ?_
    refine s_reg rfl ?_
    refine Run.pure (dd := some 9) rfl rfl (op_lss rfl (Opd.tmp _ _ rfl) (Opd.tmp _ _ rfl)) ?_
    refine Run.nil (FinR.mk ?_)
    refine nK ?_
    refine n_cond _ rfl (fun hb => ?_) (fun hb => ?_)
    · have hlt : i < l.length := by simp at hb; omega
      have hr1 := row_at' encPv l i hlt
      have hK1 := hK (i + 1) (by omega) (by omega)
      rw [mapP_take hlt] at hK1
      unfold OPf at hK1
      rw [app1, app2] at hK1
      generalize (l.take i).map (·.px) = o at *
      generalize l[i] = x at *
      refine nK ?_
      refine s_reg rfl ?_
      refine Run.pure (dd := some 10) rfl rfl (op_idx_fz _ rfl (Opd.tmp _ _ rfl) (Opd.tmp _ _ rfl) tF) ?_
      refine Run.pure (dd := some 11) rfl rfl (op_loadw_fz rfl (Opd.tmp _ _ rfl) rfl) ?_
      refine Run.eff (dd := some 5) rfl rfl (op_alloc rfl rfl rfl rfl) ?_
      refine Run.eff (dd := none) rfl rfl (op_store_flat rfl (Opd.tmp _ _ rfl) (Opd.tmp _ _ rfl) tC rfl rfl (by first | rfl | assumption) tS) ?_
      refine Run.nil (FinR.mk ?_)
      refine nK ?_
      refine s_reg rfl ?_
      refine Run.pure (dd := some 12) rfl rfl (op_move rfl (Opd.tmp _ _ rfl)) ?_
      refine Run.pure (dd := some 13) rfl rfl (op_fld_ptr (by decide) rfl (Opd.tmp _ _ rfl)) ?_
      refine Run.load (dd := some 14) rfl rfl (op_loadn_flat rfl (Opd.tmp _ _ rfl) tH tR tR) ?_
      refine Run.pure (dd := some 15) rfl rfl (op_buildSlice_fz rfl (RowsF.cons _ _ _ _ _ _ (Opd.tmp _ _ rfl) tC (by rfl) (RowsF.nil _)) rfl rfl) ?_
      refine Run.eff (dd := some 16) rfl rfl (op_append rfl (Opd.tmp _ _ rfl) (Opd.tmp _ _ rfl) rfl (by simp) rfl rfl tB tB) ?_
      refine Run.pure (dd := some 3) rfl rfl (op_assign rfl (Opd.tmp _ _ rfl)) ?_
      refine Run.nil (FinR.mk ?_)
      refine nK ?_
      refine s_reg rfl ?_
      refine Run.pure (dd := some 17) rfl rfl (op_add rfl (Opd.tmp _ _ rfl) (Opd.const _) tI) ?_
      refine Run.pure (dd := some 8) rfl rfl (op_move rfl (Opd.tmp _ _ rfl)) ?_
      refine Run.nil (FinR.mk ?_)
      refine nK ?_
      refine Next.weakS [3] [] (by rfl) (by first | exact keeps0 hC _ | exact keepsN hC _ rfl) (by repeat (first | exact trivial | refine ⟨⟨_, rfl, .inl ⟨rfl, rfl⟩⟩, ?_⟩ | refine ⟨⟨_, rfl, .inl ⟨slEq rfl tN, rfl⟩⟩, ?_⟩ | refine ⟨⟨_, rfl, .inl ⟨ivEq tX, rfl⟩⟩, ?_⟩)) (by repeat (first | exact trivial | refine ⟨ent_same rfl rfl rfl tL, ?_⟩ | refine ⟨ent_same rfl rfl (rfEq rfl tU) tL, ?_⟩ | refine ⟨ent_same rfl rfl (flEq rfl (by first | (simp; done) | (simp; omega) | (simp [encP, encPv, encAt, encSg, encTl, encW, encN, encY]; done) | simp [maxC, minC])) trivial, ?_⟩)) rfl (hK1)
    · have hie : i = l.length := by simp at hb; omega
      rw [hie, List.take_length]
      clear hK hol
      have hq : (l.map (·.px)).length = l.length := List.length_map _
      generalize l.map (·.px) = c at *
      have kso := psort_c c (by omega)
      refine nK ?_
      refine Next.weakS [] [3] (by rfl) (keeps0 hC _) (G' := [(3, .fz (VP c))]) (H' := []) (by repeat (first | exact trivial | refine ⟨⟨_, rfl, .inl ⟨rfl, rfl⟩⟩, ?_⟩ | refine ⟨⟨_, rfl, .inl ⟨slEq rfl tN, rfl⟩⟩, ?_⟩ | refine ⟨⟨_, rfl, .inl ⟨ivEq tX, rfl⟩⟩, ?_⟩ | refine ⟨⟨_, rfl, .inr ⟨_, rfl, tW⟩⟩, ?_⟩)) trivial rfl ?_
      refine nK ?_
      refine s_reg rfl ?_
      refine Run.pure (dd := some 18) rfl rfl (op_move rfl (Opd.tmp _ _ rfl)) ?_
      refine Run.pure (dd := some 19) rfl rfl (op_call_pure (fun _ => kso) rfl (Opd.func _) (Opds.cons _ _ _ _ (Opd.tmp _ _ rfl) Opds.nil)) ?_
      refine Run.pure (dd := some 2) rfl rfl (op_assign rfl (Opd.tmp _ _ rfl)) ?_
      refine Run.nil (FinR.mk ?_)
      refine nK ?_
      (first | exact s_o1 hC rfl tV | exact s_o2 hC rfl tV tV | exact s_o3 hC rfl tV tV tV | exact s_o4 hC rfl tV tV tV tV | exact s_out0 hC rfl | exact s_outO hC rfl rfl rfl)
theorem isT_c (n : Int) (p : Pfx) (x : Pvr) : Pure Try.prog 69 [.agg (encPv x), .cellp [If .i64 n], .cellp (encP p)] (Bf (decide (x.pe = n) && decide (x.px = p))) := by
  rw [← eqFs_encP]
  refine Meets.intro Try.func69 rfl (Nat.le_of_ble_eq_true rfl) fun C hC => ?_
  simp only [List.map, argEnv, Nat.reduceAdd]
  refine nK ?_
  refine s_reg rfl ?_
  refine Run.eff (dd := some 3) rfl rfl (op_box_flat rfl (Opd.tmp _ _ rfl) tC rfl) ?_
  refine Run.pure (dd := some 4) rfl rfl (op_assign rfl (Opd.const _)) ?_
  refine Run.nil (FinR.mk ?_)
  refine nK ?_
  refine s_reg rfl ?_
  refine Run.pure (dd := some 5) rfl rfl (op_fld_ptr (by decide) rfl (Opd.tmp _ _ rfl)) ?_
  refine Run.load (dd := some 6) rfl rfl (op_load1_flat rfl (Opd.tmp _ _ rfl) tH rfl) ?_
  refine Run.pure (dd := some 7) rfl rfl (op_load1_fz rfl (Opd.tmp _ _ rfl) rfl) ?_
  refine Run.pure (dd := some 8) rfl rfl (op_eql rfl (Opd.tmp _ _ rfl) (Opd.tmp _ _ rfl)) ?_
  refine Run.pure (dd := some 9) rfl rfl (op_move rfl (Opd.tmp _ _ rfl)) ?_
  refine Run.pureG (dd := some 10) rfl rfl rfl tG (op_fld_ptr (by decide) rfl (Opd.tmp _ _ rfl)) ?_
  refine Run.loadG (dd := some 11) rfl rfl rfl tG (op_loadn_flat rfl (Opd.topt _ _ _ rfl tO) tH tR tR) ?_
  refine Run.pureG (dd := some 12) rfl rfl rfl tG (op_loadw_fz rfl (Opd.tmp _ _ rfl) rfl) ?_
  refine Run.pureG (dd := some 13) rfl rfl rfl tG (op_eqS rfl (Opd.topt _ _ _ rfl tO) (Opd.topt _ _ _ rfl tO) (by kernel_rfl)) ?_
  refine Run.pure (dd := some 14) rfl rfl (op_pick_and rfl (Opd.tmp _ _ rfl) (Opd.topt _ _ _ rfl tO)) ?_
  refine Run.pure (dd := some 4) rfl rfl (op_assign rfl (Opd.tmp _ _ rfl)) ?_
  refine Run.nil (FinR.mk ?_)
  refine nK ?_
  (first | exact s_o1 hC rfl tV | exact s_o2 hC rfl tV tV | exact s_o3 hC rfl tV tV tV | exact s_o4 hC rfl tV tV tV tV | exact s_out0 hC rfl | exact s_outO hC rfl rfl rfl)
theorem clearT_c (n : Int) (x : Pvr) : Pure Try.prog 46 [.agg (encPv x), .cellp [If .i64 n]] (Bf (decide (x.pe = n))) := by
  refine Meets.intro Try.func46 rfl (Nat.le_of_ble_eq_true rfl) fun C hC => ?_
  simp only [List.map, argEnv, Nat.reduceAdd]
  refine nK ?_
  refine s_reg rfl ?_
  refine Run.eff (dd := some 2) rfl rfl (op_box_flat rfl (Opd.tmp _ _ rfl) tC rfl) ?_
  refine Run.pure (dd := some 3) rfl rfl (op_assign rfl (Opd.const _)) ?_
  refine Run.nil (FinR.mk ?_)
  refine nK ?_
  refine s_reg rfl ?_
  refine Run.pure (dd := some 4) rfl rfl (op_fld_ptr (by decide) rfl (Opd.tmp _ _ rfl)) ?_
  refine Run.load (dd := some 5) rfl rfl (op_load1_flat rfl (Opd.tmp _ _ rfl) tH rfl) ?_
  refine Run.pure (dd := some 6) rfl rfl (op_load1_fz rfl (Opd.tmp _ _ rfl) rfl) ?_
  refine Run.pure (dd := some 7) rfl rfl (op_eql rfl (Opd.tmp _ _ rfl) (Opd.tmp _ _ rfl)) ?_
  refine Run.pure (dd := some 3) rfl rfl (op_assign rfl (Opd.tmp _ _ rfl)) ?_
  refine Run.nil (FinR.mk ?_)
  refine nK ?_
  (first | exact s_o1 hC rfl tV | exact s_o2 hC rfl tV tV | exact s_o3 hC rfl tV tV tV | exact s_o4 hC rfl tV tV tV tV | exact s_out0 hC rfl | exact s_outO hC rfl rfl rfl)
theorem sweepT_c (n : Int) (x : Pvr) : Pure Try.prog 47 [.agg (encPv x), .cellp [If .i64 n]] (Bf (decide (x.pe = n) && x.st)) := by
  refine Meets.intro Try.func47 rfl (Nat.le_of_ble_eq_true rfl) fun C hC => ?_
  simp only [List.map, argEnv, Nat.reduceAdd]
  refine nK ?_
  refine s_reg rfl ?_
  refine Run.eff (dd := some 2) rfl rfl (op_box_flat rfl (Opd.tmp _ _ rfl) tC rfl) ?_
  refine Run.pure (dd := some 3) rfl rfl (op_assign rfl (Opd.const _)) ?_
  refine Run.nil (FinR.mk ?_)
  refine nK ?_
  refine s_reg rfl ?_
  refine Run.pure (dd := some 4) rfl rfl (op_fld_ptr (by decide) rfl (Opd.tmp _ _ rfl)) ?_
  refine Run.load (dd := some 5) rfl rfl (op_load1_flat rfl (Opd.tmp _ _ rfl) tH rfl) ?_
  refine Run.pure (dd := some 6) rfl rfl (op_load1_fz rfl (Opd.tmp _ _ rfl) rfl) ?_
  refine Run.pure (dd := some 7) rfl rfl (op_eql rfl (Opd.tmp _ _ rfl) (Opd.tmp _ _ rfl)) ?_
  refine Run.pure (dd := some 8) rfl rfl (op_move rfl (Opd.tmp _ _ rfl)) ?_
  refine Run.pureG (dd := some 9) rfl rfl rfl tG (op_fld_ptr (by decide) rfl (Opd.tmp _ _ rfl)) ?_
  refine Run.loadG (dd := some 10) rfl rfl rfl tG (op_load1_flat rfl (Opd.topt _ _ _ rfl tO) tH rfl) ?_
  refine Run.pure (dd := some 11) rfl rfl (op_pick_and rfl (Opd.tmp _ _ rfl) (Opd.topt _ _ _ rfl tO)) ?_
  refine Run.pure (dd := some 3) rfl rfl (op_assign rfl (Opd.tmp _ _ rfl)) ?_
  refine Run.nil (FinR.mk ?_)
  refine nK ?_
  (first | exact s_o1 hC rfl tV | exact s_o2 hC rfl tV tV | exact s_o3 hC rfl tV tV tV | exact s_o4 hC rfl tV tV tV tV | exact s_out0 hC rfl | exact s_outO hC rfl rfl rfl)
theorem ofT_c (p : Pfx) (x : Pvr) : Pure Try.prog 48 [.agg (encPv x), .cellp (encP p)] (Bf (decide (x.px = p))) := by
  rw [← eqFs_encP]
  refine Meets.intro Try.func48 rfl (Nat.le_of_ble_eq_true rfl) fun C hC => ?_
  simp only [List.map, argEnv, Nat.reduceAdd]
  refine nK ?_
  refine s_reg rfl ?_
  refine Run.eff (dd := some 2) rfl rfl (op_box_flat rfl (Opd.tmp _ _ rfl) tC rfl) ?_
  refine Run.pure (dd := some 3) rfl rfl (op_assign rfl (Opd.const _)) ?_
  refine Run.nil (FinR.mk ?_)
  refine nK ?_
  refine s_reg rfl ?_
  refine Run.pure (dd := some 4) rfl rfl (op_fld_ptr (by decide) rfl (Opd.tmp _ _ rfl)) ?_
  refine Run.load (dd := some 5) rfl rfl (op_loadn_flat rfl (Opd.tmp _ _ rfl) tH tR tR) ?_
  refine Run.pure (dd := some 6) rfl rfl (op_loadw_fz rfl (Opd.tmp _ _ rfl) rfl) ?_
  refine Run.pure (dd := some 7) rfl rfl (op_eqS rfl (Opd.tmp _ _ rfl) (Opd.tmp _ _ rfl) (by kernel_rfl)) ?_
  refine Run.pure (dd := some 3) rfl rfl (op_assign rfl (Opd.tmp _ _ rfl)) ?_
  refine Run.nil (FinR.mk ?_)
  refine nK ?_
  (first | exact s_o1 hC rfl tV | exact s_o2 hC rfl tV tV | exact s_o3 hC rfl tV tV tV | exact s_o4 hC rfl tV tV tV tV | exact s_out0 hC rfl | exact s_outO hC rfl rfl rfl)
theorem putT_c (x : Pvr) : Pure Try.prog 40 [.agg (encPv x)] (Bf true) := by
  refine Meets.intro Try.func40 rfl (Nat.le_of_ble_eq_true rfl) fun C hC => ?_
  simp only [List.map, argEnv, Nat.reduceAdd]
  refine nK ?_
  refine s_reg rfl ?_
  refine Run.eff (dd := some 1) rfl rfl (op_box_flat rfl (Opd.tmp _ _ rfl) tC rfl) ?_
  refine Run.pure (dd := some 2) rfl rfl (op_assign rfl (Opd.const _)) ?_
  refine Run.nil (FinR.mk ?_)
  refine nK ?_
  refine s_reg rfl ?_
  refine Run.pure (dd := some 2) rfl rfl (op_assign rfl (Opd.const _)) ?_
  refine Run.nil (FinR.mk ?_)
  refine nK ?_
  (first | exact s_o1 hC rfl tV | exact s_o2 hC rfl tV tV | exact s_o3 hC rfl tV tV tV | exact s_o4 hC rfl tV tV tV tV | exact s_out0 hC rfl | exact s_outO hC rfl rfl rfl)
open Go Go.RT Go.Proofs Go.Pl
set_option maxRecDepth 20000
theorem without_m (l : List Pvr) (h : ∀ r ∈ l, okPv r) (hn : l.length ≤ 9000) (gf : Nat) [FnB Try.prog gf] (caps : List FV) (p : Pvr → Bool) (hp : ∀ x, Pure Try.prog gf ([.agg (encPv x)] ++ caps) (Bf (p x))) : Meets Try.prog 44 ([VPv l, .clo gf caps].map PV.fz) 0 [] (.tup [.sl 0 22 0 (l.filter fun x => !p x).length, .fz (VP (pfsF (l.filter p)))]) [(0, OPv (l.filter fun x => !p x))] 1 := by
  have kk := keep_c l (by omega) gf caps p hp
  have h1 : ∀ q : Pvr → Bool, (l.filter q).length ≤ l.length := fun q => List.length_filter_le _ _
  have hl1 := h1 p
  have hl2 := h1 fun x => !p x
  have ho : ∀ r ∈ l.filter (fun x => !p x), okPv r := fun r hr => h r (List.mem_filter.1 hr).1
  generalize l.filter p = a at *
  generalize (l.filter fun x => !p x) = b at *
  have kr := pvroutes_f b ho (by omega)
  have kp := prefixes_c a (by omega)
  refine Meets.intro Try.func44 rfl (Nat.le_of_ble_eq_true rfl) fun C hC => ?_
  simp only [List.map, argEnv, Nat.reduceAdd]
  refine nK ?_
  refine s_reg rfl ?_
  refine Run.pure (dd := some 4) rfl rfl (op_assign rfl (Opd.const _)) ?_
  refine Run.pure (dd := some 5) rfl rfl (op_assign rfl (Opd.const _)) ?_
  refine Run.nil (FinR.mk ?_)
  refine nK ?_
  refine s_reg rfl ?_
  refine Run.pure (dd := some 9) rfl rfl (op_move rfl (Opd.tmp _ _ rfl)) ?_
  refine Run.pure (dd := some 10) rfl rfl (op_move rfl (Opd.tmp _ _ rfl)) ?_
  refine Run.pure (dd := some 11) rfl rfl (op_call_pure (fun _ => kk) rfl (Opd.func _) (Opds.cons _ _ _ _ (Opd.tmp _ _ rfl) (Opds.cons _ _ _ _ (Opd.tmp _ _ rfl) Opds.nil))) ?_
  refine Run.pure (dd := some 8) rfl rfl (op_move rfl (Opd.tmp _ _ rfl)) ?_
  refine Run.pure (dd := some 12) rfl rfl (op_extract_fz rfl (Opd.tmp _ _ rfl) rfl) ?_
  refine Run.pure (dd := some 13) rfl rfl (op_extract_fz rfl (Opd.tmp _ _ rfl) rfl) ?_
  refine Run.pure (dd := some 6) rfl rfl (op_assign rfl (Opd.tmp _ _ rfl)) ?_
  refine Run.pure (dd := some 7) rfl rfl (op_assign rfl (Opd.tmp _ _ rfl)) ?_
  refine Run.nil (FinR.mk ?_)
  refine nK ?_
  refine s_reg rfl ?_
  refine Run.pure (dd := some 14) rfl rfl (op_move rfl (Opd.tmp _ _ rfl)) ?_
  refine Run.eff (dd := some 15) rfl rfl (op_call_fresh (fun _ => kr) rfl (Opd.func _) (Opds.cons _ _ _ _ (Opd.tmp _ _ rfl) Opds.nil)) ?_
  refine Run.pure (dd := some 16) rfl rfl (op_move rfl (Opd.tmp _ _ rfl)) ?_
  refine Run.pure (dd := some 17) rfl rfl (op_call_pure (fun _ => kp) rfl (Opd.func _) (Opds.cons _ _ _ _ (Opd.tmp _ _ rfl) Opds.nil)) ?_
  refine Run.pure (dd := some 4) rfl rfl (op_assign rfl (Opd.tmp _ _ rfl)) ?_
  refine Run.pure (dd := some 5) rfl rfl (op_assign rfl (Opd.tmp _ _ rfl)) ?_
  refine Run.nil (FinR.mk ?_)
  refine nK ?_
  refine Next.weakS [4] [] (by rfl) (keeps0 hC _) (G' := [(4, .sl 0 22 0 b.length), (5, .fz (VP (pfsF a)))]) (H' := [(0, OPv b)]) (by repeat (first | exact trivial | refine ⟨⟨_, rfl, .inl ⟨rfl, rfl⟩⟩, ?_⟩ | refine ⟨⟨_, rfl, .inl ⟨slEq rfl tN, rfl⟩⟩, ?_⟩ | refine ⟨⟨_, rfl, .inl ⟨ivEq tX, rfl⟩⟩, ?_⟩ | refine ⟨⟨_, rfl, .inr ⟨_, rfl, tW⟩⟩, ?_⟩)) (by repeat (first | exact trivial | refine ⟨ent_same rfl rfl rfl tL, ?_⟩ | refine ⟨ent_same rfl rfl (rfEq rfl tU) tL, ?_⟩ | refine ⟨ent_same rfl rfl (flEq rfl (by first | (simp; done) | (simp; omega) | (simp [encP, encPv, encAt, encSg, encTl, encW, encN, encY]; done) | simp [maxC, minC])) trivial, ?_⟩)) rfl ?_
  exact n_out2 rfl (by rfl) (by rfl) (.inr rfl)
theorem is_c (n : Int) (p : Pfx) : Pure Try.prog 45 [If .i64 n, .agg (encP p)] (.clo 69 [.cellp [If .i64 n], .cellp (encP p)]) := by
  refine Meets.intro Try.func45 rfl (Nat.le_of_ble_eq_true rfl) fun C hC => ?_
  simp only [List.map, argEnv, Nat.reduceAdd]
  refine nK ?_
  refine s_reg rfl ?_
  refine Run.eff (dd := some 2) rfl rfl (op_box_flat rfl (Opd.tmp _ _ rfl) tC rfl) ?_
  refine Run.eff (dd := some 3) rfl rfl (op_box_flat rfl (Opd.tmp _ _ rfl) tC rfl) ?_
  refine Run.pure (dd := some 4) rfl rfl (op_assign rfl (Opd.const _)) ?_
  refine Run.nil (FinR.mk ?_)
  refine nK ?_
  refine Next.weakS [] [2, 3] (by rfl) (keeps0 hC _) (G' := [(2, .fz (.cellp [If .i64 n])), (3, .fz (.cellp (encP p)))]) (H' := []) (by repeat (first | exact trivial | refine ⟨⟨_, rfl, .inl ⟨rfl, rfl⟩⟩, ?_⟩ | refine ⟨⟨_, rfl, .inl ⟨slEq rfl tN, rfl⟩⟩, ?_⟩ | refine ⟨⟨_, rfl, .inl ⟨ivEq tX, rfl⟩⟩, ?_⟩ | refine ⟨⟨_, rfl, .inr ⟨_, rfl, tW⟩⟩, ?_⟩)) trivial rfl ?_
  refine nK ?_
  refine s_reg rfl ?_
  refine Run.pure (dd := some 5) rfl rfl (op_makeFuncF (fs := [.cellp [If .i64 n], .cellp (encP p)]) rfl (Opds.cons _ _ _ _ (Opd.tmp _ _ rfl) (Opds.cons _ _ _ _ (Opd.tmp _ _ rfl) Opds.nil))) ?_
  refine Run.pure (dd := some 4) rfl rfl (op_assign rfl (Opd.tmp _ _ rfl)) ?_
  refine Run.nil (FinR.mk ?_)
  refine nK ?_
  (first | exact s_o1 hC rfl tV | exact s_o2 hC rfl tV tV | exact s_o3 hC rfl tV tV tV | exact s_o4 hC rfl tV tV tV tV | exact s_out0 hC rfl | exact s_outO hC rfl rfl rfl)
theorem drop_c (l : List Pvr) (n : Int) (p : Pfx) (h : ∀ r ∈ l, okPv r) (hn : l.length ≤ 9000) : Pure Try.prog 18 [VPv l, If .i64 n, .agg (encP p)] (.tup [VPv (l.filter fun x => !(decide (x.pe = n) && decide (x.px = p))), Bf (decide (0 < ((pfsF (l.filter fun x => (decide (x.pe = n) && decide (x.px = p)))).length : Int)))]) := by
  have kw := without_m l h hn 69 [.cellp [If .i64 n], .cellp (encP p)] (fun x => decide (x.pe = n) && decide (x.px = p)) (isT_c n p)
  have ki := is_c n p
  generalize (l.filter fun x => (decide (x.pe = n) && decide (x.px = p))) = a at *
  generalize (l.filter fun x => !(decide (x.pe = n) && decide (x.px = p))) = b at *
  refine Meets.intro Try.func18 rfl (Nat.le_of_ble_eq_true rfl) fun C hC => ?_
  simp only [List.map, argEnv, Nat.reduceAdd]
  refine nK ?_
  refine s_reg rfl ?_
  refine Run.eff (dd := some 5) rfl rfl (op_box_flat rfl (Opd.tmp _ _ rfl) tC rfl) ?_
  refine Run.pure (dd := some 6) rfl rfl (op_assign rfl (Opd.const _)) ?_
  refine Run.pure (dd := some 7) rfl rfl (op_assign rfl (Opd.const _)) ?_
  refine Run.nil (FinR.mk ?_)
  refine nK ?_
  refine s_reg rfl ?_
  refine Run.pure (dd := some 11) rfl rfl (op_move rfl (Opd.tmp _ _ rfl)) ?_
  refine Run.pure (dd := some 12) rfl rfl (op_move rfl (Opd.tmp _ _ rfl)) ?_
  refine Run.load (dd := some 13) rfl rfl (op_loadw_flat rfl (Opd.tmp _ _ rfl) tH rfl) ?_
  refine Run.pure (dd := some 14) rfl rfl (op_call_pure (fun _ => ki) rfl (Opd.func _) (Opds.cons _ _ _ _ (Opd.tmp _ _ rfl) (Opds.cons _ _ _ _ (Opd.tmp _ _ rfl) Opds.nil))) ?_
  refine Run.eff (dd := some 15) rfl rfl (op_call (n := 0) (n' := 1) [] (fun _ => kw) rfl (Opd.func _) (Opds.cons _ _ _ _ (Opd.tmp _ _ rfl) (Opds.cons _ _ _ _ (Opd.tmp _ _ rfl) Opds.nil)) rfl rfl (Lent.nil _) rfl rfl rfl rfl rfl) ?_
  refine Run.pure (dd := some 10) rfl rfl (op_move rfl (Opd.tmp _ _ rfl)) ?_
  refine Run.pure (dd := some 16) rfl rfl (op_extract rfl (Opd.tmp _ _ rfl) rfl) ?_
  refine Run.pure (dd := some 17) rfl rfl (op_extract rfl (Opd.tmp _ _ rfl) rfl) ?_
  refine Run.pure (dd := some 8) rfl rfl (op_assign rfl (Opd.tmp _ _ rfl)) ?_
  refine Run.pure (dd := some 9) rfl rfl (op_assign rfl (Opd.tmp _ _ rfl)) ?_
  refine Run.nil (FinR.mk ?_)
  refine nK ?_
  refine s_reg rfl ?_
  refine Run.pure (dd := some 18) rfl rfl (op_move rfl (Opd.tmp _ _ rfl)) ?_
  refine Run.pure (dd := some 19) rfl rfl (op_move rfl (Opd.tmp _ _ rfl)) ?_
  refine Run.pure (dd := some 20) rfl rfl (op_len_fz rfl (by first | exact Opd.tmp _ _ rfl | exact Opd.nil _ _ (Opd.tmp _ _ rfl)) (by first | exact List.length_map _ | rfl)) ?_
  refine Run.pure (dd := some 21) rfl rfl (op_gtr rfl (Opd.tmp _ _ rfl) (Opd.const _)) ?_
  refine Run.pure (dd := some 6) rfl rfl (op_assign rfl (Opd.tmp _ _ rfl)) ?_
  refine Run.pure (dd := some 7) rfl rfl (op_assign rfl (Opd.tmp _ _ rfl)) ?_
  refine Run.nil (FinR.mk ?_)
  refine nK ?_
  refine Next.weakS [] [6] (by rfl) (keeps0 hC _) (G' := [(6, .fz (VPv b)), (7, BV (decide (0 < ((pfsF a).length : Int))))]) (H' := []) (by repeat (first | exact trivial | refine ⟨⟨_, rfl, .inl ⟨rfl, rfl⟩⟩, ?_⟩ | refine ⟨⟨_, rfl, .inl ⟨slEq rfl tN, rfl⟩⟩, ?_⟩ | refine ⟨⟨_, rfl, .inl ⟨ivEq tX, rfl⟩⟩, ?_⟩ | refine ⟨⟨_, rfl, .inr ⟨_, rfl, tW⟩⟩, ?_⟩)) trivial rfl ?_
  (first | exact s_o1 hC rfl tV | exact s_o2 hC rfl tV tV | exact s_o3 hC rfl tV tV tV | exact s_o4 hC rfl tV tV tV tV | exact s_out0 hC rfl | exact s_outO hC rfl rfl rfl)
theorem clear_c (l : List Pvr) (n : Int) (h : ∀ r ∈ l, okPv r) (hn : l.length ≤ 9000) : Pure Try.prog 20 [VPv l, If .i64 n] (.tup [VPv (l.filter fun x => !decide (x.pe = n)), VP (pfsF (l.filter fun x => decide (x.pe = n)))]) := by
  have kw := without_m l h hn 46 [.cellp [If .i64 n]] (fun x => decide (x.pe = n)) (clearT_c n)
  generalize (l.filter fun x => decide (x.pe = n)) = a at *
  generalize (l.filter fun x => !decide (x.pe = n)) = b at *
  refine Meets.intro Try.func20 rfl (Nat.le_of_ble_eq_true rfl) fun C hC => ?_
  simp only [List.map, argEnv, Nat.reduceAdd]
  refine nK ?_
  refine s_reg rfl ?_
  refine Run.eff (dd := some 3) rfl rfl (op_box_flat rfl (Opd.tmp _ _ rfl) tC rfl) ?_
  refine Run.pure (dd := some 4) rfl rfl (op_assign rfl (Opd.const _)) ?_
  refine Run.pure (dd := some 5) rfl rfl (op_assign rfl (Opd.const _)) ?_
  refine Run.nil (FinR.mk ?_)
  refine nK ?_
  refine Next.weakS [] [3] (by rfl) (keeps0 hC _) (G' := [(0, .fz (VPv l)), (3, .fz (.cellp [If .i64 n]))]) (H' := []) (by repeat (first | exact trivial | refine ⟨⟨_, rfl, .inl ⟨rfl, rfl⟩⟩, ?_⟩ | refine ⟨⟨_, rfl, .inl ⟨slEq rfl tN, rfl⟩⟩, ?_⟩ | refine ⟨⟨_, rfl, .inl ⟨ivEq tX, rfl⟩⟩, ?_⟩ | refine ⟨⟨_, rfl, .inr ⟨_, rfl, tW⟩⟩, ?_⟩)) trivial rfl ?_
  refine nK ?_
  refine s_reg rfl ?_
  refine Run.pure (dd := some 6) rfl rfl (op_move rfl (Opd.tmp _ _ rfl)) ?_
  refine Run.pure (dd := some 7) rfl rfl (op_makeFuncF (fs := [.cellp [If .i64 n]]) rfl (Opds.cons _ _ _ _ (Opd.tmp _ _ rfl) Opds.nil)) ?_
  refine Run.eff (dd := some 8) rfl rfl (op_call (n := 0) (n' := 1) [] (fun _ => kw) rfl (Opd.func _) (Opds.cons _ _ _ _ (Opd.tmp _ _ rfl) (Opds.cons _ _ _ _ (Opd.tmp _ _ rfl) Opds.nil)) rfl rfl (Lent.nil _) rfl rfl rfl rfl rfl) ?_
  refine Run.pure (dd := some 9) rfl rfl (op_extract rfl (Opd.tmp _ _ rfl) rfl) ?_
  refine Run.pure (dd := some 10) rfl rfl (op_extract rfl (Opd.tmp _ _ rfl) rfl) ?_
  refine Run.pure (dd := some 4) rfl rfl (op_assign rfl (Opd.tmp _ _ rfl)) ?_
  refine Run.pure (dd := some 5) rfl rfl (op_assign rfl (Opd.tmp _ _ rfl)) ?_
  refine Run.nil (FinR.mk ?_)
  refine nK ?_
  refine Next.weakS [] [4] (by rfl) (keeps0 hC _) (G' := [(4, .fz (VPv b)), (5, .fz (VP (pfsF a)))]) (H' := []) (by repeat (first | exact trivial | refine ⟨⟨_, rfl, .inl ⟨rfl, rfl⟩⟩, ?_⟩ | refine ⟨⟨_, rfl, .inl ⟨slEq rfl tN, rfl⟩⟩, ?_⟩ | refine ⟨⟨_, rfl, .inl ⟨ivEq tX, rfl⟩⟩, ?_⟩ | refine ⟨⟨_, rfl, .inr ⟨_, rfl, tW⟩⟩, ?_⟩)) trivial rfl ?_
  (first | exact s_o1 hC rfl tV | exact s_o2 hC rfl tV tV | exact s_o3 hC rfl tV tV tV | exact s_o4 hC rfl tV tV tV tV | exact s_out0 hC rfl | exact s_outO hC rfl rfl rfl)
theorem sweep_c (l : List Pvr) (n : Int) (h : ∀ r ∈ l, okPv r) (hn : l.length ≤ 9000) : Pure Try.prog 25 [VPv l, If .i64 n] (.tup [VPv (l.filter fun x => !(decide (x.pe = n) && x.st)), VP (pfsF (l.filter fun x => decide (x.pe = n) && x.st))]) := by
  have kw := without_m l h hn 47 [.cellp [If .i64 n]] (fun x => decide (x.pe = n) && x.st) (sweepT_c n)
  generalize (l.filter fun x => decide (x.pe = n) && x.st) = a at *
  generalize (l.filter fun x => !(decide (x.pe = n) && x.st)) = b at *
  refine Meets.intro Try.func25 rfl (Nat.le_of_ble_eq_true rfl) fun C hC => ?_
  simp only [List.map, argEnv, Nat.reduceAdd]
  refine nK ?_
  refine s_reg rfl ?_
  refine Run.eff (dd := some 3) rfl rfl (op_box_flat rfl (Opd.tmp _ _ rfl) tC rfl) ?_
  refine Run.pure (dd := some 4) rfl rfl (op_assign rfl (Opd.const _)) ?_
  refine Run.pure (dd := some 5) rfl rfl (op_assign rfl (Opd.const _)) ?_
  refine Run.nil (FinR.mk ?_)
  refine nK ?_
  refine Next.weakS [] [3] (by rfl) (keeps0 hC _) (G' := [(0, .fz (VPv l)), (3, .fz (.cellp [If .i64 n]))]) (H' := []) (by repeat (first | exact trivial | refine ⟨⟨_, rfl, .inl ⟨rfl, rfl⟩⟩, ?_⟩ | refine ⟨⟨_, rfl, .inl ⟨slEq rfl tN, rfl⟩⟩, ?_⟩ | refine ⟨⟨_, rfl, .inl ⟨ivEq tX, rfl⟩⟩, ?_⟩ | refine ⟨⟨_, rfl, .inr ⟨_, rfl, tW⟩⟩, ?_⟩)) trivial rfl ?_
  refine nK ?_
  refine s_reg rfl ?_
  refine Run.pure (dd := some 6) rfl rfl (op_move rfl (Opd.tmp _ _ rfl)) ?_
  refine Run.pure (dd := some 7) rfl rfl (op_makeFuncF (fs := [.cellp [If .i64 n]]) rfl (Opds.cons _ _ _ _ (Opd.tmp _ _ rfl) Opds.nil)) ?_
  refine Run.eff (dd := some 8) rfl rfl (op_call (n := 0) (n' := 1) [] (fun _ => kw) rfl (Opd.func _) (Opds.cons _ _ _ _ (Opd.tmp _ _ rfl) (Opds.cons _ _ _ _ (Opd.tmp _ _ rfl) Opds.nil)) rfl rfl (Lent.nil _) rfl rfl rfl rfl rfl) ?_
  refine Run.pure (dd := some 9) rfl rfl (op_extract rfl (Opd.tmp _ _ rfl) rfl) ?_
  refine Run.pure (dd := some 10) rfl rfl (op_extract rfl (Opd.tmp _ _ rfl) rfl) ?_
  refine Run.pure (dd := some 4) rfl rfl (op_assign rfl (Opd.tmp _ _ rfl)) ?_
  refine Run.pure (dd := some 5) rfl rfl (op_assign rfl (Opd.tmp _ _ rfl)) ?_
  refine Run.nil (FinR.mk ?_)
  refine nK ?_
  refine Next.weakS [] [4] (by rfl) (keeps0 hC _) (G' := [(4, .fz (VPv b)), (5, .fz (VP (pfsF a)))]) (H' := []) (by repeat (first | exact trivial | refine ⟨⟨_, rfl, .inl ⟨rfl, rfl⟩⟩, ?_⟩ | refine ⟨⟨_, rfl, .inl ⟨slEq rfl tN, rfl⟩⟩, ?_⟩ | refine ⟨⟨_, rfl, .inl ⟨ivEq tX, rfl⟩⟩, ?_⟩ | refine ⟨⟨_, rfl, .inr ⟨_, rfl, tW⟩⟩, ?_⟩)) trivial rfl ?_
  (first | exact s_o1 hC rfl tV | exact s_o2 hC rfl tV tV | exact s_o3 hC rfl tV tV tV | exact s_o4 hC rfl tV tV tV tV | exact s_out0 hC rfl | exact s_outO hC rfl rfl rfl)
theorem sweep_m (l : List Pvr) (n : Int) (h : ∀ r ∈ l, okPv r) (hn : l.length ≤ 9000) : Meets Try.prog 25 ([VPv l, If .i64 n].map PV.fz) 0 [] (.tup [.sl 0 22 0 (l.filter fun x => !(decide (x.pe = n) && x.st)).length, .fz (VP (pfsF (l.filter fun x => decide (x.pe = n) && x.st)))]) [(0, OPv (l.filter fun x => !(decide (x.pe = n) && x.st)))] 1 := by
  have kw := without_m l h hn 47 [.cellp [If .i64 n]] (fun x => decide (x.pe = n) && x.st) (sweepT_c n)
  generalize (l.filter fun x => decide (x.pe = n) && x.st) = a at *
  generalize (l.filter fun x => !(decide (x.pe = n) && x.st)) = b at *
  refine Meets.intro Try.func25 rfl (Nat.le_of_ble_eq_true rfl) fun C hC => ?_
  simp only [List.map, argEnv, Nat.reduceAdd]
  refine nK ?_
  refine s_reg rfl ?_
  refine Run.eff (dd := some 3) rfl rfl (op_box_flat rfl (Opd.tmp _ _ rfl) tC rfl) ?_
  refine Run.pure (dd := some 4) rfl rfl (op_assign rfl (Opd.const _)) ?_
  refine Run.pure (dd := some 5) rfl rfl (op_assign rfl (Opd.const _)) ?_
  refine Run.nil (FinR.mk ?_)
  refine nK ?_
  refine Next.weakS [] [3] (by rfl) (keeps0 hC _) (G' := [(0, .fz (VPv l)), (3, .fz (.cellp [If .i64 n]))]) (H' := []) (by repeat (first | exact trivial | refine ⟨⟨_, rfl, .inl ⟨rfl, rfl⟩⟩, ?_⟩ | refine ⟨⟨_, rfl, .inl ⟨slEq rfl tN, rfl⟩⟩, ?_⟩ | refine ⟨⟨_, rfl, .inl ⟨ivEq tX, rfl⟩⟩, ?_⟩ | refine ⟨⟨_, rfl, .inr ⟨_, rfl, tW⟩⟩, ?_⟩)) trivial rfl ?_
  refine nK ?_
  refine s_reg rfl ?_
  refine Run.pure (dd := some 6) rfl rfl (op_move rfl (Opd.tmp _ _ rfl)) ?_
  refine Run.pure (dd := some 7) rfl rfl (op_makeFuncF (fs := [.cellp [If .i64 n]]) rfl (Opds.cons _ _ _ _ (Opd.tmp _ _ rfl) Opds.nil)) ?_
  refine Run.eff (dd := some 8) rfl rfl (op_call (n := 0) (n' := 1) [] (fun _ => kw) rfl (Opd.func _) (Opds.cons _ _ _ _ (Opd.tmp _ _ rfl) (Opds.cons _ _ _ _ (Opd.tmp _ _ rfl) Opds.nil)) rfl rfl (Lent.nil _) rfl rfl rfl rfl rfl) ?_
  refine Run.pure (dd := some 9) rfl rfl (op_extract rfl (Opd.tmp _ _ rfl) rfl) ?_
  refine Run.pure (dd := some 10) rfl rfl (op_extract rfl (Opd.tmp _ _ rfl) rfl) ?_
  refine Run.pure (dd := some 4) rfl rfl (op_assign rfl (Opd.tmp _ _ rfl)) ?_
  refine Run.pure (dd := some 5) rfl rfl (op_assign rfl (Opd.tmp _ _ rfl)) ?_
  refine Run.nil (FinR.mk ?_)
  refine nK ?_
  refine Next.weakS [4] [] (by rfl) (keeps0 hC _) (G' := [(4, .sl 0 22 0 b.length), (5, .fz (VP (pfsF a)))]) (H' := [(0, OPv b)]) (by repeat (first | exact trivial | refine ⟨⟨_, rfl, .inl ⟨rfl, rfl⟩⟩, ?_⟩ | refine ⟨⟨_, rfl, .inl ⟨slEq rfl tN, rfl⟩⟩, ?_⟩ | refine ⟨⟨_, rfl, .inl ⟨ivEq tX, rfl⟩⟩, ?_⟩ | refine ⟨⟨_, rfl, .inr ⟨_, rfl, tW⟩⟩, ?_⟩)) (by repeat (first | exact trivial | refine ⟨ent_same rfl rfl rfl tL, ?_⟩ | refine ⟨ent_same rfl rfl (rfEq rfl tU) tL, ?_⟩ | refine ⟨ent_same rfl rfl (flEq rfl (by first | (simp; done) | (simp; omega) | (simp [encP, encPv, encAt, encSg, encTl, encW, encN, encY]; done) | simp [maxC, minC])) trivial, ?_⟩)) rfl ?_
  exact n_out2 rfl (by rfl) (by rfl) (.inr rfl)
theorem stale_c (l : List Pvr) (n : Int) (h : ∀ r ∈ l, okPv r) (hn : l.length ≤ 9000) : Pure Try.prog 23 [VPv l, If .i64 n] (.tup [VPv ((l.filter fun x => !(decide (x.pe = n) && x.st)).map (mkSt n)), VP (pfsF (l.filter fun x => decide (x.pe = n) && x.st))]) := by
  have kw := sweep_m l n h hn
  have hl2 : (l.filter fun x => !(decide (x.pe = n) && x.st)).length ≤ l.length := List.length_filter_le _ _
  generalize (l.filter fun x => decide (x.pe = n) && x.st) = a at *
  generalize (l.filter fun x => !(decide (x.pe = n) && x.st)) = b at *
  refine Meets.intro Try.func23 rfl (Nat.le_of_ble_eq_true rfl) fun C hC => ?_
  simp only [List.map, argEnv, Nat.reduceAdd]
  refine nK ?_
  refine s_reg rfl ?_
  refine Run.pure (dd := some 4) rfl rfl (op_assign rfl (Opd.const _)) ?_
  refine Run.pure (dd := some 5) rfl rfl (op_assign rfl (Opd.const _)) ?_
  refine Run.nil (FinR.mk ?_)
  refine nK ?_
  refine s_reg rfl ?_
  refine Run.pure (dd := some 10) rfl rfl (op_move rfl (Opd.tmp _ _ rfl)) ?_
  refine Run.pure (dd := some 11) rfl rfl (op_move rfl (Opd.tmp _ _ rfl)) ?_
  refine Run.eff (dd := some 12) rfl rfl (op_call (n := 0) (n' := 1) [] (fun _ => kw) rfl (Opd.func _) (Opds.cons _ _ _ _ (Opd.tmp _ _ rfl) (Opds.cons _ _ _ _ (Opd.tmp _ _ rfl) Opds.nil)) rfl rfl (Lent.nil _) rfl rfl rfl rfl rfl) ?_
  refine Run.pure (dd := some 9) rfl rfl (op_move rfl (Opd.tmp _ _ rfl)) ?_
  refine Run.pure (dd := some 13) rfl rfl (op_extract rfl (Opd.tmp _ _ rfl) rfl) ?_
  refine Run.pure (dd := some 14) rfl rfl (op_extract rfl (Opd.tmp _ _ rfl) rfl) ?_
  refine Run.pure (dd := some 6) rfl rfl (op_assign rfl (Opd.tmp _ _ rfl)) ?_
  refine Run.pure (dd := some 7) rfl rfl (op_assign rfl (Opd.tmp _ _ rfl)) ?_
  refine Run.nil (FinR.mk ?_)
  refine nK ?_
  refine s_reg rfl ?_
  refine Run.pure (dd := some 15) rfl rfl (op_move rfl (Opd.tmp _ _ rfl)) ?_
  refine Run.pure (dd := some 16) rfl rfl (op_len_sl rfl (Opd.tmp _ _ rfl)) ?_
  refine Run.pure (dd := some 17) rfl rfl (op_move rfl (Opd.const _)) ?_
  refine Run.nil (FinR.mk ?_)
  refine nK ?_
  refine n_loop (ι := Nat) (fun i => ([(1, IV .i64 n), (6, .sl 0 22 0 b.length), (7, .fz (VP (pfsF a))), (16, IV .i64 b.length), (17, IV .i64 i)], [(0, OPv (stG n i b))], 1)) (fun i => i ≤ b.length) (fun i => b.length - i) 0 (Nat.zero_le _) ?_ ?_
  · rw [stG_zero]
    refine Next.weakS [6] [] (by rfl) (by first | exact keeps0 hC _ | exact keepsN hC _ rfl) (by repeat (first | exact trivial | refine ⟨⟨_, rfl, .inl ⟨rfl, rfl⟩⟩, ?_⟩ | refine ⟨⟨_, rfl, .inl ⟨slEq rfl tN, rfl⟩⟩, ?_⟩ | refine ⟨⟨_, rfl, .inl ⟨ivEq tX, rfl⟩⟩, ?_⟩)) (by repeat (first | exact trivial | refine ⟨ent_same rfl rfl rfl tL, ?_⟩ | refine ⟨ent_same rfl rfl (rfEq rfl tU) tL, ?_⟩ | refine ⟨ent_same rfl rfl (flEq rfl (by first | (simp; done) | (simp; omega) | (simp [encP, encPv, encAt, encSg, encTl, encW, encN, encY]; done) | simp [maxC, minC])) trivial, ?_⟩)) rfl (rel_intro)
  · intro i hi K hK
    have hsl := stG_len n i b
    refine nK ?_
    refine s_reg rfl ?_
    refine Run.pure (dd := some 18) rfl rfl (op_lss rfl (Opd.tmp _ _ rfl) (Opd.tmp _ _ rfl)) ?_
    refine Run.nil (FinR.mk ?_)
    refine nK ?_
    refine n_cond _ rfl (fun hb => ?_) (fun hb => ?_)
    · have hlt : i < b.length := by simp at hb; omega
      have hr0 := row_at' encPv (stG n i b) i (by omega)
      rw [stG_at n hlt] at hr0
      have hK1 := hK (i + 1) (by omega) (by omega)
      have hst := stG_set n hlt
      have hsk := stG_skip n hlt
      generalize b[i] = x at *
      refine nK ?_
      refine s_reg rfl ?_
      refine Run.pure (dd := some 19) rfl rfl (op_move rfl (Opd.tmp _ _ rfl)) ?_
      refine Run.pure (dd := some 8) rfl rfl (op_assign rfl (Opd.tmp _ _ rfl)) ?_
      refine Run.nil (FinR.mk ?_)
      refine nK ?_
      refine s_reg rfl ?_
      refine Run.pure (dd := some 20) rfl rfl (op_move rfl (Opd.tmp _ _ rfl)) ?_
      refine Run.pure (dd := some 21) rfl rfl (op_move rfl (Opd.tmp _ _ rfl)) ?_
      refine Run.pure (dd := some 22) rfl rfl (op_idx_sl0 i rfl (Opd.tmp _ _ rfl) (Opd.tmp _ _ rfl) (by intro _; constructor <;> omega)) ?_
      refine Run.pure (dd := some 23) rfl rfl (op_fld_ptr (by decide) rfl (Opd.tmp _ _ rfl)) ?_
      refine Run.load (dd := some 24) rfl rfl (op_load1_flat rfl (Opd.tmp _ _ rfl) tH rfl) ?_
      refine Run.pure (dd := some 25) rfl rfl (op_move rfl (Opd.tmp _ _ rfl)) ?_
      refine Run.pure (dd := some 26) rfl rfl (op_eql rfl (Opd.tmp _ _ rfl) (Opd.tmp _ _ rfl)) ?_
      refine Run.nil (FinR.mk ?_)
      refine nK ?_
      refine n_cond _ rfl (fun hb => ?_) (fun hb => ?_)
      · have hx : x.pe = n := by simpa using hb
        have hset : ((stG n i b).map encPv).set i (encPv { x with st := true }) = (stG n (i + 1) b).map encPv := by
          rw [← hst, List.map_set]
          congr 2
          simp [mkSt, hx]
        unfold OPv at hK1
        rw [← hset] at hK1
        refine nK ?_
        refine s_reg rfl ?_
        refine Run.pure (dd := some 27) rfl rfl (op_move rfl (Opd.tmp _ _ rfl)) ?_
        refine Run.pure (dd := some 28) rfl rfl (op_move rfl (Opd.tmp _ _ rfl)) ?_
        refine Run.pure (dd := some 29) rfl rfl (op_idx_sl0 i rfl (Opd.tmp _ _ rfl) (Opd.tmp _ _ rfl) (by intro _; constructor <;> omega)) ?_
        refine Run.pure (dd := some 30) rfl rfl (op_fld_ptr (by decide) rfl (Opd.tmp _ _ rfl)) ?_
        refine Run.eff (dd := none) rfl rfl (op_store_flat rfl (Opd.tmp _ _ rfl) (Opd.const _) tC rfl rfl hr0 tS) ?_
        refine Run.nil (FinR.mk ?_)
        refine nK ?_
        refine s_reg rfl ?_
        refine Run.pure (dd := some 31) rfl rfl (op_add rfl (Opd.tmp _ _ rfl) (Opd.const _) tI) ?_
        refine Run.pure (dd := some 17) rfl rfl (op_move rfl (Opd.tmp _ _ rfl)) ?_
        refine Run.nil (FinR.mk ?_)
        refine nK ?_
        refine Next.weakS [6] [] (by rfl) (by first | exact keeps0 hC _ | exact keepsN hC _ rfl) (by repeat (first | exact trivial | refine ⟨⟨_, rfl, .inl ⟨rfl, rfl⟩⟩, ?_⟩ | refine ⟨⟨_, rfl, .inl ⟨slEq rfl tN, rfl⟩⟩, ?_⟩ | refine ⟨⟨_, rfl, .inl ⟨ivEq tX, rfl⟩⟩, ?_⟩)) (by repeat (first | exact trivial | refine ⟨ent_same rfl rfl rfl tL, ?_⟩ | refine ⟨ent_same rfl rfl (rfEq rfl tU) tL, ?_⟩ | refine ⟨ent_same rfl rfl (flEq rfl (by first | (simp; done) | (simp; omega) | (simp [encP, encPv, encAt, encSg, encTl, encW, encN, encY]; done) | simp [maxC, minC])) trivial, ?_⟩)) rfl (hK1)
      · have hx : x.pe ≠ n := by simpa using hb
        rw [hsk hx] at hK1
        refine nK ?_
        refine s_reg rfl ?_
        refine Run.pure (dd := some 31) rfl rfl (op_add rfl (Opd.tmp _ _ rfl) (Opd.const _) tI) ?_
        refine Run.pure (dd := some 17) rfl rfl (op_move rfl (Opd.tmp _ _ rfl)) ?_
        refine Run.nil (FinR.mk ?_)
        refine nK ?_
        refine Next.weakS [6] [] (by rfl) (by first | exact keeps0 hC _ | exact keepsN hC _ rfl) (by repeat (first | exact trivial | refine ⟨⟨_, rfl, .inl ⟨rfl, rfl⟩⟩, ?_⟩ | refine ⟨⟨_, rfl, .inl ⟨slEq rfl tN, rfl⟩⟩, ?_⟩ | refine ⟨⟨_, rfl, .inl ⟨ivEq tX, rfl⟩⟩, ?_⟩)) (by repeat (first | exact trivial | refine ⟨ent_same rfl rfl rfl tL, ?_⟩ | refine ⟨ent_same rfl rfl (rfEq rfl tU) tL, ?_⟩ | refine ⟨ent_same rfl rfl (flEq rfl (by first | (simp; done) | (simp; omega) | (simp [encP, encPv, encAt, encSg, encTl, encW, encN, encY]; done) | simp [maxC, minC])) trivial, ?_⟩)) rfl (hK1)
    · have hie : i = b.length := by simp at hb; omega
      rw [hie, stG_all]
      clear hK hsl
      have hml : (b.map (mkSt n)).length = b.length := List.length_map _
      generalize b.map (mkSt n) = c at *
      rw [← hml]
      refine nK ?_
      refine s_reg rfl ?_
      refine Run.pure (dd := some 32) rfl rfl (op_move rfl (Opd.tmp _ _ rfl)) ?_
      refine Run.pure (dd := some 33) rfl rfl (op_move rfl (Opd.tmp _ _ rfl)) ?_
      refine Run.pure (dd := some 4) rfl rfl (op_assign rfl (Opd.tmp _ _ rfl)) ?_
      refine Run.pure (dd := some 5) rfl rfl (op_assign rfl (Opd.tmp _ _ rfl)) ?_
      refine Run.nil (FinR.mk ?_)
      refine nK ?_
      refine Next.weakS [] [4] (by rfl) (keeps0 hC _) (G' := [(4, .fz (VPv c)), (5, .fz (VP (pfsF a)))]) (H' := []) (by repeat (first | exact trivial | refine ⟨⟨_, rfl, .inl ⟨rfl, rfl⟩⟩, ?_⟩ | refine ⟨⟨_, rfl, .inl ⟨slEq rfl tN, rfl⟩⟩, ?_⟩ | refine ⟨⟨_, rfl, .inl ⟨ivEq tX, rfl⟩⟩, ?_⟩ | refine ⟨⟨_, rfl, .inr ⟨_, rfl, tW⟩⟩, ?_⟩)) trivial rfl ?_
      (first | exact s_o1 hC rfl tV | exact s_o2 hC rfl tV tV | exact s_o3 hC rfl tV tV tV | exact s_o4 hC rfl tV tV tV tV | exact s_out0 hC rfl | exact s_outO hC rfl rfl rfl)
end Go.Proofs.Ytfkcbglnadjnnaa
/- The reference's lists. No program in sight. -/
namespace Go.Pl
open Go Go.RT
set_option linter.all false
theorem anyV_take (p : Pvr → Bool) {l : List Pvr} {i : Nat} (h : i < l.length) : (l.take (i + 1)).any p = ((l.take i).any p || p l[i]) := by
  rw [List.take_succ_eq_append_getElem h, List.any_append]; simp
theorem filtM_take (p : Pvr → Bool) {l : List Pvr} {i : Nat} (h : i < l.length) : ((l.take (i + 1)).filter p).map (·.px) = ((l.take i).filter p).map (·.px) ++ if p l[i] = true then [l[i].px] else [] := by
  rw [filtV_take p h, List.map_append]
  by_cases c : p l[i] = true
  · rw [if_pos c, if_pos c]; rfl
  · rw [if_neg c, if_neg c]; rfl
theorem filtM_le (p : Pvr → Bool) (l : List Pvr) (i : Nat) : (((l.take i).filter p).map (·.px)).length ≤ l.length := by rw [List.length_map]; exact filtV_le p l i
def rprF (l : List Pvr) : List Pfx := l.foldl (fun o x => if o.getLast? = some x.px then o else o ++ [x.px]) []
theorem rprF_take {l : List Pvr} {i : Nat} (h : i < l.length) : rprF (l.take (i + 1)) = if (rprF (l.take i)).getLast? = some l[i].px then rprF (l.take i) else rprF (l.take i) ++ [l[i].px] := by
  unfold rprF
  rw [List.take_succ_eq_append_getElem h, List.foldl_append]; rfl
theorem rprF_le (l : List Pvr) : ∀ i, i ≤ l.length → (rprF (l.take i)).length ≤ i := by
  intro i
  induction i with
  | zero => intro _; simp [rprF]
  | succ i ih =>
    intro hi
    rw [rprF_take (by omega)]
    have := ih (by omega)
    split
    · omega
    · simp; omega
theorem last_cond {o : List Pfx} {p : Pfx} {q : Pfx} (hq : 0 < o.length → o.getLast? = some q) : (o.getLast? = some p) ↔ (decide ((o.length : Int) = 0) || !decide (q = p)) = false := by
  by_cases h : 0 < o.length
  · rw [hq h]
    have : ¬ ((o.length : Int) = 0) := by omega
    simp [this]
    intro _ e; rw [e] at h; simp at h
  · have : o = [] := List.eq_nil_of_length_eq_zero (by omega)
    subst this; simp
theorem last_row (o : List Pfx) : ∃ q, (0 < o.length → o.getLast? = some q) ∧ (0 < o.length → (o.map encP)[o.length - 1]? = some (encP q)) := by
  by_cases h : 0 < o.length
  · refine ⟨o[o.length - 1], fun _ => ?_, fun _ => ?_⟩
    · rw [List.getLast?_eq_getElem?, List.getElem?_eq_getElem (by omega)]
    · rw [List.getElem?_map, List.getElem?_eq_getElem (by omega)]; rfl
  · exact ⟨⟨0, 0⟩, fun k => absurd k h, fun k => absurd k h⟩
end Go.Pl
namespace Go.Proofs.Ytfkcbglnadjnnaa
open Go Go.RT Go.Proofs Go.Pl
set_option linter.all false
set_option maxRecDepth 20000
theorem rdrop_c (l : List Pvr) (n : Int) (p : Pfx) (h : ∀ r ∈ l, okPv r) (hn : l.length ≤ 9000) : Pure Try.prog 19 [VPv l, If .i64 n, .agg (encP p)] (.tup [VPv (l.filter fun x => !(decide (x.pe = n) && decide (x.px = p))), Bf (l.any fun x => decide (x.pe = n) && decide (x.px = p))]) := by
  refine Meets.intro Try.func19 rfl (Nat.le_of_ble_eq_true rfl) fun C hC => ?_
  simp only [List.map, argEnv, Nat.reduceAdd]
  refine nK ?_
  refine s_reg rfl ?_
  refine Run.eff (dd := some 5) rfl rfl (op_box_flat rfl (Opd.tmp _ _ rfl) tC rfl) ?_
  refine Run.pure (dd := some 6) rfl rfl (op_assign rfl (Opd.const _)) ?_
  refine Run.pure (dd := some 7) rfl rfl (op_assign rfl (Opd.const _)) ?_
  refine Run.nil (FinR.mk ?_)
  refine nK ?_
  refine s_reg rfl ?_
  refine Run.pure (dd := some 8) rfl rfl (op_assign rfl (Opd.const _)) ?_
  refine Run.nil (FinR.mk ?_)
  refine nK ?_
  refine s_reg rfl ?_
  refine Run.pure (dd := some 9) rfl rfl (op_assign rfl (Opd.const _)) ?_
  refine Run.nil (FinR.mk ?_)
  refine nK ?_
  refine Next.adopt 8 22 rfl ?_
  refine nK ?_
  refine s_reg rfl ?_
  refine Run.pure (dd := some 12) rfl rfl (op_move rfl (Opd.tmp _ _ rfl)) ?_
  refine Run.pure (dd := some 13) rfl rfl (op_len_fz rfl (by first | exact Opd.tmp _ _ rfl | exact Opd.nil _ _ (Opd.tmp _ _ rfl)) (by first | exact List.length_map _ | rfl)) ?_
  refine Run.pure (dd := some 14) rfl rfl (op_move rfl (Opd.const _)) ?_
  refine Run.nil (FinR.mk ?_)
  refine nK ?_
  refine n_loop (ι := Nat × List Pvr × Bool) (fun g => ([(1, IV .i64 n), (5, .ptr 0 2 0 0), (8, .sl 1 22 0 g.2.1.length), (9, BV g.2.2), (12, .fz (VPv l)), (13, IV .i64 l.length), (14, IV .i64 g.1)], [(0, some (.flat 2 [encP p])), (1, OPv g.2.1)], 2)) (fun g => g.1 ≤ l.length ∧ g.2.1 = (l.take g.1).filter (fun x => !(decide (x.pe = n) && decide (x.px = p))) ∧ g.2.2 = (l.take g.1).any fun x => decide (x.pe = n) && decide (x.px = p)) (fun g => l.length - g.1) (0, [], false) ⟨Nat.zero_le _, by simp, by simp⟩ ?_ ?_
  · refine Next.weakS [5, 8] [] (by rfl) (by first | exact keeps0 hC _ | exact keepsN hC _ rfl) (by repeat (first | exact trivial | refine ⟨⟨_, rfl, .inl ⟨rfl, rfl⟩⟩, ?_⟩ | refine ⟨⟨_, rfl, .inl ⟨slEq rfl tN, rfl⟩⟩, ?_⟩ | refine ⟨⟨_, rfl, .inl ⟨ivEq tX, rfl⟩⟩, ?_⟩)) (by repeat (first | exact trivial | refine ⟨ent_same rfl rfl rfl tL, ?_⟩ | refine ⟨ent_same rfl rfl (rfEq rfl tU) tL, ?_⟩ | refine ⟨ent_same rfl rfl (flEq rfl (by first | (simp; done) | (simp; omega) | (simp [encP, encPv, encAt, encSg, encTl, encW, encN, encY]; done) | simp [maxC, minC])) trivial, ?_⟩)) rfl (rel_intro)
  · intro ⟨i, o, f⟩ ⟨hi, hS, hF⟩ K hK
    dsimp only at hi hS hF ⊢
    have hol : o.length ≤ l.length := by rw [hS]; exact filtV_le _ _ _
    refine nK ?_
    refine s_reg rfl ?_
    refine Run.pure (dd := some 15) rfl rfl (op_lss rfl (Opd.tmp _ _ rfl) (Opd.tmp _ _ rfl)) ?_
    refine Run.nil (FinR.mk ?_)
    refine nK ?_
    refine n_cond _ rfl (fun hb => ?_) (fun hb => ?_)
    · have hlt : i < l.length := by simp at hb; omega
      have hr1 := row_at' encPv l i hlt
      have hs := filtV_take (fun x => !(decide (x.pe = n) && decide (x.px = p))) hlt
      have hf := anyV_take (fun x => decide (x.pe = n) && decide (x.px = p)) hlt
      rw [← hS] at hs
      rw [← hF] at hf
      have hK1 := fun a b h h2 => hK (i + 1, a, b) ⟨by dsimp only; omega, h, h2⟩ (by dsimp only; omega)
      dsimp only at hK1
      have ox := h _ (List.getElem_mem hlt)
      generalize l[i] = x at *
      have kx := rclone_c x ox
      have hc : (decide (x.pe = n) && decide (x.px = p)) = (decide (x.pe = n) && eqFs (encP x.px) (encP p)) := by rw [eqFs_encP]
      refine nK ?_
      refine s_reg rfl ?_
      refine Run.pure (dd := some 16) rfl rfl (op_idx_fz _ rfl (Opd.tmp _ _ rfl) (Opd.tmp _ _ rfl) tF) ?_
      refine Run.pure (dd := some 17) rfl rfl (op_loadw_fz rfl (Opd.tmp _ _ rfl) rfl) ?_
      refine Run.eff (dd := some 11) rfl rfl (op_alloc rfl rfl rfl rfl) ?_
      refine Run.eff (dd := none) rfl rfl (op_store_flat rfl (Opd.tmp _ _ rfl) (Opd.tmp _ _ rfl) tC rfl rfl (by first | rfl | assumption) tS) ?_
      refine Run.nil (FinR.mk ?_)
      refine nK ?_
      refine s_reg rfl ?_
      refine Run.pure (dd := some 18) rfl rfl (op_fld_ptr (by decide) rfl (Opd.tmp _ _ rfl)) ?_
      refine Run.load (dd := some 19) rfl rfl (op_load1_flat rfl (Opd.tmp _ _ rfl) tH rfl) ?_
      refine Run.pure (dd := some 20) rfl rfl (op_move rfl (Opd.tmp _ _ rfl)) ?_
      refine Run.pure (dd := some 21) rfl rfl (op_eql rfl (Opd.tmp _ _ rfl) (Opd.tmp _ _ rfl)) ?_
      refine Run.pure (dd := some 22) rfl rfl (op_move rfl (Opd.tmp _ _ rfl)) ?_
      refine Run.pureG (dd := some 23) rfl rfl rfl tG (op_fld_ptr (by decide) rfl (Opd.tmp _ _ rfl)) ?_
      refine Run.loadG (dd := some 24) rfl rfl rfl tG (op_loadn_flat rfl (Opd.topt _ _ _ rfl tO) tH tR tR) ?_
      refine Run.loadG (dd := some 25) rfl rfl rfl tG (op_loadw_flat rfl (Opd.tmp _ _ rfl) tH rfl) ?_
      refine Run.pureG (dd := some 26) rfl rfl rfl tG (op_eqS rfl (Opd.topt _ _ _ rfl tO) (Opd.topt _ _ _ rfl tO) (by kernel_rfl)) ?_
      refine Run.pure (dd := some 27) rfl rfl (op_pick_and rfl (Opd.tmp _ _ rfl) (Opd.topt _ _ _ rfl tO)) ?_
      refine Run.nil (FinR.mk ?_)
      refine nK ?_
      refine n_cond _ rfl (fun hb => ?_) (fun hb => ?_)
      · have hb' : (decide (x.pe = n) && decide (x.px = p)) = true := hc.trans hb
        rw [if_neg (by rw [hb']; decide), List.append_nil] at hs
        rw [hb', Bool.or_true] at hf
        refine nK ?_
        refine s_reg rfl ?_
        refine Run.pure (dd := some 9) rfl rfl (op_assign rfl (Opd.const _)) ?_
        refine Run.nil (FinR.mk ?_)
        refine nK ?_
        refine s_reg rfl ?_
        refine Run.pure (dd := some 33) rfl rfl (op_add rfl (Opd.tmp _ _ rfl) (Opd.const _) tI) ?_
        refine Run.pure (dd := some 14) rfl rfl (op_move rfl (Opd.tmp _ _ rfl)) ?_
        refine Run.nil (FinR.mk ?_)
        refine nK ?_
        refine Next.weakS [5, 8] [] (by rfl) (by first | exact keeps0 hC _ | exact keepsN hC _ rfl) (by repeat (first | exact trivial | refine ⟨⟨_, rfl, .inl ⟨rfl, rfl⟩⟩, ?_⟩ | refine ⟨⟨_, rfl, .inl ⟨slEq rfl tN, rfl⟩⟩, ?_⟩ | refine ⟨⟨_, rfl, .inl ⟨ivEq tX, rfl⟩⟩, ?_⟩)) (by repeat (first | exact trivial | refine ⟨ent_same rfl rfl rfl tL, ?_⟩ | refine ⟨ent_same rfl rfl (rfEq rfl tU) tL, ?_⟩ | refine ⟨ent_same rfl rfl (flEq rfl (by first | (simp; done) | (simp; omega) | (simp [encP, encPv, encAt, encSg, encTl, encW, encN, encY]; done) | simp [maxC, minC])) trivial, ?_⟩)) rfl ((hK1 o true hs.symm hf.symm))
      · have hb' : (decide (x.pe = n) && decide (x.px = p)) = false := hc.trans hb
        rw [if_pos (by rw [hb']; decide)] at hs
        rw [hb', Bool.or_false] at hf
        have hK2 := hK1 (o ++ [x]) f hs.symm hf.symm
        unfold OPv at hK2
        rw [app1, app2] at hK2
        refine nK ?_
        refine s_reg rfl ?_
        refine Run.pure (dd := some 28) rfl rfl (op_move rfl (Opd.tmp _ _ rfl)) ?_
        refine Run.load (dd := some 29) rfl rfl (op_loadw_flat rfl (Opd.tmp _ _ rfl) tH rfl) ?_
        refine Run.pure (dd := some 30) rfl rfl (op_call_pure (fun _ => kx) rfl (Opd.func _) (Opds.cons _ _ _ _ (Opd.tmp _ _ rfl) Opds.nil)) ?_
        refine Run.pure (dd := some 31) rfl rfl (op_buildSlice_fz rfl (RowsF.cons _ _ _ _ _ _ (Opd.tmp _ _ rfl) tC (by rfl) (RowsF.nil _)) rfl rfl) ?_
        refine Run.eff (dd := some 32) rfl rfl (op_append rfl (Opd.tmp _ _ rfl) (Opd.tmp _ _ rfl) rfl (by simp) rfl rfl tB tB) ?_
        refine Run.pure (dd := some 8) rfl rfl (op_assign rfl (Opd.tmp _ _ rfl)) ?_
        refine Run.nil (FinR.mk ?_)
        refine nK ?_
        refine s_reg rfl ?_
        refine Run.pure (dd := some 33) rfl rfl (op_add rfl (Opd.tmp _ _ rfl) (Opd.const _) tI) ?_
        refine Run.pure (dd := some 14) rfl rfl (op_move rfl (Opd.tmp _ _ rfl)) ?_
        refine Run.nil (FinR.mk ?_)
        refine nK ?_
        refine Next.weakS [5, 8] [] (by rfl) (by first | exact keeps0 hC _ | exact keepsN hC _ rfl) (by repeat (first | exact trivial | refine ⟨⟨_, rfl, .inl ⟨rfl, rfl⟩⟩, ?_⟩ | refine ⟨⟨_, rfl, .inl ⟨slEq rfl tN, rfl⟩⟩, ?_⟩ | refine ⟨⟨_, rfl, .inl ⟨ivEq tX, rfl⟩⟩, ?_⟩)) (by repeat (first | exact trivial | refine ⟨ent_same rfl rfl rfl tL, ?_⟩ | refine ⟨ent_same rfl rfl (rfEq rfl tU) tL, ?_⟩ | refine ⟨ent_same rfl rfl (flEq rfl (by first | (simp; done) | (simp; omega) | (simp [encP, encPv, encAt, encSg, encTl, encW, encN, encY]; done) | simp [maxC, minC])) trivial, ?_⟩)) rfl (hK2)
    · have hie : i = l.length := by simp at hb; omega
      rw [hie, List.take_length] at hS hF
      rw [← hS, ← hF]
      refine nK ?_
      refine s_reg rfl ?_
      refine Run.pure (dd := some 34) rfl rfl (op_move rfl (Opd.tmp _ _ rfl)) ?_
      refine Run.pure (dd := some 35) rfl rfl (op_move rfl (Opd.tmp _ _ rfl)) ?_
      refine Run.pure (dd := some 6) rfl rfl (op_assign rfl (Opd.tmp _ _ rfl)) ?_
      refine Run.pure (dd := some 7) rfl rfl (op_assign rfl (Opd.tmp _ _ rfl)) ?_
      refine Run.nil (FinR.mk ?_)
      refine nK ?_
      refine Next.weakS [] [6] (by rfl) (keeps0 hC _) (G' := [(6, .fz (VPv o)), (7, BV f)]) (H' := []) (by repeat (first | exact trivial | refine ⟨⟨_, rfl, .inl ⟨rfl, rfl⟩⟩, ?_⟩ | refine ⟨⟨_, rfl, .inl ⟨slEq rfl tN, rfl⟩⟩, ?_⟩ | refine ⟨⟨_, rfl, .inl ⟨ivEq tX, rfl⟩⟩, ?_⟩ | refine ⟨⟨_, rfl, .inr ⟨_, rfl, tW⟩⟩, ?_⟩)) trivial rfl ?_
      (first | exact s_o1 hC rfl tV | exact s_o2 hC rfl tV tV | exact s_o3 hC rfl tV tV tV | exact s_o4 hC rfl tV tV tV tV | exact s_out0 hC rfl | exact s_outO hC rfl rfl rfl)
theorem rclear_c (l : List Pvr) (n : Int) (h : ∀ r ∈ l, okPv r) (hn : l.length ≤ 9000) : Pure Try.prog 21 [VPv l, If .i64 n] (.tup [VPv (l.filter fun x => !(decide (x.pe = n))), VP ((l.filter fun x => decide (x.pe = n)).map (·.px))]) := by
  refine Meets.intro Try.func21 rfl (Nat.le_of_ble_eq_true rfl) fun C hC => ?_
  simp only [List.map, argEnv, Nat.reduceAdd]
  refine nK ?_
  refine s_reg rfl ?_
  refine Run.pure (dd := some 4) rfl rfl (op_assign rfl (Opd.const _)) ?_
  refine Run.pure (dd := some 5) rfl rfl (op_assign rfl (Opd.const _)) ?_
  refine Run.nil (FinR.mk ?_)
  refine nK ?_
  refine s_reg rfl ?_
  refine Run.pure (dd := some 6) rfl rfl (op_assign rfl (Opd.const _)) ?_
  refine Run.nil (FinR.mk ?_)
  refine nK ?_
  refine s_reg rfl ?_
  refine Run.pure (dd := some 7) rfl rfl (op_assign rfl (Opd.const _)) ?_
  refine Run.nil (FinR.mk ?_)
  refine nK ?_
  refine Next.adopt 6 22 rfl ?_
  refine Next.adopt 7 2 rfl ?_
  refine nK ?_
  refine s_reg rfl ?_
  refine Run.pure (dd := some 10) rfl rfl (op_move rfl (Opd.tmp _ _ rfl)) ?_
  refine Run.pure (dd := some 11) rfl rfl (op_len_fz rfl (by first | exact Opd.tmp _ _ rfl | exact Opd.nil _ _ (Opd.tmp _ _ rfl)) (by first | exact List.length_map _ | rfl)) ?_
  refine Run.pure (dd := some 12) rfl rfl (op_move rfl (Opd.const _)) ?_
  refine Run.nil (FinR.mk ?_)
  refine nK ?_
  refine n_loop (ι := Nat × List Pvr × List Pfx) (fun g => ([(1, IV .i64 n), (6, .sl 0 22 0 g.2.1.length), (7, .sl 1 2 0 g.2.2.length), (10, .fz (VPv l)), (11, IV .i64 l.length), (12, IV .i64 g.1)], [(0, OPv g.2.1), (1, OPf g.2.2)], 2)) (fun g => g.1 ≤ l.length ∧ g.2.1 = (l.take g.1).filter (fun x => !(decide (x.pe = n))) ∧ g.2.2 = ((l.take g.1).filter fun x => decide (x.pe = n)).map (·.px)) (fun g => l.length - g.1) (0, [], []) ⟨Nat.zero_le _, by simp, by simp⟩ ?_ ?_
  · refine Next.weakS [6, 7] [] (by rfl) (by first | exact keeps0 hC _ | exact keepsN hC _ rfl) (by repeat (first | exact trivial | refine ⟨⟨_, rfl, .inl ⟨rfl, rfl⟩⟩, ?_⟩ | refine ⟨⟨_, rfl, .inl ⟨slEq rfl tN, rfl⟩⟩, ?_⟩ | refine ⟨⟨_, rfl, .inl ⟨ivEq tX, rfl⟩⟩, ?_⟩)) (by repeat (first | exact trivial | refine ⟨ent_same rfl rfl rfl tL, ?_⟩ | refine ⟨ent_same rfl rfl (rfEq rfl tU) tL, ?_⟩ | refine ⟨ent_same rfl rfl (flEq rfl (by first | (simp; done) | (simp; omega) | (simp [encP, encPv, encAt, encSg, encTl, encW, encN, encY]; done) | simp [maxC, minC])) trivial, ?_⟩)) rfl (rel_intro)
  · intro ⟨i, o, f⟩ ⟨hi, hS, hF⟩ K hK
    dsimp only at hi hS hF ⊢
    have hol : o.length ≤ l.length := by rw [hS]; exact filtV_le _ _ _
    have hfl : f.length ≤ l.length := by rw [hF]; exact filtM_le _ _ _
    refine nK ?_
    refine s_reg rfl ?_
    refine Run.pure (dd := some 13) rfl rfl (op_lss rfl (Opd.tmp _ _ rfl) (Opd.tmp _ _ rfl)) ?_
    refine Run.nil (FinR.mk ?_)
    refine nK ?_
    refine n_cond _ rfl (fun hb => ?_) (fun hb => ?_)
    · have hlt : i < l.length := by simp at hb; omega
      have hr1 := row_at' encPv l i hlt
      have hs := filtV_take (fun x => !(decide (x.pe = n))) hlt
      have hf := filtM_take (fun x => decide (x.pe = n)) hlt
      rw [← hS] at hs
      rw [← hF] at hf
      have hK1 := fun a b h h2 => hK (i + 1, a, b) ⟨by dsimp only; omega, h, h2⟩ (by dsimp only; omega)
      dsimp only at hK1
      have ox := h _ (List.getElem_mem hlt)
      generalize l[i] = x at *
      have kx := rclone_c x ox
      refine nK ?_
      refine s_reg rfl ?_
      refine Run.pure (dd := some 14) rfl rfl (op_idx_fz _ rfl (Opd.tmp _ _ rfl) (Opd.tmp _ _ rfl) tF) ?_
      refine Run.pure (dd := some 15) rfl rfl (op_loadw_fz rfl (Opd.tmp _ _ rfl) rfl) ?_
      refine Run.eff (dd := some 9) rfl rfl (op_alloc rfl rfl rfl rfl) ?_
      refine Run.eff (dd := none) rfl rfl (op_store_flat rfl (Opd.tmp _ _ rfl) (Opd.tmp _ _ rfl) tC rfl rfl (by first | rfl | assumption) tS) ?_
      refine Run.nil (FinR.mk ?_)
      refine nK ?_
      refine s_reg rfl ?_
      refine Run.pure (dd := some 16) rfl rfl (op_fld_ptr (by decide) rfl (Opd.tmp _ _ rfl)) ?_
      refine Run.load (dd := some 17) rfl rfl (op_load1_flat rfl (Opd.tmp _ _ rfl) tH rfl) ?_
      refine Run.pure (dd := some 18) rfl rfl (op_move rfl (Opd.tmp _ _ rfl)) ?_
      refine Run.pure (dd := some 19) rfl rfl (op_eql rfl (Opd.tmp _ _ rfl) (Opd.tmp _ _ rfl)) ?_
      refine Run.nil (FinR.mk ?_)
      refine nK ?_
      refine n_cond _ rfl (fun hb => ?_) (fun hb => ?_)
      · have hb' : (decide (x.pe = n)) = true := hb
        rw [if_neg (by rw [hb']; decide), List.append_nil] at hs
        rw [if_pos hb'] at hf
        have hK2 := hK1 o (f ++ [x.px]) hs.symm hf.symm
        unfold OPf at hK2
        rw [app1, app2] at hK2
        refine nK ?_
        refine s_reg rfl ?_
        refine Run.pure (dd := some 20) rfl rfl (op_move rfl (Opd.tmp _ _ rfl)) ?_
        refine Run.pure (dd := some 21) rfl rfl (op_fld_ptr (by decide) rfl (Opd.tmp _ _ rfl)) ?_
        refine Run.load (dd := some 22) rfl rfl (op_loadn_flat rfl (Opd.tmp _ _ rfl) tH tR tR) ?_
        refine Run.pure (dd := some 23) rfl rfl (op_buildSlice_fz rfl (RowsF.cons _ _ _ _ _ _ (Opd.tmp _ _ rfl) tC (by rfl) (RowsF.nil _)) rfl rfl) ?_
        refine Run.eff (dd := some 24) rfl rfl (op_append rfl (Opd.tmp _ _ rfl) (Opd.tmp _ _ rfl) rfl (by simp) rfl rfl tB tB) ?_
        refine Run.pure (dd := some 7) rfl rfl (op_assign rfl (Opd.tmp _ _ rfl)) ?_
        refine Run.nil (FinR.mk ?_)
        refine nK ?_
        refine s_reg rfl ?_
        refine Run.pure (dd := some 30) rfl rfl (op_add rfl (Opd.tmp _ _ rfl) (Opd.const _) tI) ?_
        refine Run.pure (dd := some 12) rfl rfl (op_move rfl (Opd.tmp _ _ rfl)) ?_
        refine Run.nil (FinR.mk ?_)
        refine nK ?_
        refine Next.weakS [6, 7] [] (by rfl) (by first | exact keeps0 hC _ | exact keepsN hC _ rfl) (by repeat (first | exact trivial | refine ⟨⟨_, rfl, .inl ⟨rfl, rfl⟩⟩, ?_⟩ | refine ⟨⟨_, rfl, .inl ⟨slEq rfl tN, rfl⟩⟩, ?_⟩ | refine ⟨⟨_, rfl, .inl ⟨ivEq tX, rfl⟩⟩, ?_⟩)) (by repeat (first | exact trivial | refine ⟨ent_same rfl rfl rfl tL, ?_⟩ | refine ⟨ent_same rfl rfl (rfEq rfl tU) tL, ?_⟩ | refine ⟨ent_same rfl rfl (flEq rfl (by first | (simp; done) | (simp; omega) | (simp [encP, encPv, encAt, encSg, encTl, encW, encN, encY]; done) | simp [maxC, minC])) trivial, ?_⟩)) rfl (hK2)
      · have hb' : (decide (x.pe = n)) = false := hb
        rw [if_pos (by rw [hb']; decide)] at hs
        rw [if_neg (by rw [hb']; decide), List.append_nil] at hf
        have hK2 := hK1 (o ++ [x]) f hs.symm hf.symm
        unfold OPv at hK2
        rw [app1, app2] at hK2
        refine nK ?_
        refine s_reg rfl ?_
        refine Run.pure (dd := some 25) rfl rfl (op_move rfl (Opd.tmp _ _ rfl)) ?_
        refine Run.load (dd := some 26) rfl rfl (op_loadw_flat rfl (Opd.tmp _ _ rfl) tH rfl) ?_
        refine Run.pure (dd := some 27) rfl rfl (op_call_pure (fun _ => kx) rfl (Opd.func _) (Opds.cons _ _ _ _ (Opd.tmp _ _ rfl) Opds.nil)) ?_
        refine Run.pure (dd := some 28) rfl rfl (op_buildSlice_fz rfl (RowsF.cons _ _ _ _ _ _ (Opd.tmp _ _ rfl) tC (by rfl) (RowsF.nil _)) rfl rfl) ?_
        refine Run.eff (dd := some 29) rfl rfl (op_append rfl (Opd.tmp _ _ rfl) (Opd.tmp _ _ rfl) rfl (by simp) rfl rfl tB tB) ?_
        refine Run.pure (dd := some 6) rfl rfl (op_assign rfl (Opd.tmp _ _ rfl)) ?_
        refine Run.nil (FinR.mk ?_)
        refine nK ?_
        refine s_reg rfl ?_
        refine Run.pure (dd := some 30) rfl rfl (op_add rfl (Opd.tmp _ _ rfl) (Opd.const _) tI) ?_
        refine Run.pure (dd := some 12) rfl rfl (op_move rfl (Opd.tmp _ _ rfl)) ?_
        refine Run.nil (FinR.mk ?_)
        refine nK ?_
        refine Next.weakS [6, 7] [] (by rfl) (by first | exact keeps0 hC _ | exact keepsN hC _ rfl) (by repeat (first | exact trivial | refine ⟨⟨_, rfl, .inl ⟨rfl, rfl⟩⟩, ?_⟩ | refine ⟨⟨_, rfl, .inl ⟨slEq rfl tN, rfl⟩⟩, ?_⟩ | refine ⟨⟨_, rfl, .inl ⟨ivEq tX, rfl⟩⟩, ?_⟩)) (by repeat (first | exact trivial | refine ⟨ent_same rfl rfl rfl tL, ?_⟩ | refine ⟨ent_same rfl rfl (rfEq rfl tU) tL, ?_⟩ | refine ⟨ent_same rfl rfl (flEq rfl (by first | (simp; done) | (simp; omega) | (simp [encP, encPv, encAt, encSg, encTl, encW, encN, encY]; done) | simp [maxC, minC])) trivial, ?_⟩)) rfl (hK2)
    · have hie : i = l.length := by simp at hb; omega
      rw [hie, List.take_length] at hS hF
      rw [← hS, ← hF]
      refine nK ?_
      refine s_reg rfl ?_
      refine Run.pure (dd := some 31) rfl rfl (op_move rfl (Opd.tmp _ _ rfl)) ?_
      refine Run.pure (dd := some 32) rfl rfl (op_move rfl (Opd.tmp _ _ rfl)) ?_
      refine Run.pure (dd := some 4) rfl rfl (op_assign rfl (Opd.tmp _ _ rfl)) ?_
      refine Run.pure (dd := some 5) rfl rfl (op_assign rfl (Opd.tmp _ _ rfl)) ?_
      refine Run.nil (FinR.mk ?_)
      refine nK ?_
      refine Next.weakS [] [4, 5] (by rfl) (keeps0 hC _) (G' := [(4, .fz (VPv o)), (5, .fz (VP f))]) (H' := []) (by repeat (first | exact trivial | refine ⟨⟨_, rfl, .inl ⟨rfl, rfl⟩⟩, ?_⟩ | refine ⟨⟨_, rfl, .inl ⟨slEq rfl tN, rfl⟩⟩, ?_⟩ | refine ⟨⟨_, rfl, .inl ⟨ivEq tX, rfl⟩⟩, ?_⟩ | refine ⟨⟨_, rfl, .inr ⟨_, rfl, tW⟩⟩, ?_⟩)) trivial rfl ?_
      (first | exact s_o1 hC rfl tV | exact s_o2 hC rfl tV tV | exact s_o3 hC rfl tV tV tV | exact s_o4 hC rfl tV tV tV tV | exact s_out0 hC rfl | exact s_outO hC rfl rfl rfl)
theorem rsweep_c (l : List Pvr) (n : Int) (h : ∀ r ∈ l, okPv r) (hn : l.length ≤ 9000) : Pure Try.prog 26 [VPv l, If .i64 n] (.tup [VPv (l.filter fun x => !(decide (x.pe = n) && x.st)), VP ((l.filter fun x => decide (x.pe = n) && x.st).map (·.px))]) := by
  refine Meets.intro Try.func26 rfl (Nat.le_of_ble_eq_true rfl) fun C hC => ?_
  simp only [List.map, argEnv, Nat.reduceAdd]
  refine nK ?_
  refine s_reg rfl ?_
  refine Run.pure (dd := some 4) rfl rfl (op_assign rfl (Opd.const _)) ?_
  refine Run.pure (dd := some 5) rfl rfl (op_assign rfl (Opd.const _)) ?_
  refine Run.nil (FinR.mk ?_)
  refine nK ?_
  refine s_reg rfl ?_
  refine Run.pure (dd := some 6) rfl rfl (op_assign rfl (Opd.const _)) ?_
  refine Run.nil (FinR.mk ?_)
  refine nK ?_
  refine s_reg rfl ?_
  refine Run.pure (dd := some 7) rfl rfl (op_assign rfl (Opd.const _)) ?_
  refine Run.nil (FinR.mk ?_)
  refine nK ?_
  refine Next.adopt 6 22 rfl ?_
  refine Next.adopt 7 2 rfl ?_
  refine nK ?_
  refine s_reg rfl ?_
  refine Run.pure (dd := some 10) rfl rfl (op_move rfl (Opd.tmp _ _ rfl)) ?_
  refine Run.pure (dd := some 11) rfl rfl (op_len_fz rfl (by first | exact Opd.tmp _ _ rfl | exact Opd.nil _ _ (Opd.tmp _ _ rfl)) (by first | exact List.length_map _ | rfl)) ?_
  refine Run.pure (dd := some 12) rfl rfl (op_move rfl (Opd.const _)) ?_
  refine Run.nil (FinR.mk ?_)
  refine nK ?_
  refine n_loop (ι := Nat × List Pvr × List Pfx) (fun g => ([(1, IV .i64 n), (6, .sl 0 22 0 g.2.1.length), (7, .sl 1 2 0 g.2.2.length), (10, .fz (VPv l)), (11, IV .i64 l.length), (12, IV .i64 g.1)], [(0, OPv g.2.1), (1, OPf g.2.2)], 2)) (fun g => g.1 ≤ l.length ∧ g.2.1 = (l.take g.1).filter (fun x => !(decide (x.pe = n) && x.st)) ∧ g.2.2 = ((l.take g.1).filter fun x => decide (x.pe = n) && x.st).map (·.px)) (fun g => l.length - g.1) (0, [], []) ⟨Nat.zero_le _, by simp, by simp⟩ ?_ ?_
  · refine Next.weakS [6, 7] [] (by rfl) (by first | exact keeps0 hC _ | exact keepsN hC _ rfl) (by repeat (first | exact trivial | refine ⟨⟨_, rfl, .inl ⟨rfl, rfl⟩⟩, ?_⟩ | refine ⟨⟨_, rfl, .inl ⟨slEq rfl tN, rfl⟩⟩, ?_⟩ | refine ⟨⟨_, rfl, .inl ⟨ivEq tX, rfl⟩⟩, ?_⟩)) (by repeat (first | exact trivial | refine ⟨ent_same rfl rfl rfl tL, ?_⟩ | refine ⟨ent_same rfl rfl (rfEq rfl tU) tL, ?_⟩ | refine ⟨ent_same rfl rfl (flEq rfl (by first | (simp; done) | (simp; omega) | (simp [encP, encPv, encAt, encSg, encTl, encW, encN, encY]; done) | simp [maxC, minC])) trivial, ?_⟩)) rfl (rel_intro)
  · intro ⟨i, o, f⟩ ⟨hi, hS, hF⟩ K hK
    dsimp only at hi hS hF ⊢
    have hol : o.length ≤ l.length := by rw [hS]; exact filtV_le _ _ _
    have hfl : f.length ≤ l.length := by rw [hF]; exact filtM_le _ _ _
    refine nK ?_
    refine s_reg rfl ?_
    refine Run.pure (dd := some 13) rfl rfl (op_lss rfl (Opd.tmp _ _ rfl) (Opd.tmp _ _ rfl)) ?_
    refine Run.nil (FinR.mk ?_)
    refine nK ?_
    refine n_cond _ rfl (fun hb => ?_) (fun hb => ?_)
    · have hlt : i < l.length := by simp at hb; omega
      have hr1 := row_at' encPv l i hlt
      have hs := filtV_take (fun x => !(decide (x.pe = n) && x.st)) hlt
      have hf := filtM_take (fun x => decide (x.pe = n) && x.st) hlt
      rw [← hS] at hs
      rw [← hF] at hf
      have hK1 := fun a b h h2 => hK (i + 1, a, b) ⟨by dsimp only; omega, h, h2⟩ (by dsimp only; omega)
      dsimp only at hK1
      have ox := h _ (List.getElem_mem hlt)
      generalize l[i] = x at *
      have kx := rclone_c x ox
      refine nK ?_
      refine s_reg rfl ?_
      refine Run.pure (dd := some 14) rfl rfl (op_idx_fz _ rfl (Opd.tmp _ _ rfl) (Opd.tmp _ _ rfl) tF) ?_
      refine Run.pure (dd := some 15) rfl rfl (op_loadw_fz rfl (Opd.tmp _ _ rfl) rfl) ?_
      refine Run.eff (dd := some 9) rfl rfl (op_alloc rfl rfl rfl rfl) ?_
      refine Run.eff (dd := none) rfl rfl (op_store_flat rfl (Opd.tmp _ _ rfl) (Opd.tmp _ _ rfl) tC rfl rfl (by first | rfl | assumption) tS) ?_
      refine Run.nil (FinR.mk ?_)
      refine nK ?_
      refine s_reg rfl ?_
      refine Run.pure (dd := some 16) rfl rfl (op_fld_ptr (by decide) rfl (Opd.tmp _ _ rfl)) ?_
      refine Run.load (dd := some 17) rfl rfl (op_load1_flat rfl (Opd.tmp _ _ rfl) tH rfl) ?_
      refine Run.pure (dd := some 18) rfl rfl (op_move rfl (Opd.tmp _ _ rfl)) ?_
      refine Run.pure (dd := some 19) rfl rfl (op_eql rfl (Opd.tmp _ _ rfl) (Opd.tmp _ _ rfl)) ?_
      refine Run.pure (dd := some 20) rfl rfl (op_move rfl (Opd.tmp _ _ rfl)) ?_
      refine Run.pureG (dd := some 21) rfl rfl rfl tG (op_fld_ptr (by decide) rfl (Opd.tmp _ _ rfl)) ?_
      refine Run.loadG (dd := some 22) rfl rfl rfl tG (op_load1_flat rfl (Opd.topt _ _ _ rfl tO) tH rfl) ?_
      refine Run.pure (dd := some 23) rfl rfl (op_pick_and rfl (Opd.tmp _ _ rfl) (Opd.topt _ _ _ rfl tO)) ?_
      refine Run.nil (FinR.mk ?_)
      refine nK ?_
      refine n_cond _ rfl (fun hb => ?_) (fun hb => ?_)
      · have hb' : (decide (x.pe = n) && x.st) = true := hb
        rw [if_neg (by rw [hb']; decide), List.append_nil] at hs
        rw [if_pos hb'] at hf
        have hK2 := hK1 o (f ++ [x.px]) hs.symm hf.symm
        unfold OPf at hK2
        rw [app1, app2] at hK2
        refine nK ?_
        refine s_reg rfl ?_
        refine Run.pure (dd := some 24) rfl rfl (op_move rfl (Opd.tmp _ _ rfl)) ?_
        refine Run.pure (dd := some 25) rfl rfl (op_fld_ptr (by decide) rfl (Opd.tmp _ _ rfl)) ?_
        refine Run.load (dd := some 26) rfl rfl (op_loadn_flat rfl (Opd.tmp _ _ rfl) tH tR tR) ?_
        refine Run.pure (dd := some 27) rfl rfl (op_buildSlice_fz rfl (RowsF.cons _ _ _ _ _ _ (Opd.tmp _ _ rfl) tC (by rfl) (RowsF.nil _)) rfl rfl) ?_
        refine Run.eff (dd := some 28) rfl rfl (op_append rfl (Opd.tmp _ _ rfl) (Opd.tmp _ _ rfl) rfl (by simp) rfl rfl tB tB) ?_
        refine Run.pure (dd := some 7) rfl rfl (op_assign rfl (Opd.tmp _ _ rfl)) ?_
        refine Run.nil (FinR.mk ?_)
        refine nK ?_
        refine s_reg rfl ?_
        refine Run.pure (dd := some 34) rfl rfl (op_add rfl (Opd.tmp _ _ rfl) (Opd.const _) tI) ?_
        refine Run.pure (dd := some 12) rfl rfl (op_move rfl (Opd.tmp _ _ rfl)) ?_
        refine Run.nil (FinR.mk ?_)
        refine nK ?_
        refine Next.weakS [6, 7] [] (by rfl) (by first | exact keeps0 hC _ | exact keepsN hC _ rfl) (by repeat (first | exact trivial | refine ⟨⟨_, rfl, .inl ⟨rfl, rfl⟩⟩, ?_⟩ | refine ⟨⟨_, rfl, .inl ⟨slEq rfl tN, rfl⟩⟩, ?_⟩ | refine ⟨⟨_, rfl, .inl ⟨ivEq tX, rfl⟩⟩, ?_⟩)) (by repeat (first | exact trivial | refine ⟨ent_same rfl rfl rfl tL, ?_⟩ | refine ⟨ent_same rfl rfl (rfEq rfl tU) tL, ?_⟩ | refine ⟨ent_same rfl rfl (flEq rfl (by first | (simp; done) | (simp; omega) | (simp [encP, encPv, encAt, encSg, encTl, encW, encN, encY]; done) | simp [maxC, minC])) trivial, ?_⟩)) rfl (hK2)
      · have hb' : (decide (x.pe = n) && x.st) = false := hb
        rw [if_pos (by rw [hb']; decide)] at hs
        rw [if_neg (by rw [hb']; decide), List.append_nil] at hf
        have hK2 := hK1 (o ++ [x]) f hs.symm hf.symm
        unfold OPv at hK2
        rw [app1, app2] at hK2
        refine nK ?_
        refine s_reg rfl ?_
        refine Run.pure (dd := some 29) rfl rfl (op_move rfl (Opd.tmp _ _ rfl)) ?_
        refine Run.load (dd := some 30) rfl rfl (op_loadw_flat rfl (Opd.tmp _ _ rfl) tH rfl) ?_
        refine Run.pure (dd := some 31) rfl rfl (op_call_pure (fun _ => kx) rfl (Opd.func _) (Opds.cons _ _ _ _ (Opd.tmp _ _ rfl) Opds.nil)) ?_
        refine Run.pure (dd := some 32) rfl rfl (op_buildSlice_fz rfl (RowsF.cons _ _ _ _ _ _ (Opd.tmp _ _ rfl) tC (by rfl) (RowsF.nil _)) rfl rfl) ?_
        refine Run.eff (dd := some 33) rfl rfl (op_append rfl (Opd.tmp _ _ rfl) (Opd.tmp _ _ rfl) rfl (by simp) rfl rfl tB tB) ?_
        refine Run.pure (dd := some 6) rfl rfl (op_assign rfl (Opd.tmp _ _ rfl)) ?_
        refine Run.nil (FinR.mk ?_)
        refine nK ?_
        refine s_reg rfl ?_
        refine Run.pure (dd := some 34) rfl rfl (op_add rfl (Opd.tmp _ _ rfl) (Opd.const _) tI) ?_
        refine Run.pure (dd := some 12) rfl rfl (op_move rfl (Opd.tmp _ _ rfl)) ?_
        refine Run.nil (FinR.mk ?_)
        refine nK ?_
        refine Next.weakS [6, 7] [] (by rfl) (by first | exact keeps0 hC _ | exact keepsN hC _ rfl) (by repeat (first | exact trivial | refine ⟨⟨_, rfl, .inl ⟨rfl, rfl⟩⟩, ?_⟩ | refine ⟨⟨_, rfl, .inl ⟨slEq rfl tN, rfl⟩⟩, ?_⟩ | refine ⟨⟨_, rfl, .inl ⟨ivEq tX, rfl⟩⟩, ?_⟩)) (by repeat (first | exact trivial | refine ⟨ent_same rfl rfl rfl tL, ?_⟩ | refine ⟨ent_same rfl rfl (rfEq rfl tU) tL, ?_⟩ | refine ⟨ent_same rfl rfl (flEq rfl (by first | (simp; done) | (simp; omega) | (simp [encP, encPv, encAt, encSg, encTl, encW, encN, encY]; done) | simp [maxC, minC])) trivial, ?_⟩)) rfl (hK2)
    · have hie : i = l.length := by simp at hb; omega
      rw [hie, List.take_length] at hS hF
      rw [← hS, ← hF]
      refine nK ?_
      refine s_reg rfl ?_
      refine Run.pure (dd := some 35) rfl rfl (op_move rfl (Opd.tmp _ _ rfl)) ?_
      refine Run.pure (dd := some 36) rfl rfl (op_move rfl (Opd.tmp _ _ rfl)) ?_
      refine Run.pure (dd := some 4) rfl rfl (op_assign rfl (Opd.tmp _ _ rfl)) ?_
      refine Run.pure (dd := some 5) rfl rfl (op_assign rfl (Opd.tmp _ _ rfl)) ?_
      refine Run.nil (FinR.mk ?_)
      refine nK ?_
      refine Next.weakS [] [4, 5] (by rfl) (keeps0 hC _) (G' := [(4, .fz (VPv o)), (5, .fz (VP f))]) (H' := []) (by repeat (first | exact trivial | refine ⟨⟨_, rfl, .inl ⟨rfl, rfl⟩⟩, ?_⟩ | refine ⟨⟨_, rfl, .inl ⟨slEq rfl tN, rfl⟩⟩, ?_⟩ | refine ⟨⟨_, rfl, .inl ⟨ivEq tX, rfl⟩⟩, ?_⟩ | refine ⟨⟨_, rfl, .inr ⟨_, rfl, tW⟩⟩, ?_⟩)) trivial rfl ?_
      (first | exact s_o1 hC rfl tV | exact s_o2 hC rfl tV tV | exact s_o3 hC rfl tV tV tV | exact s_o4 hC rfl tV tV tV tV | exact s_out0 hC rfl | exact s_outO hC rfl rfl rfl)
theorem rsweep_m (l : List Pvr) (n : Int) (h : ∀ r ∈ l, okPv r) (hn : l.length ≤ 9000) : Meets Try.prog 26 ([VPv l, If .i64 n].map PV.fz) 0 [] (.tup [.sl 0 22 0 (l.filter fun x => !(decide (x.pe = n) && x.st)).length, .fz (VP ((l.filter fun x => decide (x.pe = n) && x.st).map (·.px)))]) [(0, OPv (l.filter fun x => !(decide (x.pe = n) && x.st)))] 1 := by
  refine Meets.intro Try.func26 rfl (Nat.le_of_ble_eq_true rfl) fun C hC => ?_
  simp only [List.map, argEnv, Nat.reduceAdd]
  refine nK ?_
  refine s_reg rfl ?_
  refine Run.pure (dd := some 4) rfl rfl (op_assign rfl (Opd.const _)) ?_
  refine Run.pure (dd := some 5) rfl rfl (op_assign rfl (Opd.const _)) ?_
  refine Run.nil (FinR.mk ?_)
  refine nK ?_
  refine s_reg rfl ?_
  refine Run.pure (dd := some 6) rfl rfl (op_assign rfl (Opd.const _)) ?_
  refine Run.nil (FinR.mk ?_)
  refine nK ?_
  refine s_reg rfl ?_
  refine Run.pure (dd := some 7) rfl rfl (op_assign rfl (Opd.const _)) ?_
  refine Run.nil (FinR.mk ?_)
  refine nK ?_
  refine Next.adopt 6 22 rfl ?_
  refine Next.adopt 7 2 rfl ?_
  refine nK ?_
  refine s_reg rfl ?_
  refine Run.pure (dd := some 10) rfl rfl (op_move rfl (Opd.tmp _ _ rfl)) ?_
  refine Run.pure (dd := some 11) rfl rfl (op_len_fz rfl (by first | exact Opd.tmp _ _ rfl | exact Opd.nil _ _ (Opd.tmp _ _ rfl)) (by first | exact List.length_map _ | rfl)) ?_
  refine Run.pure (dd := some 12) rfl rfl (op_move rfl (Opd.const _)) ?_
  refine Run.nil (FinR.mk ?_)
  refine nK ?_
  refine n_loop (ι := Nat × List Pvr × List Pfx) (fun g => ([(1, IV .i64 n), (6, .sl 0 22 0 g.2.1.length), (7, .sl 1 2 0 g.2.2.length), (10, .fz (VPv l)), (11, IV .i64 l.length), (12, IV .i64 g.1)], [(0, OPv g.2.1), (1, OPf g.2.2)], 2)) (fun g => g.1 ≤ l.length ∧ g.2.1 = (l.take g.1).filter (fun x => !(decide (x.pe = n) && x.st)) ∧ g.2.2 = ((l.take g.1).filter fun x => decide (x.pe = n) && x.st).map (·.px)) (fun g => l.length - g.1) (0, [], []) ⟨Nat.zero_le _, by simp, by simp⟩ ?_ ?_
  · refine Next.weakS [6, 7] [] (by rfl) (by first | exact keeps0 hC _ | exact keepsN hC _ rfl) (by repeat (first | exact trivial | refine ⟨⟨_, rfl, .inl ⟨rfl, rfl⟩⟩, ?_⟩ | refine ⟨⟨_, rfl, .inl ⟨slEq rfl tN, rfl⟩⟩, ?_⟩ | refine ⟨⟨_, rfl, .inl ⟨ivEq tX, rfl⟩⟩, ?_⟩)) (by repeat (first | exact trivial | refine ⟨ent_same rfl rfl rfl tL, ?_⟩ | refine ⟨ent_same rfl rfl (rfEq rfl tU) tL, ?_⟩ | refine ⟨ent_same rfl rfl (flEq rfl (by first | (simp; done) | (simp; omega) | (simp [encP, encPv, encAt, encSg, encTl, encW, encN, encY]; done) | simp [maxC, minC])) trivial, ?_⟩)) rfl (rel_intro)
  · intro ⟨i, o, f⟩ ⟨hi, hS, hF⟩ K hK
    dsimp only at hi hS hF ⊢
    have hol : o.length ≤ l.length := by rw [hS]; exact filtV_le _ _ _
    have hfl : f.length ≤ l.length := by rw [hF]; exact filtM_le _ _ _
    refine nK ?_
    refine s_reg rfl ?_
    refine Run.pure (dd := some 13) rfl rfl (op_lss rfl (Opd.tmp _ _ rfl) (Opd.tmp _ _ rfl)) ?_
    refine Run.nil (FinR.mk ?_)
    refine nK ?_
    refine n_cond _ rfl (fun hb => ?_) (fun hb => ?_)
    · have hlt : i < l.length := by simp at hb; omega
      have hr1 := row_at' encPv l i hlt
      have hs := filtV_take (fun x => !(decide (x.pe = n) && x.st)) hlt
      have hf := filtM_take (fun x => decide (x.pe = n) && x.st) hlt
      rw [← hS] at hs
      rw [← hF] at hf
      have hK1 := fun a b h h2 => hK (i + 1, a, b) ⟨by dsimp only; omega, h, h2⟩ (by dsimp only; omega)
      dsimp only at hK1
      have ox := h _ (List.getElem_mem hlt)
      generalize l[i] = x at *
      have kx := rclone_c x ox
      refine nK ?_
      refine s_reg rfl ?_
      refine Run.pure (dd := some 14) rfl rfl (op_idx_fz _ rfl (Opd.tmp _ _ rfl) (Opd.tmp _ _ rfl) tF) ?_
      refine Run.pure (dd := some 15) rfl rfl (op_loadw_fz rfl (Opd.tmp _ _ rfl) rfl) ?_
      refine Run.eff (dd := some 9) rfl rfl (op_alloc rfl rfl rfl rfl) ?_
      refine Run.eff (dd := none) rfl rfl (op_store_flat rfl (Opd.tmp _ _ rfl) (Opd.tmp _ _ rfl) tC rfl rfl (by first | rfl | assumption) tS) ?_
      refine Run.nil (FinR.mk ?_)
      refine nK ?_
      refine s_reg rfl ?_
      refine Run.pure (dd := some 16) rfl rfl (op_fld_ptr (by decide) rfl (Opd.tmp _ _ rfl)) ?_
      refine Run.load (dd := some 17) rfl rfl (op_load1_flat rfl (Opd.tmp _ _ rfl) tH rfl) ?_
      refine Run.pure (dd := some 18) rfl rfl (op_move rfl (Opd.tmp _ _ rfl)) ?_
      refine Run.pure (dd := some 19) rfl rfl (op_eql rfl (Opd.tmp _ _ rfl) (Opd.tmp _ _ rfl)) ?_
      refine Run.pure (dd := some 20) rfl rfl (op_move rfl (Opd.tmp _ _ rfl)) ?_
      refine Run.pureG (dd := some 21) rfl rfl rfl tG (op_fld_ptr (by decide) rfl (Opd.tmp _ _ rfl)) ?_
      refine Run.loadG (dd := some 22) rfl rfl rfl tG (op_load1_flat rfl (Opd.topt _ _ _ rfl tO) tH rfl) ?_
      refine Run.pure (dd := some 23) rfl rfl (op_pick_and rfl (Opd.tmp _ _ rfl) (Opd.topt _ _ _ rfl tO)) ?_
      refine Run.nil (FinR.mk ?_)
      refine nK ?_
      refine n_cond _ rfl (fun hb => ?_) (fun hb => ?_)
      · have hb' : (decide (x.pe = n) && x.st) = true := hb
        rw [if_neg (by rw [hb']; decide), List.append_nil] at hs
        rw [if_pos hb'] at hf
        have hK2 := hK1 o (f ++ [x.px]) hs.symm hf.symm
        unfold OPf at hK2
        rw [app1, app2] at hK2
        refine nK ?_
        refine s_reg rfl ?_
        refine Run.pure (dd := some 24) rfl rfl (op_move rfl (Opd.tmp _ _ rfl)) ?_
        refine Run.pure (dd := some 25) rfl rfl (op_fld_ptr (by decide) rfl (Opd.tmp _ _ rfl)) ?_
        refine Run.load (dd := some 26) rfl rfl (op_loadn_flat rfl (Opd.tmp _ _ rfl) tH tR tR) ?_
        refine Run.pure (dd := some 27) rfl rfl (op_buildSlice_fz rfl (RowsF.cons _ _ _ _ _ _ (Opd.tmp _ _ rfl) tC (by rfl) (RowsF.nil _)) rfl rfl) ?_
        refine Run.eff (dd := some 28) rfl rfl (op_append rfl (Opd.tmp _ _ rfl) (Opd.tmp _ _ rfl) rfl (by simp) rfl rfl tB tB) ?_
        refine Run.pure (dd := some 7) rfl rfl (op_assign rfl (Opd.tmp _ _ rfl)) ?_
        refine Run.nil (FinR.mk ?_)
        refine nK ?_
        refine s_reg rfl ?_
        refine Run.pure (dd := some 34) rfl rfl (op_add rfl (Opd.tmp _ _ rfl) (Opd.const _) tI) ?_
        refine Run.pure (dd := some 12) rfl rfl (op_move rfl (Opd.tmp _ _ rfl)) ?_
        refine Run.nil (FinR.mk ?_)
        refine nK ?_
        refine Next.weakS [6, 7] [] (by rfl) (by first | exact keeps0 hC _ | exact keepsN hC _ rfl) (by repeat (first | exact trivial | refine ⟨⟨_, rfl, .inl ⟨rfl, rfl⟩⟩, ?_⟩ | refine ⟨⟨_, rfl, .inl ⟨slEq rfl tN, rfl⟩⟩, ?_⟩ | refine ⟨⟨_, rfl, .inl ⟨ivEq tX, rfl⟩⟩, ?_⟩)) (by repeat (first | exact trivial | refine ⟨ent_same rfl rfl rfl tL, ?_⟩ | refine ⟨ent_same rfl rfl (rfEq rfl tU) tL, ?_⟩ | refine ⟨ent_same rfl rfl (flEq rfl (by first | (simp; done) | (simp; omega) | (simp [encP, encPv, encAt, encSg, encTl, encW, encN, encY]; done) | simp [maxC, minC])) trivial, ?_⟩)) rfl (hK2)
      · have hb' : (decide (x.pe = n) && x.st) = false := hb
        rw [if_pos (by rw [hb']; decide)] at hs
        rw [if_neg (by rw [hb']; decide), List.append_nil] at hf
        have hK2 := hK1 (o ++ [x]) f hs.symm hf.symm
        unfold OPv at hK2
        rw [app1, app2] at hK2
        refine nK ?_
        refine s_reg rfl ?_
        refine Run.pure (dd := some 29) rfl rfl (op_move rfl (Opd.tmp _ _ rfl)) ?_
        refine Run.load (dd := some 30) rfl rfl (op_loadw_flat rfl (Opd.tmp _ _ rfl) tH rfl) ?_
        refine Run.pure (dd := some 31) rfl rfl (op_call_pure (fun _ => kx) rfl (Opd.func _) (Opds.cons _ _ _ _ (Opd.tmp _ _ rfl) Opds.nil)) ?_
        refine Run.pure (dd := some 32) rfl rfl (op_buildSlice_fz rfl (RowsF.cons _ _ _ _ _ _ (Opd.tmp _ _ rfl) tC (by rfl) (RowsF.nil _)) rfl rfl) ?_
        refine Run.eff (dd := some 33) rfl rfl (op_append rfl (Opd.tmp _ _ rfl) (Opd.tmp _ _ rfl) rfl (by simp) rfl rfl tB tB) ?_
        refine Run.pure (dd := some 6) rfl rfl (op_assign rfl (Opd.tmp _ _ rfl)) ?_
        refine Run.nil (FinR.mk ?_)
        refine nK ?_
        refine s_reg rfl ?_
        refine Run.pure (dd := some 34) rfl rfl (op_add rfl (Opd.tmp _ _ rfl) (Opd.const _) tI) ?_
        refine Run.pure (dd := some 12) rfl rfl (op_move rfl (Opd.tmp _ _ rfl)) ?_
        refine Run.nil (FinR.mk ?_)
        refine nK ?_
        refine Next.weakS [6, 7] [] (by rfl) (by first | exact keeps0 hC _ | exact keepsN hC _ rfl) (by repeat (first | exact trivial | refine ⟨⟨_, rfl, .inl ⟨rfl, rfl⟩⟩, ?_⟩ | refine ⟨⟨_, rfl, .inl ⟨slEq rfl tN, rfl⟩⟩, ?_⟩ | refine ⟨⟨_, rfl, .inl ⟨ivEq tX, rfl⟩⟩, ?_⟩)) (by repeat (first | exact trivial | refine ⟨ent_same rfl rfl rfl tL, ?_⟩ | refine ⟨ent_same rfl rfl (rfEq rfl tU) tL, ?_⟩ | refine ⟨ent_same rfl rfl (flEq rfl (by first | (simp; done) | (simp; omega) | (simp [encP, encPv, encAt, encSg, encTl, encW, encN, encY]; done) | simp [maxC, minC])) trivial, ?_⟩)) rfl (hK2)
    · have hie : i = l.length := by simp at hb; omega
      rw [hie, List.take_length] at hS hF
      rw [← hS, ← hF]
      refine nK ?_
      refine s_reg rfl ?_
      refine Run.pure (dd := some 35) rfl rfl (op_move rfl (Opd.tmp _ _ rfl)) ?_
      refine Run.pure (dd := some 36) rfl rfl (op_move rfl (Opd.tmp _ _ rfl)) ?_
      refine Run.pure (dd := some 4) rfl rfl (op_assign rfl (Opd.tmp _ _ rfl)) ?_
      refine Run.pure (dd := some 5) rfl rfl (op_assign rfl (Opd.tmp _ _ rfl)) ?_
      refine Run.nil (FinR.mk ?_)
      refine nK ?_
      refine Next.weakS [4] [5] (by rfl) (keeps0 hC _) (G' := [(4, .sl 0 22 0 o.length), (5, .fz (VP f))]) (H' := [(0, OPv o)]) (by repeat (first | exact trivial | refine ⟨⟨_, rfl, .inl ⟨rfl, rfl⟩⟩, ?_⟩ | refine ⟨⟨_, rfl, .inl ⟨slEq rfl tN, rfl⟩⟩, ?_⟩ | refine ⟨⟨_, rfl, .inl ⟨ivEq tX, rfl⟩⟩, ?_⟩ | refine ⟨⟨_, rfl, .inr ⟨_, rfl, tW⟩⟩, ?_⟩)) (by repeat (first | exact trivial | refine ⟨ent_same rfl rfl rfl tL, ?_⟩ | refine ⟨ent_same rfl rfl (rfEq rfl tU) tL, ?_⟩ | refine ⟨ent_same rfl rfl (flEq rfl (by first | (simp; done) | (simp; omega) | (simp [encP, encPv, encAt, encSg, encTl, encW, encN, encY]; done) | simp [maxC, minC])) trivial, ?_⟩)) rfl ?_
      exact n_out2 rfl (by rfl) (by rfl) (.inr rfl)
theorem rstale_c (l : List Pvr) (n : Int) (h : ∀ r ∈ l, okPv r) (hn : l.length ≤ 9000) : Pure Try.prog 24 [VPv l, If .i64 n] (.tup [VPv ((l.filter fun x => !(decide (x.pe = n) && x.st)).map (mkSt n)), VP ((l.filter fun x => decide (x.pe = n) && x.st).map (·.px))]) := by
  have kw := rsweep_m l n h hn
  have hl2 : (l.filter fun x => !(decide (x.pe = n) && x.st)).length ≤ l.length := List.length_filter_le _ _
  generalize (l.filter fun x => decide (x.pe = n) && x.st).map (·.px) = a at *
  generalize (l.filter fun x => !(decide (x.pe = n) && x.st)) = b at *
  refine Meets.intro Try.func24 rfl (Nat.le_of_ble_eq_true rfl) fun C hC => ?_
  simp only [List.map, argEnv, Nat.reduceAdd]
  refine nK ?_
  refine s_reg rfl ?_
  refine Run.pure (dd := some 4) rfl rfl (op_assign rfl (Opd.const _)) ?_
  refine Run.pure (dd := some 5) rfl rfl (op_assign rfl (Opd.const _)) ?_
  refine Run.nil (FinR.mk ?_)
  refine nK ?_
  refine s_reg rfl ?_
  refine Run.pure (dd := some 10) rfl rfl (op_move rfl (Opd.tmp _ _ rfl)) ?_
  refine Run.pure (dd := some 11) rfl rfl (op_move rfl (Opd.tmp _ _ rfl)) ?_
  refine Run.eff (dd := some 12) rfl rfl (op_call (n := 0) (n' := 1) [] (fun _ => kw) rfl (Opd.func _) (Opds.cons _ _ _ _ (Opd.tmp _ _ rfl) (Opds.cons _ _ _ _ (Opd.tmp _ _ rfl) Opds.nil)) rfl rfl (Lent.nil _) rfl rfl rfl rfl rfl) ?_
  refine Run.pure (dd := some 9) rfl rfl (op_move rfl (Opd.tmp _ _ rfl)) ?_
  refine Run.pure (dd := some 13) rfl rfl (op_extract rfl (Opd.tmp _ _ rfl) rfl) ?_
  refine Run.pure (dd := some 14) rfl rfl (op_extract rfl (Opd.tmp _ _ rfl) rfl) ?_
  refine Run.pure (dd := some 6) rfl rfl (op_assign rfl (Opd.tmp _ _ rfl)) ?_
  refine Run.pure (dd := some 7) rfl rfl (op_assign rfl (Opd.tmp _ _ rfl)) ?_
  refine Run.nil (FinR.mk ?_)
  refine nK ?_
  refine s_reg rfl ?_
  refine Run.pure (dd := some 15) rfl rfl (op_move rfl (Opd.tmp _ _ rfl)) ?_
  refine Run.pure (dd := some 16) rfl rfl (op_len_sl rfl (Opd.tmp _ _ rfl)) ?_
  refine Run.pure (dd := some 17) rfl rfl (op_move rfl (Opd.const _)) ?_
  refine Run.nil (FinR.mk ?_)
  refine nK ?_
  refine n_loop (ι := Nat) (fun i => ([(1, IV .i64 n), (6, .sl 0 22 0 b.length), (7, .fz (VP a)), (16, IV .i64 b.length), (17, IV .i64 i)], [(0, OPv (stG n i b))], 1)) (fun i => i ≤ b.length) (fun i => b.length - i) 0 (Nat.zero_le _) ?_ ?_
  · rw [stG_zero]
    refine Next.weakS [6] [] (by rfl) (by first | exact keeps0 hC _ | exact keepsN hC _ rfl) (by repeat (first | exact trivial | refine ⟨⟨_, rfl, .inl ⟨rfl, rfl⟩⟩, ?_⟩ | refine ⟨⟨_, rfl, .inl ⟨slEq rfl tN, rfl⟩⟩, ?_⟩ | refine ⟨⟨_, rfl, .inl ⟨ivEq tX, rfl⟩⟩, ?_⟩)) (by repeat (first | exact trivial | refine ⟨ent_same rfl rfl rfl tL, ?_⟩ | refine ⟨ent_same rfl rfl (rfEq rfl tU) tL, ?_⟩ | refine ⟨ent_same rfl rfl (flEq rfl (by first | (simp; done) | (simp; omega) | (simp [encP, encPv, encAt, encSg, encTl, encW, encN, encY]; done) | simp [maxC, minC])) trivial, ?_⟩)) rfl (rel_intro)
  · intro i hi K hK
    have hsl := stG_len n i b
    refine nK ?_
    refine s_reg rfl ?_
    refine Run.pure (dd := some 18) rfl rfl (op_lss rfl (Opd.tmp _ _ rfl) (Opd.tmp _ _ rfl)) ?_
    refine Run.nil (FinR.mk ?_)
    refine nK ?_
    refine n_cond _ rfl (fun hb => ?_) (fun hb => ?_)
    · have hlt : i < b.length := by simp at hb; omega
      have hr0 := row_at' encPv (stG n i b) i (by omega)
      rw [stG_at n hlt] at hr0
      have hK1 := hK (i + 1) (by omega) (by omega)
      have hst := stG_set n hlt
      have hsk := stG_skip n hlt
      generalize b[i] = x at *
      refine nK ?_
      refine s_reg rfl ?_
      refine Run.pure (dd := some 19) rfl rfl (op_move rfl (Opd.tmp _ _ rfl)) ?_
      refine Run.pure (dd := some 8) rfl rfl (op_assign rfl (Opd.tmp _ _ rfl)) ?_
      refine Run.nil (FinR.mk ?_)
      refine nK ?_
      refine s_reg rfl ?_
      refine Run.pure (dd := some 20) rfl rfl (op_move rfl (Opd.tmp _ _ rfl)) ?_
      refine Run.pure (dd := some 21) rfl rfl (op_move rfl (Opd.tmp _ _ rfl)) ?_
      refine Run.pure (dd := some 22) rfl rfl (op_idx_sl0 i rfl (Opd.tmp _ _ rfl) (Opd.tmp _ _ rfl) (by intro _; constructor <;> omega)) ?_
      refine Run.pure (dd := some 23) rfl rfl (op_fld_ptr (by decide) rfl (Opd.tmp _ _ rfl)) ?_
      refine Run.load (dd := some 24) rfl rfl (op_load1_flat rfl (Opd.tmp _ _ rfl) tH rfl) ?_
      refine Run.pure (dd := some 25) rfl rfl (op_move rfl (Opd.tmp _ _ rfl)) ?_
      refine Run.pure (dd := some 26) rfl rfl (op_eql rfl (Opd.tmp _ _ rfl) (Opd.tmp _ _ rfl)) ?_
      refine Run.nil (FinR.mk ?_)
      refine nK ?_
      refine n_cond _ rfl (fun hb => ?_) (fun hb => ?_)
      · have hx : x.pe = n := by simpa using hb
        have hset : ((stG n i b).map encPv).set i (encPv { x with st := true }) = (stG n (i + 1) b).map encPv := by
          rw [← hst, List.map_set]
          congr 2
          simp [mkSt, hx]
        unfold OPv at hK1
        rw [← hset] at hK1
        refine nK ?_
        refine s_reg rfl ?_
        refine Run.pure (dd := some 27) rfl rfl (op_move rfl (Opd.tmp _ _ rfl)) ?_
        refine Run.pure (dd := some 28) rfl rfl (op_move rfl (Opd.tmp _ _ rfl)) ?_
        refine Run.pure (dd := some 29) rfl rfl (op_idx_sl0 i rfl (Opd.tmp _ _ rfl) (Opd.tmp _ _ rfl) (by intro _; constructor <;> omega)) ?_
        refine Run.pure (dd := some 30) rfl rfl (op_fld_ptr (by decide) rfl (Opd.tmp _ _ rfl)) ?_
        refine Run.eff (dd := none) rfl rfl (op_store_flat rfl (Opd.tmp _ _ rfl) (Opd.const _) tC rfl rfl hr0 tS) ?_
        refine Run.nil (FinR.mk ?_)
        refine nK ?_
        refine s_reg rfl ?_
        refine Run.pure (dd := some 31) rfl rfl (op_add rfl (Opd.tmp _ _ rfl) (Opd.const _) tI) ?_
        refine Run.pure (dd := some 17) rfl rfl (op_move rfl (Opd.tmp _ _ rfl)) ?_
        refine Run.nil (FinR.mk ?_)
        refine nK ?_
        refine Next.weakS [6] [] (by rfl) (by first | exact keeps0 hC _ | exact keepsN hC _ rfl) (by repeat (first | exact trivial | refine ⟨⟨_, rfl, .inl ⟨rfl, rfl⟩⟩, ?_⟩ | refine ⟨⟨_, rfl, .inl ⟨slEq rfl tN, rfl⟩⟩, ?_⟩ | refine ⟨⟨_, rfl, .inl ⟨ivEq tX, rfl⟩⟩, ?_⟩)) (by repeat (first | exact trivial | refine ⟨ent_same rfl rfl rfl tL, ?_⟩ | refine ⟨ent_same rfl rfl (rfEq rfl tU) tL, ?_⟩ | refine ⟨ent_same rfl rfl (flEq rfl (by first | (simp; done) | (simp; omega) | (simp [encP, encPv, encAt, encSg, encTl, encW, encN, encY]; done) | simp [maxC, minC])) trivial, ?_⟩)) rfl (hK1)
      · have hx : x.pe ≠ n := by simpa using hb
        rw [hsk hx] at hK1
        refine nK ?_
        refine s_reg rfl ?_
        refine Run.pure (dd := some 31) rfl rfl (op_add rfl (Opd.tmp _ _ rfl) (Opd.const _) tI) ?_
        refine Run.pure (dd := some 17) rfl rfl (op_move rfl (Opd.tmp _ _ rfl)) ?_
        refine Run.nil (FinR.mk ?_)
        refine nK ?_
        refine Next.weakS [6] [] (by rfl) (by first | exact keeps0 hC _ | exact keepsN hC _ rfl) (by repeat (first | exact trivial | refine ⟨⟨_, rfl, .inl ⟨rfl, rfl⟩⟩, ?_⟩ | refine ⟨⟨_, rfl, .inl ⟨slEq rfl tN, rfl⟩⟩, ?_⟩ | refine ⟨⟨_, rfl, .inl ⟨ivEq tX, rfl⟩⟩, ?_⟩)) (by repeat (first | exact trivial | refine ⟨ent_same rfl rfl rfl tL, ?_⟩ | refine ⟨ent_same rfl rfl (rfEq rfl tU) tL, ?_⟩ | refine ⟨ent_same rfl rfl (flEq rfl (by first | (simp; done) | (simp; omega) | (simp [encP, encPv, encAt, encSg, encTl, encW, encN, encY]; done) | simp [maxC, minC])) trivial, ?_⟩)) rfl (hK1)
    · have hie : i = b.length := by simp at hb; omega
      rw [hie, stG_all]
      clear hK hsl
      have hml : (b.map (mkSt n)).length = b.length := List.length_map _
      generalize b.map (mkSt n) = c at *
      rw [← hml]
      refine nK ?_
      refine s_reg rfl ?_
      refine Run.pure (dd := some 32) rfl rfl (op_move rfl (Opd.tmp _ _ rfl)) ?_
      refine Run.pure (dd := some 33) rfl rfl (op_move rfl (Opd.tmp _ _ rfl)) ?_
      refine Run.pure (dd := some 4) rfl rfl (op_assign rfl (Opd.tmp _ _ rfl)) ?_
      refine Run.pure (dd := some 5) rfl rfl (op_assign rfl (Opd.tmp _ _ rfl)) ?_
      refine Run.nil (FinR.mk ?_)
      refine nK ?_
      refine Next.weakS [] [4] (by rfl) (keeps0 hC _) (G' := [(4, .fz (VPv c)), (5, .fz (VP a))]) (H' := []) (by repeat (first | exact trivial | refine ⟨⟨_, rfl, .inl ⟨rfl, rfl⟩⟩, ?_⟩ | refine ⟨⟨_, rfl, .inl ⟨slEq rfl tN, rfl⟩⟩, ?_⟩ | refine ⟨⟨_, rfl, .inl ⟨ivEq tX, rfl⟩⟩, ?_⟩ | refine ⟨⟨_, rfl, .inr ⟨_, rfl, tW⟩⟩, ?_⟩)) trivial rfl ?_
      (first | exact s_o1 hC rfl tV | exact s_o2 hC rfl tV tV | exact s_o3 hC rfl tV tV tV | exact s_o4 hC rfl tV tV tV tV | exact s_out0 hC rfl | exact s_outO hC rfl rfl rfl)
theorem rof_c (l : List Pvr) (p : Pfx) (h : ∀ r ∈ l, okPv r) (hn : l.length ≤ 9000) : Pure Try.prog 28 [VPv l, .agg (encP p)] (VPv (l.filter fun x => decide (x.px = p))) := by
  refine Meets.intro Try.func28 rfl (Nat.le_of_ble_eq_true rfl) fun C hC => ?_
  simp only [List.map, argEnv, Nat.reduceAdd]
  refine nK ?_
  refine s_reg rfl ?_
  refine Run.eff (dd := some 3) rfl rfl (op_box_flat rfl (Opd.tmp _ _ rfl) tC rfl) ?_
  refine Run.pure (dd := some 4) rfl rfl (op_assign rfl (Opd.const _)) ?_
  refine Run.nil (FinR.mk ?_)
  refine nK ?_
  refine s_reg rfl ?_
  refine Run.pure (dd := some 5) rfl rfl (op_assign rfl (Opd.const _)) ?_
  refine Run.nil (FinR.mk ?_)
  refine nK ?_
  refine Next.adopt 5 22 rfl ?_
  refine nK ?_
  refine s_reg rfl ?_
  refine Run.pure (dd := some 8) rfl rfl (op_move rfl (Opd.tmp _ _ rfl)) ?_
  refine Run.pure (dd := some 9) rfl rfl (op_len_fz rfl (by first | exact Opd.tmp _ _ rfl | exact Opd.nil _ _ (Opd.tmp _ _ rfl)) (by first | exact List.length_map _ | rfl)) ?_
  refine Run.pure (dd := some 10) rfl rfl (op_move rfl (Opd.const _)) ?_
  refine Run.nil (FinR.mk ?_)
  refine nK ?_
  refine n_loop (ι := Nat × List Pvr) (fun g => ([(3, .ptr 0 2 0 0), (5, .sl 1 22 0 g.2.length), (8, .fz (VPv l)), (9, IV .i64 l.length), (10, IV .i64 g.1)], [(0, some (.flat 2 [encP p])), (1, OPv g.2)], 2)) (fun g => g.1 ≤ l.length ∧ g.2 = (l.take g.1).filter fun x => decide (x.px = p)) (fun g => l.length - g.1) (0, []) ⟨Nat.zero_le _, by simp⟩ ?_ ?_
  · refine Next.weakS [3, 5] [] (by rfl) (by first | exact keeps0 hC _ | exact keepsN hC _ rfl) (by repeat (first | exact trivial | refine ⟨⟨_, rfl, .inl ⟨rfl, rfl⟩⟩, ?_⟩ | refine ⟨⟨_, rfl, .inl ⟨slEq rfl tN, rfl⟩⟩, ?_⟩ | refine ⟨⟨_, rfl, .inl ⟨ivEq tX, rfl⟩⟩, ?_⟩)) (by repeat (first | exact trivial | refine ⟨ent_same rfl rfl rfl tL, ?_⟩ | refine ⟨ent_same rfl rfl (rfEq rfl tU) tL, ?_⟩ | refine ⟨ent_same rfl rfl (flEq rfl (by first | (simp; done) | (simp; omega) | (simp [encP, encPv, encAt, encSg, encTl, encW, encN, encY]; done) | simp [maxC, minC])) trivial, ?_⟩)) rfl (rel_intro)
  · intro ⟨i, o⟩ ⟨hi, hS⟩ K hK
    dsimp only at hi hS ⊢
    have hol : o.length ≤ l.length := by rw [hS]; exact filtV_le _ _ _
    refine nK ?_
    refine s_reg rfl ?_
    refine Run.pure (dd := some 11) rfl rfl (op_lss rfl (Opd.tmp _ _ rfl) (Opd.tmp _ _ rfl)) ?_
    refine Run.nil (FinR.mk ?_)
    refine nK ?_
    refine n_cond _ rfl (fun hb => ?_) (fun hb => ?_)
    · have hlt : i < l.length := by simp at hb; omega
      have hr1 := row_at' encPv l i hlt
      have hs := filtV_take (fun x => decide (x.px = p)) hlt
      rw [← hS] at hs
      have hK1 := fun a h => hK (i + 1, a) ⟨by dsimp only; omega, h⟩ (by dsimp only; omega)
      dsimp only at hK1
      have ox := h _ (List.getElem_mem hlt)
      generalize l[i] = x at *
      have kx := rclone_c x ox
      have hc : (decide (x.px = p)) = eqFs (encP x.px) (encP p) := by rw [eqFs_encP]
      refine nK ?_
      refine s_reg rfl ?_
      refine Run.pure (dd := some 12) rfl rfl (op_idx_fz _ rfl (Opd.tmp _ _ rfl) (Opd.tmp _ _ rfl) tF) ?_
      refine Run.pure (dd := some 13) rfl rfl (op_loadw_fz rfl (Opd.tmp _ _ rfl) rfl) ?_
      refine Run.eff (dd := some 7) rfl rfl (op_alloc rfl rfl rfl rfl) ?_
      refine Run.eff (dd := none) rfl rfl (op_store_flat rfl (Opd.tmp _ _ rfl) (Opd.tmp _ _ rfl) tC rfl rfl (by first | rfl | assumption) tS) ?_
      refine Run.nil (FinR.mk ?_)
      refine nK ?_
      refine s_reg rfl ?_
      refine Run.pure (dd := some 14) rfl rfl (op_fld_ptr (by decide) rfl (Opd.tmp _ _ rfl)) ?_
      refine Run.load (dd := some 15) rfl rfl (op_loadn_flat rfl (Opd.tmp _ _ rfl) tH tR tR) ?_
      refine Run.load (dd := some 16) rfl rfl (op_loadw_flat rfl (Opd.tmp _ _ rfl) tH rfl) ?_
      refine Run.pure (dd := some 17) rfl rfl (op_eqS rfl (Opd.tmp _ _ rfl) (Opd.tmp _ _ rfl) (by kernel_rfl)) ?_
      refine Run.nil (FinR.mk ?_)
      refine nK ?_
      refine n_cond _ rfl (fun hb => ?_) (fun hb => ?_)
      · have hb' : (decide (x.px = p)) = true := hc.trans hb
        rw [if_pos hb'] at hs
        have hK2 := hK1 (o ++ [x]) hs.symm
        unfold OPv at hK2
        rw [app1, app2] at hK2
        refine nK ?_
        refine s_reg rfl ?_
        refine Run.pure (dd := some 18) rfl rfl (op_move rfl (Opd.tmp _ _ rfl)) ?_
        refine Run.load (dd := some 19) rfl rfl (op_loadw_flat rfl (Opd.tmp _ _ rfl) tH rfl) ?_
        refine Run.pure (dd := some 20) rfl rfl (op_call_pure (fun _ => kx) rfl (Opd.func _) (Opds.cons _ _ _ _ (Opd.tmp _ _ rfl) Opds.nil)) ?_
        refine Run.pure (dd := some 21) rfl rfl (op_buildSlice_fz rfl (RowsF.cons _ _ _ _ _ _ (Opd.tmp _ _ rfl) tC (by rfl) (RowsF.nil _)) rfl rfl) ?_
        refine Run.eff (dd := some 22) rfl rfl (op_append rfl (Opd.tmp _ _ rfl) (Opd.tmp _ _ rfl) rfl (by simp) rfl rfl tB tB) ?_
        refine Run.pure (dd := some 5) rfl rfl (op_assign rfl (Opd.tmp _ _ rfl)) ?_
        refine Run.nil (FinR.mk ?_)
        refine nK ?_
        refine s_reg rfl ?_
        refine Run.pure (dd := some 23) rfl rfl (op_add rfl (Opd.tmp _ _ rfl) (Opd.const _) tI) ?_
        refine Run.pure (dd := some 10) rfl rfl (op_move rfl (Opd.tmp _ _ rfl)) ?_
        refine Run.nil (FinR.mk ?_)
        refine nK ?_
        refine Next.weakS [3, 5] [] (by rfl) (by first | exact keeps0 hC _ | exact keepsN hC _ rfl) (by repeat (first | exact trivial | refine ⟨⟨_, rfl, .inl ⟨rfl, rfl⟩⟩, ?_⟩ | refine ⟨⟨_, rfl, .inl ⟨slEq rfl tN, rfl⟩⟩, ?_⟩ | refine ⟨⟨_, rfl, .inl ⟨ivEq tX, rfl⟩⟩, ?_⟩)) (by repeat (first | exact trivial | refine ⟨ent_same rfl rfl rfl tL, ?_⟩ | refine ⟨ent_same rfl rfl (rfEq rfl tU) tL, ?_⟩ | refine ⟨ent_same rfl rfl (flEq rfl (by first | (simp; done) | (simp; omega) | (simp [encP, encPv, encAt, encSg, encTl, encW, encN, encY]; done) | simp [maxC, minC])) trivial, ?_⟩)) rfl (hK2)
      · have hb' : (decide (x.px = p)) = false := hc.trans hb
        rw [if_neg (by rw [hb']; decide), List.append_nil] at hs
        refine nK ?_
        refine s_reg rfl ?_
        refine Run.pure (dd := some 23) rfl rfl (op_add rfl (Opd.tmp _ _ rfl) (Opd.const _) tI) ?_
        refine Run.pure (dd := some 10) rfl rfl (op_move rfl (Opd.tmp _ _ rfl)) ?_
        refine Run.nil (FinR.mk ?_)
        refine nK ?_
        refine Next.weakS [3, 5] [] (by rfl) (by first | exact keeps0 hC _ | exact keepsN hC _ rfl) (by repeat (first | exact trivial | refine ⟨⟨_, rfl, .inl ⟨rfl, rfl⟩⟩, ?_⟩ | refine ⟨⟨_, rfl, .inl ⟨slEq rfl tN, rfl⟩⟩, ?_⟩ | refine ⟨⟨_, rfl, .inl ⟨ivEq tX, rfl⟩⟩, ?_⟩)) (by repeat (first | exact trivial | refine ⟨ent_same rfl rfl rfl tL, ?_⟩ | refine ⟨ent_same rfl rfl (rfEq rfl tU) tL, ?_⟩ | refine ⟨ent_same rfl rfl (flEq rfl (by first | (simp; done) | (simp; omega) | (simp [encP, encPv, encAt, encSg, encTl, encW, encN, encY]; done) | simp [maxC, minC])) trivial, ?_⟩)) rfl ((hK1 o hs.symm))
    · have hie : i = l.length := by simp at hb; omega
      rw [hie, List.take_length] at hS
      rw [← hS]
      refine nK ?_
      refine s_reg rfl ?_
      refine Run.pure (dd := some 24) rfl rfl (op_move rfl (Opd.tmp _ _ rfl)) ?_
      refine Run.pure (dd := some 4) rfl rfl (op_assign rfl (Opd.tmp _ _ rfl)) ?_
      refine Run.nil (FinR.mk ?_)
      refine nK ?_
      refine Next.weakS [] [4] (by rfl) (keeps0 hC _) (G' := [(4, .fz (VPv o))]) (H' := []) (by repeat (first | exact trivial | refine ⟨⟨_, rfl, .inl ⟨rfl, rfl⟩⟩, ?_⟩ | refine ⟨⟨_, rfl, .inl ⟨slEq rfl tN, rfl⟩⟩, ?_⟩ | refine ⟨⟨_, rfl, .inl ⟨ivEq tX, rfl⟩⟩, ?_⟩ | refine ⟨⟨_, rfl, .inr ⟨_, rfl, tW⟩⟩, ?_⟩)) trivial rfl ?_
      (first | exact s_o1 hC rfl tV | exact s_o2 hC rfl tV tV | exact s_o3 hC rfl tV tV tV | exact s_o4 hC rfl tV tV tV tV | exact s_out0 hC rfl | exact s_outO hC rfl rfl rfl)
theorem oth_c (l : List Pvr) (n : Int) (h : ∀ r ∈ l, okPv r) (hn : l.length ≤ 9000) : Pure Try.prog 31 [VPv l, If .i64 n] (VPv (l.filter fun x => decide (x.pe ≠ n))) := by
  refine Meets.intro Try.func31 rfl (Nat.le_of_ble_eq_true rfl) fun C hC => ?_
  simp only [List.map, argEnv, Nat.reduceAdd]
  refine nK ?_
  refine s_reg rfl ?_
  refine Run.pure (dd := some 4) rfl rfl (op_assign rfl (Opd.const _)) ?_
  refine Run.nil (FinR.mk ?_)
  refine nK ?_
  refine s_reg rfl ?_
  refine Run.pure (dd := some 5) rfl rfl (op_assign rfl (Opd.const _)) ?_
  refine Run.nil (FinR.mk ?_)
  refine nK ?_
  refine Next.adopt 5 22 rfl ?_
  refine nK ?_
  refine s_reg rfl ?_
  refine Run.pure (dd := some 8) rfl rfl (op_move rfl (Opd.tmp _ _ rfl)) ?_
  refine Run.pure (dd := some 9) rfl rfl (op_len_fz rfl (by first | exact Opd.tmp _ _ rfl | exact Opd.nil _ _ (Opd.tmp _ _ rfl)) (by first | exact List.length_map _ | rfl)) ?_
  refine Run.pure (dd := some 10) rfl rfl (op_move rfl (Opd.const _)) ?_
  refine Run.nil (FinR.mk ?_)
  refine nK ?_
  refine n_loop (ι := Nat × List Pvr) (fun g => ([(1, IV .i64 n), (5, .sl 0 22 0 g.2.length), (8, .fz (VPv l)), (9, IV .i64 l.length), (10, IV .i64 g.1)], [(0, OPv g.2)], 1)) (fun g => g.1 ≤ l.length ∧ g.2 = (l.take g.1).filter fun x => decide (x.pe ≠ n)) (fun g => l.length - g.1) (0, []) ⟨Nat.zero_le _, by simp⟩ ?_ ?_
  · refine Next.weakS [5] [] (by rfl) (by first | exact keeps0 hC _ | exact keepsN hC _ rfl) (by repeat (first | exact trivial | refine ⟨⟨_, rfl, .inl ⟨rfl, rfl⟩⟩, ?_⟩ | refine ⟨⟨_, rfl, .inl ⟨slEq rfl tN, rfl⟩⟩, ?_⟩ | refine ⟨⟨_, rfl, .inl ⟨ivEq tX, rfl⟩⟩, ?_⟩)) (by repeat (first | exact trivial | refine ⟨ent_same rfl rfl rfl tL, ?_⟩ | refine ⟨ent_same rfl rfl (rfEq rfl tU) tL, ?_⟩ | refine ⟨ent_same rfl rfl (flEq rfl (by first | (simp; done) | (simp; omega) | (simp [encP, encPv, encAt, encSg, encTl, encW, encN, encY]; done) | simp [maxC, minC])) trivial, ?_⟩)) rfl (rel_intro)
  · intro ⟨i, o⟩ ⟨hi, hS⟩ K hK
    dsimp only at hi hS ⊢
    have hol : o.length ≤ l.length := by rw [hS]; exact filtV_le _ _ _
    refine nK ?_
    refine s_reg rfl ?_
    refine Run.pure (dd := some 11) rfl rfl (op_lss rfl (Opd.tmp _ _ rfl) (Opd.tmp _ _ rfl)) ?_
    refine Run.nil (FinR.mk ?_)
    refine nK ?_
    refine n_cond _ rfl (fun hb => ?_) (fun hb => ?_)
    · have hlt : i < l.length := by simp at hb; omega
      have hr1 := row_at' encPv l i hlt
      have hs := filtV_take (fun x => decide (x.pe ≠ n)) hlt
      rw [← hS] at hs
      have hK1 := fun a h => hK (i + 1, a) ⟨by dsimp only; omega, h⟩ (by dsimp only; omega)
      dsimp only at hK1
      have ox := h _ (List.getElem_mem hlt)
      generalize l[i] = x at *
      have kx := rclone_c x ox
      refine nK ?_
      refine s_reg rfl ?_
      refine Run.pure (dd := some 12) rfl rfl (op_idx_fz _ rfl (Opd.tmp _ _ rfl) (Opd.tmp _ _ rfl) tF) ?_
      refine Run.pure (dd := some 13) rfl rfl (op_loadw_fz rfl (Opd.tmp _ _ rfl) rfl) ?_
      refine Run.eff (dd := some 7) rfl rfl (op_alloc rfl rfl rfl rfl) ?_
      refine Run.eff (dd := none) rfl rfl (op_store_flat rfl (Opd.tmp _ _ rfl) (Opd.tmp _ _ rfl) tC rfl rfl (by first | rfl | assumption) tS) ?_
      refine Run.nil (FinR.mk ?_)
      refine nK ?_
      refine s_reg rfl ?_
      refine Run.pure (dd := some 14) rfl rfl (op_fld_ptr (by decide) rfl (Opd.tmp _ _ rfl)) ?_
      refine Run.load (dd := some 15) rfl rfl (op_load1_flat rfl (Opd.tmp _ _ rfl) tH rfl) ?_
      refine Run.pure (dd := some 16) rfl rfl (op_move rfl (Opd.tmp _ _ rfl)) ?_
      refine Run.pure (dd := some 17) rfl rfl (op_neq rfl (Opd.tmp _ _ rfl) (Opd.tmp _ _ rfl)) ?_
      refine Run.nil (FinR.mk ?_)
      refine nK ?_
      refine n_cond _ rfl (fun hb => ?_) (fun hb => ?_)
      · have hb' : (decide (x.pe ≠ n)) = true := hb
        rw [if_pos hb'] at hs
        have hK2 := hK1 (o ++ [x]) hs.symm
        unfold OPv at hK2
        rw [app1, app2] at hK2
        refine nK ?_
        refine s_reg rfl ?_
        refine Run.pure (dd := some 18) rfl rfl (op_move rfl (Opd.tmp _ _ rfl)) ?_
        refine Run.load (dd := some 19) rfl rfl (op_loadw_flat rfl (Opd.tmp _ _ rfl) tH rfl) ?_
        refine Run.pure (dd := some 20) rfl rfl (op_buildSlice_fz rfl (RowsF.cons _ _ _ _ _ _ (Opd.tmp _ _ rfl) tC (by rfl) (RowsF.nil _)) rfl rfl) ?_
        refine Run.eff (dd := some 21) rfl rfl (op_append rfl (Opd.tmp _ _ rfl) (Opd.tmp _ _ rfl) rfl (by simp) rfl rfl tB tB) ?_
        refine Run.pure (dd := some 5) rfl rfl (op_assign rfl (Opd.tmp _ _ rfl)) ?_
        refine Run.nil (FinR.mk ?_)
        refine nK ?_
        refine s_reg rfl ?_
        refine Run.pure (dd := some 22) rfl rfl (op_add rfl (Opd.tmp _ _ rfl) (Opd.const _) tI) ?_
        refine Run.pure (dd := some 10) rfl rfl (op_move rfl (Opd.tmp _ _ rfl)) ?_
        refine Run.nil (FinR.mk ?_)
        refine nK ?_
        refine Next.weakS [5] [] (by rfl) (by first | exact keeps0 hC _ | exact keepsN hC _ rfl) (by repeat (first | exact trivial | refine ⟨⟨_, rfl, .inl ⟨rfl, rfl⟩⟩, ?_⟩ | refine ⟨⟨_, rfl, .inl ⟨slEq rfl tN, rfl⟩⟩, ?_⟩ | refine ⟨⟨_, rfl, .inl ⟨ivEq tX, rfl⟩⟩, ?_⟩)) (by repeat (first | exact trivial | refine ⟨ent_same rfl rfl rfl tL, ?_⟩ | refine ⟨ent_same rfl rfl (rfEq rfl tU) tL, ?_⟩ | refine ⟨ent_same rfl rfl (flEq rfl (by first | (simp; done) | (simp; omega) | (simp [encP, encPv, encAt, encSg, encTl, encW, encN, encY]; done) | simp [maxC, minC])) trivial, ?_⟩)) rfl (hK2)
      · have hb' : (decide (x.pe ≠ n)) = false := hb
        rw [if_neg (by rw [hb']; decide), List.append_nil] at hs
        refine nK ?_
        refine s_reg rfl ?_
        refine Run.pure (dd := some 22) rfl rfl (op_add rfl (Opd.tmp _ _ rfl) (Opd.const _) tI) ?_
        refine Run.pure (dd := some 10) rfl rfl (op_move rfl (Opd.tmp _ _ rfl)) ?_
        refine Run.nil (FinR.mk ?_)
        refine nK ?_
        refine Next.weakS [5] [] (by rfl) (by first | exact keeps0 hC _ | exact keepsN hC _ rfl) (by repeat (first | exact trivial | refine ⟨⟨_, rfl, .inl ⟨rfl, rfl⟩⟩, ?_⟩ | refine ⟨⟨_, rfl, .inl ⟨slEq rfl tN, rfl⟩⟩, ?_⟩ | refine ⟨⟨_, rfl, .inl ⟨ivEq tX, rfl⟩⟩, ?_⟩)) (by repeat (first | exact trivial | refine ⟨ent_same rfl rfl rfl tL, ?_⟩ | refine ⟨ent_same rfl rfl (rfEq rfl tU) tL, ?_⟩ | refine ⟨ent_same rfl rfl (flEq rfl (by first | (simp; done) | (simp; omega) | (simp [encP, encPv, encAt, encSg, encTl, encW, encN, encY]; done) | simp [maxC, minC])) trivial, ?_⟩)) rfl ((hK1 o hs.symm))
    · have hie : i = l.length := by simp at hb; omega
      rw [hie, List.take_length] at hS
      rw [← hS]
      refine nK ?_
      refine s_reg rfl ?_
      refine Run.pure (dd := some 23) rfl rfl (op_move rfl (Opd.tmp _ _ rfl)) ?_
      refine Run.pure (dd := some 4) rfl rfl (op_assign rfl (Opd.tmp _ _ rfl)) ?_
      refine Run.nil (FinR.mk ?_)
      refine nK ?_
      refine Next.weakS [] [4] (by rfl) (keeps0 hC _) (G' := [(4, .fz (VPv o))]) (H' := []) (by repeat (first | exact trivial | refine ⟨⟨_, rfl, .inl ⟨rfl, rfl⟩⟩, ?_⟩ | refine ⟨⟨_, rfl, .inl ⟨slEq rfl tN, rfl⟩⟩, ?_⟩ | refine ⟨⟨_, rfl, .inl ⟨ivEq tX, rfl⟩⟩, ?_⟩ | refine ⟨⟨_, rfl, .inr ⟨_, rfl, tW⟩⟩, ?_⟩)) trivial rfl ?_
      (first | exact s_o1 hC rfl tV | exact s_o2 hC rfl tV tV | exact s_o3 hC rfl tV tV tV | exact s_o4 hC rfl tV tV tV tV | exact s_out0 hC rfl | exact s_outO hC rfl rfl rfl)
theorem rprefixes_c (l : List Pvr) (hn : l.length ≤ 9000) : Pure Try.prog 30 [VPv l] (VP (rprF l)) := by
  refine Meets.intro Try.func30 rfl (Nat.le_of_ble_eq_true rfl) fun C hC => ?_
  simp only [List.map, argEnv, Nat.reduceAdd]
  refine nK ?_
  refine s_reg rfl ?_
  refine Run.pure (dd := some 2) rfl rfl (op_assign rfl (Opd.const _)) ?_
  refine Run.nil (FinR.mk ?_)
  refine nK ?_
  refine s_reg rfl ?_
  refine Run.pure (dd := some 3) rfl rfl (op_assign rfl (Opd.const _)) ?_
  refine Run.nil (FinR.mk ?_)
  refine nK ?_
  refine Next.adopt 3 2 rfl ?_
  refine nK ?_
  refine s_reg rfl ?_
  refine Run.pure (dd := some 6) rfl rfl (op_move rfl (Opd.tmp _ _ rfl)) ?_
  refine Run.pure (dd := some 7) rfl rfl (op_len_fz rfl (by first | exact Opd.tmp _ _ rfl | exact Opd.nil _ _ (Opd.tmp _ _ rfl)) (by first | exact List.length_map _ | rfl)) ?_
  refine Run.pure (dd := some 8) rfl rfl (op_move rfl (Opd.const _)) ?_
  refine Run.nil (FinR.mk ?_)
  refine nK ?_
  refine n_loop (ι := Nat) (fun i => ([(3, .sl 0 2 0 (rprF (l.take i)).length), (6, .fz (VPv l)), (7, IV .i64 l.length), (8, IV .i64 i)], [(0, OPf (rprF (l.take i)))], 1)) (fun i => i ≤ l.length) (fun i => l.length - i) 0 (Nat.zero_le _) ?_ ?_
  · refine Next.weakS [3] [] (by rfl) (by first | exact keeps0 hC _ | exact keepsN hC _ rfl) (by repeat (first | exact trivial | refine ⟨⟨_, rfl, .inl ⟨rfl, rfl⟩⟩, ?_⟩ | refine ⟨⟨_, rfl, .inl ⟨slEq rfl tN, rfl⟩⟩, ?_⟩ | refine ⟨⟨_, rfl, .inl ⟨ivEq tX, rfl⟩⟩, ?_⟩)) (by repeat (first | exact trivial | refine ⟨ent_same rfl rfl rfl tL, ?_⟩ | refine ⟨ent_same rfl rfl (rfEq rfl tU) tL, ?_⟩ | refine ⟨ent_same rfl rfl (flEq rfl (by first | (simp; done) | (simp; omega) | (simp [encP, encPv, encAt, encSg, encTl, encW, encN, encY]; done) | simp [maxC, minC])) trivial, ?_⟩)) rfl (rel_intro)
  · intro i hi K hK
    have hol := rprF_le l i hi
    refine nK ?_
    refine s_reg rfl ?_
    refine Run.pure (dd := some 9) rfl rfl (op_lss rfl (Opd.tmp _ _ rfl) (Opd.tmp _ _ rfl)) ?_
    refine Run.nil (FinR.mk ?_)
    refine nK ?_
    refine n_cond _ rfl (fun hb => ?_) (fun hb => ?_)
    · have hlt : i < l.length := by simp at hb; omega
      have hr1 := row_at' encPv l i hlt
      have hK1 := hK (i + 1) (by omega) (by omega)
      rw [rprF_take hlt] at hK1
      generalize rprF (l.take i) = o at *
      generalize l[i] = x at *
      obtain ⟨q, hq1, hq2⟩ := last_row o
      have hc := last_cond (p := x.px) hq1
      refine nK ?_
      refine s_reg rfl ?_
      refine Run.pure (dd := some 10) rfl rfl (op_idx_fz _ rfl (Opd.tmp _ _ rfl) (Opd.tmp _ _ rfl) tF) ?_
      refine Run.pure (dd := some 11) rfl rfl (op_loadw_fz rfl (Opd.tmp _ _ rfl) rfl) ?_
      refine Run.eff (dd := some 5) rfl rfl (op_alloc rfl rfl rfl rfl) ?_
      refine Run.eff (dd := none) rfl rfl (op_store_flat rfl (Opd.tmp _ _ rfl) (Opd.tmp _ _ rfl) tC rfl rfl (by first | rfl | assumption) tS) ?_
      refine Run.nil (FinR.mk ?_)
      refine nK ?_
      refine s_draw mixed ?_
      refine Run.pure (dd := some 12) rfl rfl (op_move rfl (Opd.tmp _ _ rfl)) ?_
      refine Run.pure (dd := some 13) rfl rfl (op_len_sl rfl (Opd.tmp _ _ rfl)) ?_
      refine Run.pure (dd := some 14) rfl rfl (op_eql rfl (Opd.tmp _ _ rfl) (Opd.const _)) ?_
      refine Run.pure (dd := some 15) rfl rfl (op_move rfl (Opd.tmp _ _ rfl)) ?_
      refine Run.pureG (dd := some 16) rfl rfl rfl tG (op_move rfl (Opd.tmp _ _ rfl)) ?_
      refine Run.pureG (dd := some 17) rfl rfl rfl tG (op_move rfl (Opd.tmp _ _ rfl)) ?_
      refine Run.pureG (dd := some 18) rfl rfl rfl tG (op_len_sl rfl (Opd.topt _ _ _ rfl tO)) ?_
      refine Run.pureG (dd := some 19) rfl rfl rfl tG (op_sub rfl (Opd.topt _ _ _ rfl tO) (Opd.const _) tI) ?_
      refine Run.pureG (dd := some 20) rfl rfl rfl tG (op_idx_sl0 (o.length - 1) rfl (Opd.topt _ _ _ rfl tO) (Opd.topt _ _ _ rfl tO) (by intro hg; have h0 : ¬ ((o.length : Int) = 0) := (by simpa using hg); constructor <;> omega)) ?_
      refine Run.loadG (dd := some 21) rfl rfl rfl tG (op_loadw_flat (r := encP q) rfl (Opd.topt _ _ _ rfl tO) (by intro hg; have h0 : ¬ ((o.length : Int) = 0) := (by simpa using hg); exact ⟨rfl, hq2 (by omega)⟩) rfl) ?_
      refine Run.pureG (dd := some 22) rfl rfl rfl tG (op_fld_ptr (by decide) rfl (Opd.tmp _ _ rfl)) ?_
      refine Run.loadG (dd := some 23) rfl rfl rfl tG (op_loadn_flat rfl (Opd.topt _ _ _ rfl tO) tH tR tR) ?_
      refine Run.pureG (dd := some 24) rfl rfl rfl tG (op_neS rfl (Opd.topt _ _ _ rfl tO) (Opd.topt _ _ _ rfl tO) (by kernel_rfl)) ?_
      refine Run.pure (dd := some 25) rfl rfl (op_pick_or rfl (Opd.tmp _ _ rfl) (Opd.topt _ _ _ rfl tO)) ?_
      refine Run.nil (FinD.mk (by kernel_rfl) ?_)
      refine nK ?_
      refine n_cond _ rfl (fun hb => ?_) (fun hb => ?_)
      · have hb' : (decide ((o.length : Int) = 0) || !eqFs (encP q) (encP x.px)) = true := hb
        rw [eqFs_encP] at hb'
        rw [if_neg (by rw [hc, hb']; decide)] at hK1
        unfold OPf at hK1
        rw [app1, app2] at hK1
        refine nK ?_
        refine s_reg rfl ?_
        refine Run.pure (dd := some 26) rfl rfl (op_move rfl (Opd.tmp _ _ rfl)) ?_
        refine Run.pure (dd := some 27) rfl rfl (op_fld_ptr (by decide) rfl (Opd.tmp _ _ rfl)) ?_
        refine Run.load (dd := some 28) rfl rfl (op_loadn_flat rfl (Opd.tmp _ _ rfl) tH tR tR) ?_
        refine Run.pure (dd := some 29) rfl rfl (op_buildSlice_fz rfl (RowsF.cons _ _ _ _ _ _ (Opd.tmp _ _ rfl) tC (by rfl) (RowsF.nil _)) rfl rfl) ?_
        refine Run.eff (dd := some 30) rfl rfl (op_append rfl (Opd.tmp _ _ rfl) (Opd.tmp _ _ rfl) rfl (by simp) rfl rfl tB tB) ?_
        refine Run.pure (dd := some 3) rfl rfl (op_assign rfl (Opd.tmp _ _ rfl)) ?_
        refine Run.nil (FinR.mk ?_)
        refine nK ?_
        refine s_reg rfl ?_
        refine Run.pure (dd := some 31) rfl rfl (op_add rfl (Opd.tmp _ _ rfl) (Opd.const _) tI) ?_
        refine Run.pure (dd := some 8) rfl rfl (op_move rfl (Opd.tmp _ _ rfl)) ?_
        refine Run.nil (FinR.mk ?_)
        refine nK ?_
        refine Next.weakS [3] [] (by rfl) (by first | exact keeps0 hC _ | exact keepsN hC _ rfl) (by repeat (first | exact trivial | refine ⟨⟨_, rfl, .inl ⟨rfl, rfl⟩⟩, ?_⟩ | refine ⟨⟨_, rfl, .inl ⟨slEq rfl tN, rfl⟩⟩, ?_⟩ | refine ⟨⟨_, rfl, .inl ⟨ivEq tX, rfl⟩⟩, ?_⟩)) (by repeat (first | exact trivial | refine ⟨ent_same rfl rfl rfl tL, ?_⟩ | refine ⟨ent_same rfl rfl (rfEq rfl tU) tL, ?_⟩ | refine ⟨ent_same rfl rfl (flEq rfl (by first | (simp; done) | (simp; omega) | (simp [encP, encPv, encAt, encSg, encTl, encW, encN, encY]; done) | simp [maxC, minC])) trivial, ?_⟩)) rfl (hK1)
      · have hb' : (decide ((o.length : Int) = 0) || !eqFs (encP q) (encP x.px)) = false := hb
        rw [eqFs_encP] at hb'
        rw [if_pos (hc.2 hb')] at hK1
        refine nK ?_
        refine s_reg rfl ?_
        refine Run.pure (dd := some 31) rfl rfl (op_add rfl (Opd.tmp _ _ rfl) (Opd.const _) tI) ?_
        refine Run.pure (dd := some 8) rfl rfl (op_move rfl (Opd.tmp _ _ rfl)) ?_
        refine Run.nil (FinR.mk ?_)
        refine nK ?_
        refine Next.weakS [3] [] (by rfl) (by first | exact keeps0 hC _ | exact keepsN hC _ rfl) (by repeat (first | exact trivial | refine ⟨⟨_, rfl, .inl ⟨rfl, rfl⟩⟩, ?_⟩ | refine ⟨⟨_, rfl, .inl ⟨slEq rfl tN, rfl⟩⟩, ?_⟩ | refine ⟨⟨_, rfl, .inl ⟨ivEq tX, rfl⟩⟩, ?_⟩)) (by repeat (first | exact trivial | refine ⟨ent_same rfl rfl rfl tL, ?_⟩ | refine ⟨ent_same rfl rfl (rfEq rfl tU) tL, ?_⟩ | refine ⟨ent_same rfl rfl (flEq rfl (by first | (simp; done) | (simp; omega) | (simp [encP, encPv, encAt, encSg, encTl, encW, encN, encY]; done) | simp [maxC, minC])) trivial, ?_⟩)) rfl (hK1)
    · have hie : i = l.length := by simp at hb; omega
      rw [hie, List.take_length]
      generalize rprF l = c at *
      refine nK ?_
      refine s_reg rfl ?_
      refine Run.pure (dd := some 32) rfl rfl (op_move rfl (Opd.tmp _ _ rfl)) ?_
      refine Run.pure (dd := some 2) rfl rfl (op_assign rfl (Opd.tmp _ _ rfl)) ?_
      refine Run.nil (FinR.mk ?_)
      refine nK ?_
      refine Next.weakS [] [2] (by rfl) (keeps0 hC _) (G' := [(2, .fz (VP c))]) (H' := []) (by repeat (first | exact trivial | refine ⟨⟨_, rfl, .inl ⟨rfl, rfl⟩⟩, ?_⟩ | refine ⟨⟨_, rfl, .inl ⟨slEq rfl tN, rfl⟩⟩, ?_⟩ | refine ⟨⟨_, rfl, .inl ⟨ivEq tX, rfl⟩⟩, ?_⟩ | refine ⟨⟨_, rfl, .inr ⟨_, rfl, tW⟩⟩, ?_⟩)) trivial rfl ?_
      (first | exact s_o1 hC rfl tV | exact s_o2 hC rfl tV tV | exact s_o3 hC rfl tV tV tV | exact s_o4 hC rfl tV tV tV tV | exact s_out0 hC rfl | exact s_outO hC rfl rfl rfl)
open Go Go.RT Go.Proofs Go.Pl
set_option maxRecDepth 20000
abbrev ORec (rc : Loop) : Option Ob := some (.raw (.loop rc))
abbrev OutB (o : List Pvr) : Option Ob := some (.refs 1 [[.own 22 (o.map encPv)]])
theorem all_c (l : List Pvr) (gf : Nat) (caps : List FV) : Pure Try.prog 39 [VPv l, .clo gf caps] (.clo 62 [.cellp [VPv l], .cellp [.clo gf caps]]) := by
  refine Meets.intro Try.func39 rfl (Nat.le_of_ble_eq_true rfl) fun C hC => ?_
  simp only [List.map, argEnv, Nat.reduceAdd]
  refine nK ?_
  refine s_reg rfl ?_
  refine Run.eff (dd := some 2) rfl rfl (op_box_flat rfl (Opd.tmp _ _ rfl) tC rfl) ?_
  refine Run.eff (dd := some 3) rfl rfl (op_box_flat rfl (Opd.tmp _ _ rfl) tC rfl) ?_
  refine Run.pure (dd := some 4) rfl rfl (op_assign rfl (Opd.const _)) ?_
  refine Run.nil (FinR.mk ?_)
  refine nK ?_
  refine Next.weakS [] [2, 3] (by rfl) (keeps0 hC _) (G' := [(2, .fz (.cellp [VPv l])), (3, .fz (.cellp [.clo gf caps]))]) (H' := []) (by repeat (first | exact trivial | refine ⟨⟨_, rfl, .inl ⟨rfl, rfl⟩⟩, ?_⟩ | refine ⟨⟨_, rfl, .inl ⟨slEq rfl tN, rfl⟩⟩, ?_⟩ | refine ⟨⟨_, rfl, .inl ⟨ivEq tX, rfl⟩⟩, ?_⟩ | refine ⟨⟨_, rfl, .inr ⟨_, rfl, tW⟩⟩, ?_⟩)) trivial rfl ?_
  refine nK ?_
  refine s_reg rfl ?_
  refine Run.pure (dd := some 5) rfl rfl (op_makeFuncF (fs := [.cellp [VPv l], .cellp [.clo gf caps]]) rfl (Opds.cons _ _ _ _ (Opd.tmp _ _ rfl) (Opds.cons _ _ _ _ (Opd.tmp _ _ rfl) Opds.nil))) ?_
  refine Run.pure (dd := some 4) rfl rfl (op_assign rfl (Opd.tmp _ _ rfl)) ?_
  refine Run.nil (FinR.mk ?_)
  refine nK ?_
  (first | exact s_o1 hC rfl tV | exact s_o2 hC rfl tV tV | exact s_o3 hC rfl tV tV tV | exact s_o4 hC rfl tV tV tV tV | exact s_out0 hC rfl | exact s_outO hC rfl rfl rfl)
/-- what a round of adjin.Of makes of a route -/
abbrev RdO (rc : Loop) (tps : List PV) : Prop := ∀ (o : List Pvr) (x : Pvr), o.length ≤ 9000 → MeetsD (DY Try.prog) [.yl 0 rc.tmps tps, .fz (.agg (encPv x))] 2 [(0, ORec rc), (1, OutB o)] (.fz (Bf true)) [(0, ORec rc), (1, OutB (o ++ [x]))] 2
theorem allO_c (l : List Pvr) (h : ∀ r ∈ l, okPv r) (hn : l.length ≤ 9000) (gf : Nat) [FnB Try.prog gf] (caps : List FV) (p : Pvr → Bool) (hp : ∀ x, Pure Try.prog gf ([.agg (encPv x)] ++ caps) (Bf (p x))) (rc : Loop) (tps : List PV) (htl : ltPs 2 tps = true) (htr : renPs [0, 1] tps = tps) (hR : RdO rc tps) : Meets Try.prog 62 (.yl 0 rc.tmps tps :: [FV.cellp [VPv l], FV.cellp [.clo gf caps]].map PV.fz) 2 [(0, ORec rc), (1, OutB [])] (.fz (.tup [])) [(0, ORec rc), (1, OutB (l.filter p))] 2 := by
  refine Meets.intro Try.func62 rfl (Nat.le_of_ble_eq_true rfl) fun C hC => ?_
  simp only [List.map, argEnv, Nat.reduceAdd]
  refine nK ?_
  refine s_reg rfl ?_
  refine Run.pure (dd := some 6) rfl rfl (op_load1_fz rfl (Opd.tmp _ _ rfl) rfl) ?_
  refine Run.pure (dd := some 7) rfl rfl (op_len_fz rfl (by first | exact Opd.tmp _ _ rfl | exact Opd.nil _ _ (Opd.tmp _ _ rfl)) (by first | exact List.length_map _ | rfl)) ?_
  refine Run.pure (dd := some 8) rfl rfl (op_move rfl (Opd.const _)) ?_
  refine Run.nil (FinR.mk ?_)
  refine nK ?_
  refine n_loop (ι := Nat × List Pvr) (fun g => ([(0, .yl 0 rc.tmps tps), (2, .fz (.cellp [.clo gf caps])), (6, .fz (VPv l)), (7, IV .i64 l.length), (8, IV .i64 g.1)], [(0, ORec rc), (1, OutB g.2)], 2)) (fun g => g.1 ≤ l.length ∧ g.2 = (l.take g.1).filter p) (fun g => l.length - g.1) (0, []) ⟨Nat.zero_le _, by simp⟩ ?_ ?_
  · refine Next.weak [0, 1] [] (by rfl) (keepsN hC _ rfl) (by refine ⟨⟨_, rfl, .inl ⟨by simp only [renP, htr]; rfl, by show (_ && ltPs 2 tps) = true; rw [htl]; rfl⟩⟩, ?_⟩; exact (by repeat (first | exact trivial | refine ⟨⟨_, rfl, .inl ⟨rfl, rfl⟩⟩, ?_⟩ | refine ⟨⟨_, rfl, .inl ⟨slEq rfl tN, rfl⟩⟩, ?_⟩ | refine ⟨⟨_, rfl, .inl ⟨ivEq tX, rfl⟩⟩, ?_⟩))) (by exact ⟨ent_same rfl rfl rfl tL, ⟨ent_same rfl rfl rfl tL, trivial⟩⟩) (fun _ h => by simp at h) (rel_intro)
  · intro ⟨i, o⟩ ⟨hi, hS⟩ K hK
    dsimp only at hi hS ⊢
    have hol : o.length ≤ l.length := by rw [hS]; exact filtV_le _ _ _
    refine nK ?_
    refine s_reg rfl ?_
    refine Run.pure (dd := some 9) rfl rfl (op_lss rfl (Opd.tmp _ _ rfl) (Opd.tmp _ _ rfl)) ?_
    refine Run.nil (FinR.mk ?_)
    refine nK ?_
    refine n_cond _ rfl (fun hb => ?_) (fun hb => ?_)
    · have hlt : i < l.length := by simp at hb; omega
      have hr1 := row_at' encPv l i hlt
      have hs := filtV_take p hlt
      rw [← hS] at hs
      have hK1 := fun a h => hK (i + 1, a) ⟨by dsimp only; omega, h⟩ (by dsimp only; omega)
      dsimp only at hK1
      have ox := h _ (List.getElem_mem hlt)
      generalize l[i] = x at *
      have kx := pvroute_c x ox
      have kp := hp x
      have hz := hR o x (by omega)
      by_cases hpx : p x = true
      · rw [hpx] at kp
        rw [if_pos hpx] at hs
        refine nK ?_
        refine s_reg rfl ?_
        refine Run.pure (dd := some 10) rfl rfl (op_idx_fz _ rfl (Opd.tmp _ _ rfl) (Opd.tmp _ _ rfl) tF) ?_
        refine Run.pure (dd := some 11) rfl rfl (op_loadw_fz rfl (Opd.tmp _ _ rfl) rfl) ?_
        refine Run.eff (dd := some 5) rfl rfl (op_alloc rfl rfl rfl rfl) ?_
        refine Run.eff (dd := none) rfl rfl (op_store_flat rfl (Opd.tmp _ _ rfl) (Opd.tmp _ _ rfl) tC rfl rfl (by first | rfl | assumption) tS) ?_
        refine Run.nil (FinR.mk ?_)
        refine nK ?_
        refine s_reg rfl ?_
        refine Run.pure (dd := some 12) rfl rfl (op_load1_fz rfl (Opd.tmp _ _ rfl) rfl) ?_
        refine Run.load (dd := some 13) rfl rfl (op_loadw_flat rfl (Opd.tmp _ _ rfl) tH rfl) ?_
        refine Run.pure (dd := some 14) rfl rfl (op_call_pureC (fun _ => kp) rfl (Opd.tmp _ _ rfl) (Opds.cons _ _ _ _ (Opd.tmp _ _ rfl) Opds.nil)) ?_
        refine Run.pure (dd := some 15) rfl rfl (op_move rfl (Opd.tmp _ _ rfl)) ?_
        refine Run.pureG (dd := some 16) rfl rfl rfl tG (op_move rfl (Opd.tmp _ _ rfl)) ?_
        refine Run.loadG (dd := some 17) rfl rfl rfl tG (op_loadw_flat rfl (Opd.tmp _ _ rfl) tH rfl) ?_
        refine Run.pureG (dd := some 18) rfl rfl rfl tG (op_call_pure (fun _ => kx) rfl (Opd.func _) (Opds.cons _ _ _ _ (Opd.topt _ _ _ rfl tO) Opds.nil)) ?_
        refine Run.effG (dd := some 19) rfl rfl rfl tG tGt (op_yield [0, 1] (fun _ => hz) rfl (Opd.topt _ _ _ rfl tO) (Opds.cons _ _ _ _ (Opd.topt _ _ _ rfl tO) Opds.nil) (by simp only [List.map, renP, htr]; rfl) (by simp only [List.all_cons, List.all_nil, ltP, htl]; rfl) (Lent.of rfl rfl (by repeat (first | exact trivial | refine ⟨⟨rfl, rfl, rfl, tL⟩, ?_⟩)) rfl) rfl rfl rfl rfl rfl) ?_
        refine Run.pureG (dd := some 20) rfl rfl rfl tG (op_not rfl (Opd.topt _ _ _ rfl tO)) ?_
        refine Run.pure (dd := some 21) rfl rfl (op_pick_and rfl (Opd.tmp _ _ rfl) (Opd.topt _ _ _ rfl tO)) ?_
        refine Run.nil (FinR.mk ?_)
        refine nK ?_
        refine n_cond _ rfl (fun hb => ?_) (fun hb => ?_)
        · exfalso; simp at hb
        · refine nK ?_
          refine s_reg rfl ?_
          refine Run.pure (dd := some 22) rfl rfl (op_add rfl (Opd.tmp _ _ rfl) (Opd.const _) tI) ?_
          refine Run.pure (dd := some 8) rfl rfl (op_move rfl (Opd.tmp _ _ rfl)) ?_
          refine Run.nil (FinR.mk ?_)
          refine nK ?_
          refine Next.weak [0, 1] [] (by rfl) (keepsN hC _ rfl) (by refine ⟨⟨_, rfl, .inl ⟨by simp only [renP, htr]; rfl, by show (_ && ltPs 2 tps) = true; rw [htl]; rfl⟩⟩, ?_⟩; exact (by repeat (first | exact trivial | refine ⟨⟨_, rfl, .inl ⟨rfl, rfl⟩⟩, ?_⟩ | refine ⟨⟨_, rfl, .inl ⟨slEq rfl tN, rfl⟩⟩, ?_⟩ | refine ⟨⟨_, rfl, .inl ⟨ivEq tX, rfl⟩⟩, ?_⟩))) (by exact ⟨ent_same rfl rfl rfl tL, ⟨ent_same rfl rfl rfl tL, trivial⟩⟩) (fun _ h => by simp at h) (hK1 (o ++ [x]) hs.symm)
      · have hpx : p x = false := by simpa using hpx
        rw [hpx] at kp
        rw [if_neg (by rw [hpx]; decide), List.append_nil] at hs
        refine nK ?_
        refine s_reg rfl ?_
        refine Run.pure (dd := some 10) rfl rfl (op_idx_fz _ rfl (Opd.tmp _ _ rfl) (Opd.tmp _ _ rfl) tF) ?_
        refine Run.pure (dd := some 11) rfl rfl (op_loadw_fz rfl (Opd.tmp _ _ rfl) rfl) ?_
        refine Run.eff (dd := some 5) rfl rfl (op_alloc rfl rfl rfl rfl) ?_
        refine Run.eff (dd := none) rfl rfl (op_store_flat rfl (Opd.tmp _ _ rfl) (Opd.tmp _ _ rfl) tC rfl rfl (by first | rfl | assumption) tS) ?_
        refine Run.nil (FinR.mk ?_)
        refine nK ?_
        refine s_reg rfl ?_
        refine Run.pure (dd := some 12) rfl rfl (op_load1_fz rfl (Opd.tmp _ _ rfl) rfl) ?_
        refine Run.load (dd := some 13) rfl rfl (op_loadw_flat rfl (Opd.tmp _ _ rfl) tH rfl) ?_
        refine Run.pure (dd := some 14) rfl rfl (op_call_pureC (fun _ => kp) rfl (Opd.tmp _ _ rfl) (Opds.cons _ _ _ _ (Opd.tmp _ _ rfl) Opds.nil)) ?_
        refine Run.pure (dd := some 15) rfl rfl (op_move rfl (Opd.tmp _ _ rfl)) ?_
        refine Run.pureG (dd := some 16) rfl rfl rfl tG (op_move rfl (Opd.tmp _ _ rfl)) ?_
        refine Run.loadG (dd := some 17) rfl rfl rfl tG (op_loadw_flat rfl (Opd.tmp _ _ rfl) tH rfl) ?_
        refine Run.pureG (dd := some 18) rfl rfl rfl tG (op_call_pure (fun _ => kx) rfl (Opd.func _) (Opds.cons _ _ _ _ (Opd.topt _ _ _ rfl tO) Opds.nil)) ?_
        refine Run.pureG (dd := some 19) rfl rfl rfl tG (op_never (p := .fz (Bf false)) (by rfl)) ?_
        refine Run.pureG (dd := some 20) rfl rfl rfl tG (op_not rfl (Opd.topt _ _ _ rfl tO)) ?_
        refine Run.pure (dd := some 21) rfl rfl (op_pick_and rfl (Opd.tmp _ _ rfl) (Opd.topt _ _ _ rfl tO)) ?_
        refine Run.nil (FinR.mk ?_)
        refine nK ?_
        refine n_cond _ rfl (fun hb => ?_) (fun hb => ?_)
        · exfalso; simp at hb
        · refine nK ?_
          refine s_reg rfl ?_
          refine Run.pure (dd := some 22) rfl rfl (op_add rfl (Opd.tmp _ _ rfl) (Opd.const _) tI) ?_
          refine Run.pure (dd := some 8) rfl rfl (op_move rfl (Opd.tmp _ _ rfl)) ?_
          refine Run.nil (FinR.mk ?_)
          refine nK ?_
          refine Next.weak [0, 1] [] (by rfl) (keepsN hC _ rfl) (by refine ⟨⟨_, rfl, .inl ⟨by simp only [renP, htr]; rfl, by show (_ && ltPs 2 tps) = true; rw [htl]; rfl⟩⟩, ?_⟩; exact (by repeat (first | exact trivial | refine ⟨⟨_, rfl, .inl ⟨rfl, rfl⟩⟩, ?_⟩ | refine ⟨⟨_, rfl, .inl ⟨slEq rfl tN, rfl⟩⟩, ?_⟩ | refine ⟨⟨_, rfl, .inl ⟨ivEq tX, rfl⟩⟩, ?_⟩))) (by exact ⟨ent_same rfl rfl rfl tL, ⟨ent_same rfl rfl rfl tL, trivial⟩⟩) (fun _ h => by simp at h) (hK1 o hs.symm)
    · have hie : i = l.length := by simp at hb; omega
      rw [hie, List.take_length] at hS
      rw [← hS]
      refine n_exit ?_
      refine Next.weak [0, 1] [] (by rfl) (keepsN hC _ rfl) (G' := []) (H' := [(0, ORec rc), (1, OutB o)]) trivial (by exact ⟨ent_same rfl rfl rfl tL, ⟨ent_same rfl rfl rfl tL, trivial⟩⟩) (fun _ h => by simp at h) (n_out0 rfl)
open Go Go.RT Go.Proofs Go.Pl
set_option maxRecDepth 20000
abbrev ofCl (l : List Pvr) (p : Pfx) : FV := .clo 62 [.cellp [VPv l], .cellp [.clo 48 [.cellp (encP p)]]]
abbrev ofT (l : List Pvr) (p : Pfx) : List PV := [.any, .any, .any, .any, .any, .ptr 1 1 0 0, .any, .any, .any, .fz (ofCl l p), .any, .any, .any, .any, .any, .any]
theorem of_c (l : List Pvr) (p : Pfx) (h : ∀ r ∈ l, okPv r) (hn : l.length ≤ 9000) : Pure Try.prog 27 [VPv l, .agg (encP p)] (VPv (l.filter fun x => decide (x.px = p))) := by
  have ka := all_c l 48 [.cellp (encP p)]
  have hlen : (l.filter fun x => decide (x.px = p)).length ≤ l.length := List.length_filter_le _ _
  refine Meets.introM Try.func27 rfl (Nat.le_of_ble_eq_true rfl) fun C hC hdf => ?_
  simp only [List.map, argEnv, Nat.reduceAdd]
  refine nK ?_
  refine s_reg rfl ?_
  refine Run.eff (dd := some 3) rfl rfl (op_box_flat rfl (Opd.tmp _ _ rfl) tC rfl) ?_
  refine Run.pure (dd := some 4) rfl rfl (op_assign rfl (Opd.const _)) ?_
  refine Run.nil (FinR.mk ?_)
  refine nK ?_
  refine Next.weakS [] [3] (by rfl) (keeps0 hC _) (G' := [(0, .fz (VPv l)), (3, .fz (.cellp (encP p)))]) (H' := []) (by repeat (first | exact trivial | refine ⟨⟨_, rfl, .inl ⟨rfl, rfl⟩⟩, ?_⟩ | refine ⟨⟨_, rfl, .inl ⟨slEq rfl tN, rfl⟩⟩, ?_⟩ | refine ⟨⟨_, rfl, .inl ⟨ivEq tX, rfl⟩⟩, ?_⟩ | refine ⟨⟨_, rfl, .inr ⟨_, rfl, tW⟩⟩, ?_⟩)) trivial rfl ?_
  refine nK ?_
  refine s_reg rfl ?_
  refine Run.eff (dd := some 5) rfl rfl (op_alloc rfl rfl rfl rfl) ?_
  refine Run.nil (FinR.mk ?_)
  refine nK ?_
  refine Next.toOwn 0 22 1 rfl ?_
  refine nK ?_
  refine s_reg rfl ?_
  refine Run.pure (dd := some 7) rfl rfl (op_move rfl (Opd.tmp _ _ rfl)) ?_
  refine Run.pure (dd := some 8) rfl rfl (op_makeFuncF (fs := [.cellp (encP p)]) rfl (Opds.cons _ _ _ _ (Opd.tmp _ _ rfl) Opds.nil)) ?_
  refine Run.pure (dd := some 9) rfl rfl (op_call_pure (fun _ => ka) rfl (Opd.func _) (Opds.cons _ _ _ _ (Opd.tmp _ _ rfl) (Opds.cons _ _ _ _ (Opd.tmp _ _ rfl) Opds.nil))) ?_
  refine Run.nil (FinR.mk ?_)
  refine nK ?_
  refine Next.weakS [5] [] (by rfl) (keeps0 hC _) (G' := [(5, .ptr 0 1 0 0), (9, .fz (ofCl l p))]) (H' := [(0, OutB [])]) (by repeat (first | exact trivial | refine ⟨⟨_, rfl, .inl ⟨rfl, rfl⟩⟩, ?_⟩ | refine ⟨⟨_, rfl, .inl ⟨slEq rfl tN, rfl⟩⟩, ?_⟩ | refine ⟨⟨_, rfl, .inl ⟨ivEq tX, rfl⟩⟩, ?_⟩)) (by exact ⟨ent_same rfl rfl rfl tL, trivial⟩) rfl ?_
  refine n_range (f := 62) (caps := [FV.cellp [VPv l], FV.cellp [.clo 48 [.cellp (encP p)]]].map PV.fz) (capsI := [FV.cellp [VPv l], FV.cellp [.clo 48 [.cellp (encP p)]]].map PV.fz) (tps := ofT l p) (n := 2) (n' := 2) (r0 := 0) (Hin := fun rc => [(0, ORec rc), (1, OutB [])]) (Hm := [(1, OutB (l.filter fun x => decide (x.px = p)))]) (res := .fz (.tup [])) [2, 0] none (fun rc h1 h2 h3 h4 h5 h6 => ?_) (.fz _ rfl) rfl rfl (by simp [renP]) rfl rfl (by simp [ltP]) (fun rc => Lent.of rfl rfl (by repeat (first | exact trivial | refine ⟨⟨rfl, rfl, rfl, tL⟩, ?_⟩)) rfl) rfl rfl rfl rfl rfl (fun C' D hA => ?_)
  · have hR : RdO rc (ofT l p) := fun o x ho => by
      have hw := round_meets (P := Try.prog) (rc := rc) (r := 0) (n := 2) (n' := 2) (N := 16) (p := 10) (tps := ofT l p) (x := .fz (.agg (encPv x))) (Hin := [(0, ORec rc), (1, OutB o)]) (Hm := [(0, ORec { rc with state := .busy }), (1, some (.refs 1 [[.own 22 (o.map encPv ++ [encPv x])]]))]) (j := none) h4 h5 h1 h3 (by decide) rfl rfl rfl (fun C l hC hl => by
        simp only [argEnv, Nat.reduceAdd]
        refine nK ?_
        refine s_reg rfl ?_
        refine Run.eff (dd := some 6) rfl rfl (op_alloc rfl rfl rfl rfl) ?_
        refine Run.eff (dd := none) rfl rfl (op_store_flat rfl (Opd.tmp _ _ rfl) (Opd.tmp _ _ rfl) tC rfl rfl (by first | rfl | assumption) tS) ?_
        refine Run.nil (FinR.mk ?_)
        refine nK ?_
        refine s_begin hl rfl h1 ?_
        refine Next.take 1 0 0 rfl rfl rfl rfl ?_
        refine nK ?_
        refine s_reg rfl ?_
        refine Run.load (dd := some 11) rfl rfl (op_load1_refs rfl (Opd.tmp _ _ rfl) tH rfl) ?_
        refine Run.load (dd := some 12) rfl rfl (op_loadw_flat rfl (Opd.tmp _ _ rfl) tH rfl) ?_
        refine Run.pure (dd := some 13) rfl rfl (op_buildSlice_fz rfl (RowsF.cons _ _ _ _ _ _ (Opd.tmp _ _ rfl) tC (by rfl) (RowsF.nil _)) rfl rfl) ?_
        refine Run.eff (dd := some 14) rfl rfl (op_append rfl (Opd.tmp _ _ rfl) (Opd.tmp _ _ rfl) rfl (by simp) rfl rfl tB tB) ?_
        refine Run.eff (dd := none) rfl rfl (op_store_refs rfl (Opd.tmp _ _ rfl) (Opd.tmp _ _ rfl) tP rfl rfl rfl tS) ?_
        refine Run.nil (FinR.mk ?_)
        refine nK ?_
        refine Next.untake 1 0 0 rfl rfl rfl rfl (by simp) rfl ?_
        refine Next.weak [0, 1] [] (by rfl) (keepsN hC _ rfl) (G' := []) (H' := [(0, ORec { rc with state := .busy }), (1, some (.refs 1 [[.own 22 (o.map encPv ++ [encPv x])]]))]) trivial (by exact ⟨ent_same rfl rfl rfl tL, ⟨ent_same rfl rfl rfl tL, trivial⟩⟩) (fun _ h => by simp at h) (s_rout (e := .normal) (j := none) rfl))
      have e : endR rc none = rc := endR_none h1 h2
      have hw2 : MeetsD (DY Try.prog) [.yl 0 rc.tmps (ofT l p), .fz (.agg (encPv x))] 2 [(0, ORec rc), (1, OutB o)] (.fz (Bf true)) ((0, ORec (endR rc none)) :: [(0, ORec { rc with state := .busy }), (1, some (.refs 1 [[.own 22 (o.map encPv ++ [encPv x])]]))]) 2 := hw
      rw [e] at hw2
      refine hw2.keepH DY.mono fun i o' h => ?_
      unfold OutB at h
      rw [app2] at h
      simp only [hlook_cons] at h ⊢
      by_cases e0 : 0 = i
      · simpa [e0] using h
      · simpa [e0] using h
    have hm := allO_c l h hn 48 [.cellp (encP p)] (fun x => decide (x.px = p)) (ofT_c p) rc (ofT l p) rfl rfl hR
    have e : endR rc none = rc := endR_none h1 h2
    show Meets _ _ _ _ [(0, ORec rc), (1, OutB [])] _ [(0, ORec (endR rc none)), (1, OutB (l.filter fun x => decide (x.px = p)))] 2
    rw [e]
    exact hm
  · generalize (l.filter fun x => decide (x.px = p)) = c at *
    refine Next.take 0 0 0 rfl rfl rfl rfl ?_
    refine nK ?_
    refine s_reg rfl ?_
    refine Run.load (dd := some 15) rfl rfl (op_load1_refs rfl (Opd.tmp _ _ rfl) tH rfl) ?_
    refine Run.pure (dd := some 4) rfl rfl (op_assign rfl (Opd.tmp _ _ rfl)) ?_
    refine Run.nil (FinR.mk ?_)
    refine nK ?_
    refine s_tail hA hdf ?_
    refine Next.weakS [] [4] (by rfl) (keeps0 hC _) (G' := [(4, .fz (VPv c))]) (H' := []) (by repeat (first | exact trivial | refine ⟨⟨_, rfl, .inl ⟨rfl, rfl⟩⟩, ?_⟩ | refine ⟨⟨_, rfl, .inl ⟨slEq rfl tN, rfl⟩⟩, ?_⟩ | refine ⟨⟨_, rfl, .inl ⟨ivEq tX, rfl⟩⟩, ?_⟩ | refine ⟨⟨_, rfl, .inr ⟨_, rfl, tW⟩⟩, ?_⟩)) trivial rfl ?_
    (first | exact s_o1 hC rfl tV | exact s_o2 hC rfl tV tV | exact s_o3 hC rfl tV tV tV | exact s_o4 hC rfl tV tV tV tV | exact s_out0 hC rfl | exact s_outO hC rfl rfl rfl)
end Go.Proofs.Ytfkcbglnadjnnaa
/- What Put makes. No program in sight. -/
namespace Go.Pl
open Go Go.RT
set_option linter.all false
abbrev PSt := List Pvr × Bool × Bool
def chgV (x r : Pvr) : Bool := (decide (x.kd ≠ r.kd) || decide (x.ro ≠ r.ro)) || !decide (x.t = r.t)
def putS (r : Pvr) (s : PSt) (x : Pvr) : PSt :=
  ((if (decide (0 ≤ ordV x r) && !s.2.2) = true then s.1 ++ [r] else s.1) ++ (if ordV x r ≠ 0 then [x] else []), if ordV x r ≠ 0 then s.2.1 else chgV x r, if (decide (0 ≤ ordV x r) && !s.2.2) = true then true else s.2.2)
def putG (r : Pvr) (l : List Pvr) : PSt := l.foldl (putS r) ([], true, false)
theorem putG_take (r : Pvr) {l : List Pvr} {i : Nat} (h : i < l.length) : putG r (l.take (i + 1)) = putS r (putG r (l.take i)) l[i] := by
  unfold putG
  rw [List.take_succ_eq_append_getElem h, List.foldl_append]; rfl
theorem putS_len (r : Pvr) (s : PSt) (x : Pvr) : (putS r s x).1.length + (if (putS r s x).2.2 = true then 0 else 1) ≤ s.1.length + (if s.2.2 = true then 0 else 1) + 1 := by
  obtain ⟨o, c, d⟩ := s
  simp only [putS]
  by_cases h1 : 0 ≤ ordV x r <;> by_cases h2 : ordV x r = 0 <;> cases d <;> simp [h1, h2] <;> omega
theorem putG_len (r : Pvr) (l : List Pvr) : ∀ i, i ≤ l.length → (putG r (l.take i)).1.length + (if (putG r (l.take i)).2.2 = true then 0 else 1) ≤ i + 1 := by
  intro i
  induction i with
  | zero => intro _; simp [putG]
  | succ i ih =>
    intro hi
    rw [putG_take r (by omega)]
    have := ih (by omega)
    have := putS_len r (putG r (l.take i)) (l[i]'(by omega))
    omega
def putF (l : List Pvr) (r : Pvr) : List Pvr × Bool := (if (putG r l).2.2 = true then (putG r l).1 else (putG r l).1 ++ [r], (putG r l).2.1)
end Go.Pl
namespace Go.Proofs.Ytfkcbglnadjnnaa
open Go Go.RT Go.Proofs Go.Pl
set_option linter.all false
set_option maxRecDepth 20000
abbrev OFl (b : Bool) : Option Ob := some (.flat 1 [[Bf b]])
abbrev HpP (rc : Loop) (r : Pvr) (s : PSt) : Hp := [(0, ORec rc), (1, OutB s.1), (2, OFl s.2.1), (3, OFl s.2.2), (4, OPv1 r)]
/-- what a round of adjin.Put makes of a route -/
abbrev RdP (rc : Loop) (tps : List PV) (r : Pvr) : Prop := ∀ (s : PSt) (x : Pvr), okPv x → s.1.length ≤ 9100 → MeetsD (DY Try.prog) [.yl 0 rc.tmps tps, .fz (.agg (encPv x))] 5 (HpP rc r s) (.fz (Bf true)) (HpP rc r (putS r s x)) 5
theorem allP_c (l : List Pvr) (h : ∀ r ∈ l, okPv r) (hn : l.length ≤ 9000) (r : Pvr) (rc : Loop) (tps : List PV) (htl : ltPs 5 tps = true) (htr : renPs [0, 1, 2, 3, 4] tps = tps) (hR : RdP rc tps r) : Meets Try.prog 62 (.yl 0 rc.tmps tps :: [FV.cellp [VPv l], FV.cellp [.clo 40 []]].map PV.fz) 5 (HpP rc r ([], true, false)) (.fz (.tup [])) (HpP rc r (putG r l)) 5 := by
  refine Meets.intro Try.func62 rfl (Nat.le_of_ble_eq_true rfl) fun C hC => ?_
  simp only [List.map, argEnv, Nat.reduceAdd]
  refine nK ?_
  refine s_reg rfl ?_
  refine Run.pure (dd := some 6) rfl rfl (op_load1_fz rfl (Opd.tmp _ _ rfl) rfl) ?_
  refine Run.pure (dd := some 7) rfl rfl (op_len_fz rfl (by first | exact Opd.tmp _ _ rfl | exact Opd.nil _ _ (Opd.tmp _ _ rfl)) (by first | exact List.length_map _ | rfl)) ?_
  refine Run.pure (dd := some 8) rfl rfl (op_move rfl (Opd.const _)) ?_
  refine Run.nil (FinR.mk ?_)
  refine nK ?_
  refine n_loop (ι := Nat × PSt) (fun g => ([(0, .yl 0 rc.tmps tps), (2, .fz (.cellp [.clo 40 []])), (6, .fz (VPv l)), (7, IV .i64 l.length), (8, IV .i64 g.1)], HpP rc r g.2, 5)) (fun g => g.1 ≤ l.length ∧ g.2 = putG r (l.take g.1)) (fun g => l.length - g.1) (0, ([], true, false)) ⟨Nat.zero_le _, by simp [putG]⟩ ?_ ?_
  · refine Next.weak [0, 1, 2, 3, 4] [] (by rfl) (keepsN hC _ rfl) (by refine ⟨⟨_, rfl, .inl ⟨by simp only [renP, htr]; rfl, by show (_ && ltPs 5 tps) = true; rw [htl]; rfl⟩⟩, ?_⟩; exact (by repeat (first | exact trivial | refine ⟨⟨_, rfl, .inl ⟨rfl, rfl⟩⟩, ?_⟩ | refine ⟨⟨_, rfl, .inl ⟨slEq rfl tN, rfl⟩⟩, ?_⟩ | refine ⟨⟨_, rfl, .inl ⟨ivEq tX, rfl⟩⟩, ?_⟩))) (by exact ⟨ent_same rfl rfl rfl tL, ⟨ent_same rfl rfl rfl tL, ⟨ent_same rfl rfl rfl tL, ⟨ent_same rfl rfl rfl tL, ⟨ent_same rfl rfl rfl tL, trivial⟩⟩⟩⟩⟩) (fun _ h => by simp at h) (rel_intro)
  · intro ⟨i, s⟩ ⟨hi, hS⟩ K hK
    dsimp only at hi hS ⊢
    have hol := putG_len r l i hi
    rw [← hS] at hol
    refine nK ?_
    refine s_reg rfl ?_
    refine Run.pure (dd := some 9) rfl rfl (op_lss rfl (Opd.tmp _ _ rfl) (Opd.tmp _ _ rfl)) ?_
    refine Run.nil (FinR.mk ?_)
    refine nK ?_
    refine n_cond _ rfl (fun hb => ?_) (fun hb => ?_)
    · have hlt : i < l.length := by simp at hb; omega
      have hr1 := row_at' encPv l i hlt
      have hs := putG_take r hlt
      rw [← hS] at hs
      have hK1 := hK (i + 1, putS r s l[i]) ⟨by dsimp only; omega, hs.symm⟩ (by dsimp only; omega)
      dsimp only at hK1
      have ox := h _ (List.getElem_mem hlt)
      generalize l[i] = x at *
      have kx := pvroute_c x ox
      have kp : Pure Try.prog 40 ([.agg (encPv x)] ++ []) (Bf true) := putT_c x
      have hz := hR s x ox (by omega)
      refine nK ?_
      refine s_reg rfl ?_
      refine Run.pure (dd := some 10) rfl rfl (op_idx_fz _ rfl (Opd.tmp _ _ rfl) (Opd.tmp _ _ rfl) tF) ?_
      refine Run.pure (dd := some 11) rfl rfl (op_loadw_fz rfl (Opd.tmp _ _ rfl) rfl) ?_
      refine Run.eff (dd := some 5) rfl rfl (op_alloc rfl rfl rfl rfl) ?_
      refine Run.eff (dd := none) rfl rfl (op_store_flat rfl (Opd.tmp _ _ rfl) (Opd.tmp _ _ rfl) tC rfl rfl (by first | rfl | assumption) tS) ?_
      refine Run.nil (FinR.mk ?_)
      refine nK ?_
      refine s_reg rfl ?_
      refine Run.pure (dd := some 12) rfl rfl (op_load1_fz rfl (Opd.tmp _ _ rfl) rfl) ?_
      refine Run.load (dd := some 13) rfl rfl (op_loadw_flat rfl (Opd.tmp _ _ rfl) tH rfl) ?_
      refine Run.pure (dd := some 14) rfl rfl (op_call_pureC (fun _ => kp) rfl (Opd.tmp _ _ rfl) (Opds.cons _ _ _ _ (Opd.tmp _ _ rfl) Opds.nil)) ?_
      refine Run.pure (dd := some 15) rfl rfl (op_move rfl (Opd.tmp _ _ rfl)) ?_
      refine Run.pureG (dd := some 16) rfl rfl rfl tG (op_move rfl (Opd.tmp _ _ rfl)) ?_
      refine Run.loadG (dd := some 17) rfl rfl rfl tG (op_loadw_flat rfl (Opd.tmp _ _ rfl) tH rfl) ?_
      refine Run.pureG (dd := some 18) rfl rfl rfl tG (op_call_pure (fun _ => kx) rfl (Opd.func _) (Opds.cons _ _ _ _ (Opd.topt _ _ _ rfl tO) Opds.nil)) ?_
      refine Run.effG (dd := some 19) rfl rfl rfl tG tGt (op_yield [0, 1, 2, 3, 4] (fun _ => hz) rfl (Opd.topt _ _ _ rfl tO) (Opds.cons _ _ _ _ (Opd.topt _ _ _ rfl tO) Opds.nil) (by simp only [List.map, renP, htr]; rfl) (by simp only [List.all_cons, List.all_nil, ltP, htl]; rfl) (Lent.of rfl rfl (by repeat (first | exact trivial | refine ⟨⟨rfl, rfl, rfl, tL⟩, ?_⟩)) rfl) rfl rfl rfl rfl rfl) ?_
      refine Run.pureG (dd := some 20) rfl rfl rfl tG (op_not rfl (Opd.topt _ _ _ rfl tO)) ?_
      refine Run.pure (dd := some 21) rfl rfl (op_pick_and rfl (Opd.tmp _ _ rfl) (Opd.topt _ _ _ rfl tO)) ?_
      refine Run.nil (FinR.mk ?_)
      refine nK ?_
      refine n_cond _ rfl (fun hb => ?_) (fun hb => ?_)
      · exfalso; simp at hb
      · refine nK ?_
        refine s_reg rfl ?_
        refine Run.pure (dd := some 22) rfl rfl (op_add rfl (Opd.tmp _ _ rfl) (Opd.const _) tI) ?_
        refine Run.pure (dd := some 8) rfl rfl (op_move rfl (Opd.tmp _ _ rfl)) ?_
        refine Run.nil (FinR.mk ?_)
        refine nK ?_
        refine Next.weak [0, 1, 2, 3, 4] [] (by rfl) (keepsN hC _ rfl) (by refine ⟨⟨_, rfl, .inl ⟨by simp only [renP, htr]; rfl, by show (_ && ltPs 5 tps) = true; rw [htl]; rfl⟩⟩, ?_⟩; exact (by repeat (first | exact trivial | refine ⟨⟨_, rfl, .inl ⟨rfl, rfl⟩⟩, ?_⟩ | refine ⟨⟨_, rfl, .inl ⟨slEq rfl tN, rfl⟩⟩, ?_⟩ | refine ⟨⟨_, rfl, .inl ⟨ivEq tX, rfl⟩⟩, ?_⟩))) (by exact ⟨ent_same rfl rfl rfl tL, ⟨ent_same rfl rfl rfl tL, ⟨ent_same rfl rfl rfl tL, ⟨ent_same rfl rfl rfl tL, ⟨ent_same rfl rfl rfl tL, trivial⟩⟩⟩⟩⟩) (fun _ h => by simp at h) (hK1)
    · have hie : i = l.length := by simp at hb; omega
      rw [hie, List.take_length] at hS
      rw [← hS]
      refine n_exit ?_
      refine Next.weak [0, 1, 2, 3, 4] [] (by rfl) (keepsN hC _ rfl) (G' := []) (H' := HpP rc r s) trivial (by exact ⟨ent_same rfl rfl rfl tL, ⟨ent_same rfl rfl rfl tL, ⟨ent_same rfl rfl rfl tL, ⟨ent_same rfl rfl rfl tL, ⟨ent_same rfl rfl rfl tL, trivial⟩⟩⟩⟩⟩) (fun _ h => by simp at h) (n_out0 rfl)
open Go Go.RT Go.Proofs Go.Pl
set_option maxRecDepth 20000
set_option maxHeartbeats 4000000
abbrev putCl (l : List Pvr) : FV := .clo 62 [.cellp [VPv l], .cellp [.clo 40 []]]
abbrev putT (l : List Pvr) : List PV := [.any, .any, .any, .ptr 4 22 0 0, .ptr 1 1 0 0, .ptr 2 1 0 0, .ptr 3 1 0 0, .any, .any, .any, .fz (putCl l), .any, .any, .any, .any, .any, .any, .any, .any, .any, .any, .any, .any, .any, .any, .any, .any, .any, .any, .any, .any, .any, .any, .any, .any, .any, .any, .any, .any, .any, .any, .any, .any, .any, .any, .any, .any, .any, .any, .any, .any, .any, .any, .any, .any, .any, .any, .any, .any, .any, .any]
theorem put_c (l : List Pvr) (r : Pvr) (h : ∀ r ∈ l, okPv r) (hr : okPv r) (hn : l.length ≤ 9000) : Pure Try.prog 15 [VPv l, .agg (encPv r)] (.tup [VPv (putF l r).1, Bf (putF l r).2]) := by
  have ka := all_c l 40 []
  have hgl := putG_len r l l.length (Nat.le_refl _)
  rw [List.take_length] at hgl
  have kr := pvroute_c r hr
  unfold putF
  refine Meets.introM Try.func15 rfl (Nat.le_of_ble_eq_true rfl) fun C hC hdf => ?_
  simp only [List.map, argEnv, Nat.reduceAdd]
  refine nK ?_
  refine s_reg rfl ?_
  refine Run.eff (dd := some 3) rfl rfl (op_box_flat rfl (Opd.tmp _ _ rfl) tC rfl) ?_
  refine Run.eff (dd := some 4) rfl rfl (op_alloc rfl rfl rfl rfl) ?_
  refine Run.eff (dd := some 5) rfl rfl (op_alloc rfl rfl rfl rfl) ?_
  refine Run.nil (FinR.mk ?_)
  refine nK ?_
  refine Next.toOwn 1 22 1 rfl ?_
  refine nK ?_
  refine s_reg rfl ?_
  refine Run.eff (dd := none) rfl rfl (op_store_flat rfl (Opd.tmp _ _ rfl) (Opd.const _) tC rfl rfl (by first | rfl | assumption) tS) ?_
  refine Run.nil (FinR.mk ?_)
  refine nK ?_
  refine s_reg rfl ?_
  refine Run.eff (dd := some 6) rfl rfl (op_alloc rfl rfl rfl rfl) ?_
  refine Run.eff (dd := none) rfl rfl (op_store_flat rfl (Opd.tmp _ _ rfl) (Opd.const _) tC rfl rfl (by first | rfl | assumption) tS) ?_
  refine Run.nil (FinR.mk ?_)
  refine nK ?_
  refine s_reg rfl ?_
  refine Run.pure (dd := some 9) rfl rfl (op_move rfl (Opd.tmp _ _ rfl)) ?_
  refine Run.pure (dd := some 10) rfl rfl (op_call_pure (fun _ => ka) rfl (Opd.func _) (Opds.cons _ _ _ _ (Opd.tmp _ _ rfl) (Opds.cons _ _ _ _ (Opd.funcF _) Opds.nil))) ?_
  refine Run.nil (FinR.mk ?_)
  refine nK ?_
  refine Next.weakS [3, 4, 5, 6] [] (by rfl) (keeps0 hC _) (G' := [(3, .ptr 0 22 0 0), (4, .ptr 1 1 0 0), (5, .ptr 2 1 0 0), (6, .ptr 3 1 0 0), (10, .fz (putCl l))]) (H' := [(0, OPv1 r), (1, OutB []), (2, OFl true), (3, OFl false)]) (by repeat (first | exact trivial | refine ⟨⟨_, rfl, .inl ⟨rfl, rfl⟩⟩, ?_⟩ | refine ⟨⟨_, rfl, .inl ⟨slEq rfl tN, rfl⟩⟩, ?_⟩ | refine ⟨⟨_, rfl, .inl ⟨ivEq tX, rfl⟩⟩, ?_⟩)) (by exact ⟨ent_same rfl rfl rfl tL, ⟨ent_same rfl rfl rfl tL, ⟨ent_same rfl rfl rfl tL, ⟨ent_same rfl rfl rfl tL, trivial⟩⟩⟩⟩) rfl ?_
  refine n_range (f := 62) (caps := [FV.cellp [VPv l], FV.cellp [.clo 40 []]].map PV.fz) (capsI := [FV.cellp [VPv l], FV.cellp [.clo 40 []]].map PV.fz) (tps := putT l) (n := 5) (n' := 5) (r0 := 0) (Hin := fun rc => HpP rc r ([], true, false)) (Hm := [(1, OutB (putG r l).1), (2, OFl (putG r l).2.1), (3, OFl (putG r l).2.2), (4, OPv1 r)]) (res := .fz (.tup [])) [5, 1, 2, 3, 0] none (fun rc h1 h2 h3 h4 h5 h6 => ?_) (.fz _ rfl) rfl rfl (by simp [renP]) rfl rfl (by simp [ltP]) (fun rc => Lent.of rfl rfl (by repeat (first | exact trivial | refine ⟨⟨rfl, rfl, rfl, tL⟩, ?_⟩)) rfl) rfl rfl rfl rfl rfl (fun C' D hA => ?_)
  · have hR : RdP rc (putT l) r := fun s x ok ho => by
      obtain ⟨o, c, d⟩ := s
      have kc := compare_c x r
      have ks := sat_c x.t r.t ok.t hr.t
      have ho' : o.length ≤ 9100 := ho
      have hw := round_meets (P := Try.prog) (rc := rc) (r := 0) (n := 5) (n' := 5) (N := 61) (p := 11) (tps := putT l) (x := .fz (.agg (encPv x))) (Hin := HpP rc r (o, c, d)) (Hm := HpP { rc with state := .busy } r (putS r (o, c, d) x)) (j := none) h4 h5 h1 h3 (by decide) rfl rfl rfl (fun C l' hC hl => by
        simp only [argEnv, Nat.reduceAdd]
        refine nK ?_
        refine s_reg rfl ?_
        refine Run.eff (dd := some 7) rfl rfl (op_alloc rfl rfl rfl rfl) ?_
        refine Run.eff (dd := none) rfl rfl (op_store_flat rfl (Opd.tmp _ _ rfl) (Opd.tmp _ _ rfl) tC rfl rfl (by first | rfl | assumption) tS) ?_
        refine Run.nil (FinR.mk ?_)
        refine nK ?_
        refine s_begin hl rfl h1 ?_
        refine Next.take 1 0 0 rfl rfl rfl rfl ?_
        refine nK ?_
        refine s_reg rfl ?_
        refine Run.load (dd := some 12) rfl rfl (op_loadw_flat rfl (Opd.tmp _ _ rfl) tH rfl) ?_
        refine Run.load (dd := some 13) rfl rfl (op_loadw_flat rfl (Opd.tmp _ _ rfl) tH rfl) ?_
        refine Run.pure (dd := some 14) rfl rfl (op_call_pure (fun _ => kc) rfl (Opd.func _) (Opds.cons _ _ _ _ (Opd.tmp _ _ rfl) (Opds.cons _ _ _ _ (Opd.tmp _ _ rfl) Opds.nil))) ?_
        refine Run.pure (dd := some 8) rfl rfl (op_assign rfl (Opd.tmp _ _ rfl)) ?_
        refine Run.nil (FinR.mk ?_)
        refine nK ?_
        refine s_reg rfl ?_
        refine Run.pure (dd := some 15) rfl rfl (op_move rfl (Opd.tmp _ _ rfl)) ?_
        refine Run.pure (dd := some 16) rfl rfl (op_geq rfl (Opd.tmp _ _ rfl) (Opd.const _)) ?_
        refine Run.pure (dd := some 17) rfl rfl (op_move rfl (Opd.tmp _ _ rfl)) ?_
        refine Run.loadG (dd := some 18) rfl rfl rfl tG (op_load1_flat rfl (Opd.tmp _ _ rfl) tH rfl) ?_
        refine Run.pureG (dd := some 19) rfl rfl rfl tG (op_not rfl (Opd.topt _ _ _ rfl tO)) ?_
        refine Run.pure (dd := some 20) rfl rfl (op_pick_and rfl (Opd.tmp _ _ rfl) (Opd.topt _ _ _ rfl tO)) ?_
        refine Run.nil (FinR.mk ?_)
        refine nK ?_
        refine n_cond _ rfl (fun hb => ?_) (fun hb => ?_)
        · have hb1 : (decide (0 ≤ ordV x r) && !d) = true := hb
          refine nK ?_
          refine s_draw mixed ?_
          refine Run.load (dd := some 21) rfl rfl (op_load1_refs rfl (Opd.tmp _ _ rfl) tH rfl) ?_
          refine Run.load (dd := some 22) rfl rfl (op_loadw_flat rfl (Opd.tmp _ _ rfl) tH rfl) ?_
          refine Run.pure (dd := some 23) rfl rfl (op_call_pure (fun _ => kr) rfl (Opd.func _) (Opds.cons _ _ _ _ (Opd.tmp _ _ rfl) Opds.nil)) ?_
          refine Run.pure (dd := some 24) rfl rfl (op_buildSlice_fz rfl (RowsF.cons _ _ _ _ _ _ (Opd.tmp _ _ rfl) tC (by rfl) (RowsF.nil _)) rfl rfl) ?_
          refine Run.effW (dd := some 25) rfl rfl (op_append rfl (Opd.tmp _ _ rfl) (Opd.tmp _ _ rfl) rfl (by simp) rfl rfl tB tB) tE ?_
          refine Run.effW (dd := none) rfl rfl (op_store_refs rfl (Opd.tmp _ _ rfl) (Opd.tmp _ _ rfl) tP rfl rfl rfl tS) tE ?_
          refine Run.nil (FinD.mk (by kernel_rfl) ?_)
          refine nK ?_
          refine s_reg rfl ?_
          refine Run.eff (dd := none) rfl rfl (op_store_flat rfl (Opd.tmp _ _ rfl) (Opd.const _) tC rfl rfl (by first | rfl | assumption) tS) ?_
          refine Run.nil (FinR.mk ?_)
          refine nK ?_
          refine s_reg rfl ?_
          refine Run.pure (dd := some 26) rfl rfl (op_move rfl (Opd.tmp _ _ rfl)) ?_
          refine Run.pure (dd := some 27) rfl rfl (op_neq rfl (Opd.tmp _ _ rfl) (Opd.const _)) ?_
          refine Run.nil (FinR.mk ?_)
          refine nK ?_
          refine n_cond _ rfl (fun hb => ?_) (fun hb => ?_)
          · have hz : ordV x r ≠ 0 := by simpa using hb
            have e : putS r (o, c, d) x = ((o ++ [r]) ++ [x], c, true) := by simp only [putS]; rw [if_pos hb1, if_pos hz, if_pos hz, if_pos hb1]
            have e1 : OutB ((o ++ [r]) ++ [x]) = some (.refs 1 [[.own 22 (o.map encPv ++ [encPv r] ++ [encPv x])]]) := by unfold OutB; rw [app2, app2]
            rw [e]
            unfold HpP
            dsimp only
            rw [e1]
            refine nK ?_
            refine s_reg rfl ?_
            refine Run.load (dd := some 28) rfl rfl (op_load1_refs rfl (Opd.tmp _ _ rfl) tH rfl) ?_
            refine Run.load (dd := some 29) rfl rfl (op_loadw_flat rfl (Opd.tmp _ _ rfl) tH rfl) ?_
            refine Run.pure (dd := some 30) rfl rfl (op_buildSlice_fz rfl (RowsF.cons _ _ _ _ _ _ (Opd.tmp _ _ rfl) tC (by rfl) (RowsF.nil _)) rfl rfl) ?_
            refine Run.eff (dd := some 31) rfl rfl (op_append rfl (Opd.tmp _ _ rfl) (Opd.tmp _ _ rfl) rfl (by simp) rfl rfl tB tB) ?_
            refine Run.eff (dd := none) rfl rfl (op_store_refs rfl (Opd.tmp _ _ rfl) (Opd.tmp _ _ rfl) tP rfl rfl rfl tS) ?_
            refine Run.nil (FinR.mk ?_)
            refine nK ?_
            refine Next.untake 1 0 0 rfl rfl rfl rfl (by simp) rfl ?_
            refine Next.weak [0, 1, 2, 3, 4] [] (by rfl) (keepsN hC _ rfl) (G' := []) (H' := [(0, ORec { rc with state := .busy }), (1, some (.refs 1 [[.own 22 (o.map encPv ++ [encPv r] ++ [encPv x])]])), (2, OFl (c)), (3, OFl (true)), (4, OPv1 r)]) trivial (by exact ⟨ent_same rfl rfl rfl tL, ⟨ent_same rfl rfl rfl tL, ⟨ent_same rfl rfl rfl tL, ⟨ent_same rfl rfl rfl tL, ⟨ent_same rfl rfl rfl tL, trivial⟩⟩⟩⟩⟩) (fun _ h => by simp at h) (s_rout (e := .normal) (j := none) rfl)
          · have hz : ¬ ordV x r ≠ 0 := by simpa using hb
            have e : putS r (o, c, d) x = ((o ++ [r]), chgV x r, true) := by simp only [putS]; rw [if_pos hb1, if_neg hz, if_neg hz, if_pos hb1, List.append_nil]
            have e1 : OutB (o ++ [r]) = some (.refs 1 [[.own 22 (o.map encPv ++ [encPv r])]]) := by unfold OutB; rw [app2]
            rw [e]
            unfold HpP
            dsimp only
            rw [e1]
            refine nK ?_
            refine s_reg rfl ?_
            refine Run.pure (dd := some 32) rfl rfl (op_fld_ptr (by decide) rfl (Opd.tmp _ _ rfl)) ?_
            refine Run.load (dd := some 33) rfl rfl (op_load1_flat rfl (Opd.tmp _ _ rfl) tH rfl) ?_
            refine Run.pure (dd := some 34) rfl rfl (op_fld_ptr (by decide) rfl (Opd.tmp _ _ rfl)) ?_
            refine Run.load (dd := some 35) rfl rfl (op_load1_flat rfl (Opd.tmp _ _ rfl) tH rfl) ?_
            refine Run.pure (dd := some 36) rfl rfl (op_neq rfl (Opd.tmp _ _ rfl) (Opd.tmp _ _ rfl)) ?_
            refine Run.pure (dd := some 37) rfl rfl (op_move rfl (Opd.tmp _ _ rfl)) ?_
            refine Run.pureG (dd := some 38) rfl rfl rfl tG (op_fld_ptr (by decide) rfl (Opd.tmp _ _ rfl)) ?_
            refine Run.loadG (dd := some 39) rfl rfl rfl tG (op_load1_flat rfl (Opd.topt _ _ _ rfl tO) tH rfl) ?_
            refine Run.pureG (dd := some 40) rfl rfl rfl tG (op_fld_ptr (by decide) rfl (Opd.tmp _ _ rfl)) ?_
            refine Run.loadG (dd := some 41) rfl rfl rfl tG (op_load1_flat rfl (Opd.topt _ _ _ rfl tO) tH rfl) ?_
            refine Run.pureG (dd := some 42) rfl rfl rfl tG (op_neq rfl (Opd.topt _ _ _ rfl tO) (Opd.topt _ _ _ rfl tO)) ?_
            refine Run.pure (dd := some 43) rfl rfl (op_pick_or rfl (Opd.tmp _ _ rfl) (Opd.topt _ _ _ rfl tO)) ?_
            refine Run.pure (dd := some 44) rfl rfl (op_move rfl (Opd.tmp _ _ rfl)) ?_
            refine Run.pureG (dd := some 45) rfl rfl rfl tG (op_fld_ptr (by decide) rfl (Opd.tmp _ _ rfl)) ?_
            refine Run.loadG (dd := some 46) rfl rfl rfl tG (op_loadn_flat rfl (Opd.topt _ _ _ rfl tO) tH tR tR) ?_
            refine Run.pureG (dd := some 47) rfl rfl rfl tG (op_fld_ptr (by decide) rfl (Opd.tmp _ _ rfl)) ?_
            refine Run.loadG (dd := some 48) rfl rfl rfl tG (op_loadn_flat rfl (Opd.topt _ _ _ rfl tO) tH tR tR) ?_
            refine Run.pureG (dd := some 49) rfl rfl rfl tG (op_call_pure (fun _ => ks) rfl (Opd.func _) (Opds.cons _ _ _ _ (Opd.topt _ _ _ rfl tO) (Opds.cons _ _ _ _ (Opd.topt _ _ _ rfl tO) Opds.nil))) ?_
            refine Run.pureG (dd := some 50) rfl rfl rfl tG (op_not rfl (Opd.topt _ _ _ rfl tO)) ?_
            refine Run.pure (dd := some 51) rfl rfl (op_pick_or rfl (Opd.tmp _ _ rfl) (Opd.topt _ _ _ rfl tO)) ?_
            refine Run.eff (dd := none) rfl rfl (op_store_flat rfl (Opd.tmp _ _ rfl) (Opd.tmp _ _ rfl) tC rfl rfl (by first | rfl | assumption) tS) ?_
            refine Run.nil (FinR.mk ?_)
            refine nK ?_
            refine Next.untake 1 0 0 rfl rfl rfl rfl (by simp) rfl ?_
            refine Next.weak [0, 1, 2, 3, 4] [] (by rfl) (keepsN hC _ rfl) (G' := []) (H' := [(0, ORec { rc with state := .busy }), (1, some (.refs 1 [[.own 22 (o.map encPv ++ [encPv r])]])), (2, OFl (chgV x r)), (3, OFl (true)), (4, OPv1 r)]) trivial (by exact ⟨ent_same rfl rfl rfl tL, ⟨ent_same rfl rfl rfl tL, ⟨ent_same rfl rfl rfl tL, ⟨ent_same rfl rfl rfl tL, ⟨ent_same rfl rfl rfl tL, trivial⟩⟩⟩⟩⟩) (fun _ h => by simp at h) (s_rout (e := .normal) (j := none) rfl)
        · have hb1 : ¬ (decide (0 ≤ ordV x r) && !d) = true := by
            have hb' : (decide (0 ≤ ordV x r) && !d) = false := hb
            rw [hb']; decide
          refine nK ?_
          refine s_reg rfl ?_
          refine Run.pure (dd := some 26) rfl rfl (op_move rfl (Opd.tmp _ _ rfl)) ?_
          refine Run.pure (dd := some 27) rfl rfl (op_neq rfl (Opd.tmp _ _ rfl) (Opd.const _)) ?_
          refine Run.nil (FinR.mk ?_)
          refine nK ?_
          refine n_cond _ rfl (fun hb => ?_) (fun hb => ?_)
          · have hz : ordV x r ≠ 0 := by simpa using hb
            have e : putS r (o, c, d) x = (o ++ [x], c, d) := by simp only [putS]; rw [if_neg hb1, if_pos hz, if_pos hz, if_neg hb1]
            have e1 : OutB (o ++ [x]) = some (.refs 1 [[.own 22 (o.map encPv ++ [encPv x])]]) := by unfold OutB; rw [app2]
            rw [e]
            unfold HpP
            dsimp only
            rw [e1]
            refine nK ?_
            refine s_reg rfl ?_
            refine Run.load (dd := some 28) rfl rfl (op_load1_refs rfl (Opd.tmp _ _ rfl) tH rfl) ?_
            refine Run.load (dd := some 29) rfl rfl (op_loadw_flat rfl (Opd.tmp _ _ rfl) tH rfl) ?_
            refine Run.pure (dd := some 30) rfl rfl (op_buildSlice_fz rfl (RowsF.cons _ _ _ _ _ _ (Opd.tmp _ _ rfl) tC (by rfl) (RowsF.nil _)) rfl rfl) ?_
            refine Run.eff (dd := some 31) rfl rfl (op_append rfl (Opd.tmp _ _ rfl) (Opd.tmp _ _ rfl) rfl (by simp) rfl rfl tB tB) ?_
            refine Run.eff (dd := none) rfl rfl (op_store_refs rfl (Opd.tmp _ _ rfl) (Opd.tmp _ _ rfl) tP rfl rfl rfl tS) ?_
            refine Run.nil (FinR.mk ?_)
            refine nK ?_
            refine Next.untake 1 0 0 rfl rfl rfl rfl (by simp) rfl ?_
            refine Next.weak [0, 1, 2, 3, 4] [] (by rfl) (keepsN hC _ rfl) (G' := []) (H' := [(0, ORec { rc with state := .busy }), (1, some (.refs 1 [[.own 22 (o.map encPv ++ [encPv x])]])), (2, OFl (c)), (3, OFl (d)), (4, OPv1 r)]) trivial (by exact ⟨ent_same rfl rfl rfl tL, ⟨ent_same rfl rfl rfl tL, ⟨ent_same rfl rfl rfl tL, ⟨ent_same rfl rfl rfl tL, ⟨ent_same rfl rfl rfl tL, trivial⟩⟩⟩⟩⟩) (fun _ h => by simp at h) (s_rout (e := .normal) (j := none) rfl)
          · have hz : ¬ ordV x r ≠ 0 := by simpa using hb
            have e : putS r (o, c, d) x = (o, chgV x r, d) := by simp only [putS]; rw [if_neg hb1, if_neg hz, if_neg hz, if_neg hb1, List.append_nil]
            rw [e]
            unfold HpP
            dsimp only
            refine nK ?_
            refine s_reg rfl ?_
            refine Run.pure (dd := some 32) rfl rfl (op_fld_ptr (by decide) rfl (Opd.tmp _ _ rfl)) ?_
            refine Run.load (dd := some 33) rfl rfl (op_load1_flat rfl (Opd.tmp _ _ rfl) tH rfl) ?_
            refine Run.pure (dd := some 34) rfl rfl (op_fld_ptr (by decide) rfl (Opd.tmp _ _ rfl)) ?_
            refine Run.load (dd := some 35) rfl rfl (op_load1_flat rfl (Opd.tmp _ _ rfl) tH rfl) ?_
            refine Run.pure (dd := some 36) rfl rfl (op_neq rfl (Opd.tmp _ _ rfl) (Opd.tmp _ _ rfl)) ?_
            refine Run.pure (dd := some 37) rfl rfl (op_move rfl (Opd.tmp _ _ rfl)) ?_
            refine Run.pureG (dd := some 38) rfl rfl rfl tG (op_fld_ptr (by decide) rfl (Opd.tmp _ _ rfl)) ?_
            refine Run.loadG (dd := some 39) rfl rfl rfl tG (op_load1_flat rfl (Opd.topt _ _ _ rfl tO) tH rfl) ?_
            refine Run.pureG (dd := some 40) rfl rfl rfl tG (op_fld_ptr (by decide) rfl (Opd.tmp _ _ rfl)) ?_
            refine Run.loadG (dd := some 41) rfl rfl rfl tG (op_load1_flat rfl (Opd.topt _ _ _ rfl tO) tH rfl) ?_
            refine Run.pureG (dd := some 42) rfl rfl rfl tG (op_neq rfl (Opd.topt _ _ _ rfl tO) (Opd.topt _ _ _ rfl tO)) ?_
            refine Run.pure (dd := some 43) rfl rfl (op_pick_or rfl (Opd.tmp _ _ rfl) (Opd.topt _ _ _ rfl tO)) ?_
            refine Run.pure (dd := some 44) rfl rfl (op_move rfl (Opd.tmp _ _ rfl)) ?_
            refine Run.pureG (dd := some 45) rfl rfl rfl tG (op_fld_ptr (by decide) rfl (Opd.tmp _ _ rfl)) ?_
            refine Run.loadG (dd := some 46) rfl rfl rfl tG (op_loadn_flat rfl (Opd.topt _ _ _ rfl tO) tH tR tR) ?_
            refine Run.pureG (dd := some 47) rfl rfl rfl tG (op_fld_ptr (by decide) rfl (Opd.tmp _ _ rfl)) ?_
            refine Run.loadG (dd := some 48) rfl rfl rfl tG (op_loadn_flat rfl (Opd.topt _ _ _ rfl tO) tH tR tR) ?_
            refine Run.pureG (dd := some 49) rfl rfl rfl tG (op_call_pure (fun _ => ks) rfl (Opd.func _) (Opds.cons _ _ _ _ (Opd.topt _ _ _ rfl tO) (Opds.cons _ _ _ _ (Opd.topt _ _ _ rfl tO) Opds.nil))) ?_
            refine Run.pureG (dd := some 50) rfl rfl rfl tG (op_not rfl (Opd.topt _ _ _ rfl tO)) ?_
            refine Run.pure (dd := some 51) rfl rfl (op_pick_or rfl (Opd.tmp _ _ rfl) (Opd.topt _ _ _ rfl tO)) ?_
            refine Run.eff (dd := none) rfl rfl (op_store_flat rfl (Opd.tmp _ _ rfl) (Opd.tmp _ _ rfl) tC rfl rfl (by first | rfl | assumption) tS) ?_
            refine Run.nil (FinR.mk ?_)
            refine nK ?_
            refine Next.untake 1 0 0 rfl rfl rfl rfl (by simp) rfl ?_
            refine Next.weak [0, 1, 2, 3, 4] [] (by rfl) (keepsN hC _ rfl) (G' := []) (H' := [(0, ORec { rc with state := .busy }), (1, some (.refs 1 [[.own 22 (o.map encPv)]])), (2, OFl (chgV x r)), (3, OFl (d)), (4, OPv1 r)]) trivial (by exact ⟨ent_same rfl rfl rfl tL, ⟨ent_same rfl rfl rfl tL, ⟨ent_same rfl rfl rfl tL, ⟨ent_same rfl rfl rfl tL, ⟨ent_same rfl rfl rfl tL, trivial⟩⟩⟩⟩⟩) (fun _ h => by simp at h) (s_rout (e := .normal) (j := none) rfl))
      have e : endR rc none = rc := endR_none h1 h2
      have hw2 : MeetsD (DY Try.prog) [.yl 0 rc.tmps (putT l), .fz (.agg (encPv x))] 5 (HpP rc r (o, c, d)) (.fz (Bf true)) ((0, ORec (endR rc none)) :: HpP { rc with state := .busy } r (putS r (o, c, d) x)) 5 := hw
      rw [e] at hw2
      refine hw2.keepH DY.mono fun i o' h => ?_
      unfold HpP at h ⊢
      simp only [hlook_cons] at h ⊢
      by_cases e0 : 0 = i
      · simpa [e0] using h
      · simpa [e0] using h
    have hm := allP_c l h hn r rc (putT l) rfl rfl hR
    have e : endR rc none = rc := endR_none h1 h2
    show Meets _ _ _ _ (HpP rc r ([], true, false)) _ ((0, ORec (endR rc none)) :: [(1, OutB (putG r l).1), (2, OFl (putG r l).2.1), (3, OFl (putG r l).2.2), (4, OPv1 r)]) 5
    rw [e]
    exact hm
  · generalize putG r l = g at *
    obtain ⟨o, c, d⟩ := g
    dsimp only at hgl ⊢
    refine Next.take 1 0 0 rfl rfl rfl rfl ?_
    refine nK ?_
    refine s_reg rfl ?_
    refine Run.load (dd := some 52) rfl rfl (op_load1_flat rfl (Opd.tmp _ _ rfl) tH rfl) ?_
    refine Run.pure (dd := some 53) rfl rfl (op_not rfl (Opd.tmp _ _ rfl)) ?_
    refine Run.nil (FinR.mk ?_)
    refine nK ?_
    refine n_cond _ rfl (fun hb => ?_) (fun hb => ?_)
    · have hd : d = false := by simpa using hb
      subst hd
      rw [if_neg (by decide), show VPv (o ++ [r]) = .vals 22 (o.map encPv ++ [encPv r]) by unfold VPv; rw [app2]]
      refine nK ?_
      refine s_draw mixed ?_
      refine Run.load (dd := some 54) rfl rfl (op_load1_refs rfl (Opd.tmp _ _ rfl) tH rfl) ?_
      refine Run.load (dd := some 55) rfl rfl (op_loadw_flat rfl (Opd.tmp _ _ rfl) tH rfl) ?_
      refine Run.pure (dd := some 56) rfl rfl (op_call_pure (fun _ => kr) rfl (Opd.func _) (Opds.cons _ _ _ _ (Opd.tmp _ _ rfl) Opds.nil)) ?_
      refine Run.pure (dd := some 57) rfl rfl (op_buildSlice_fz rfl (RowsF.cons _ _ _ _ _ _ (Opd.tmp _ _ rfl) tC (by rfl) (RowsF.nil _)) rfl rfl) ?_
      refine Run.effW (dd := some 58) rfl rfl (op_append rfl (Opd.tmp _ _ rfl) (Opd.tmp _ _ rfl) rfl (by simp) rfl rfl tB tB) tE ?_
      refine Run.effW (dd := none) rfl rfl (op_store_refs rfl (Opd.tmp _ _ rfl) (Opd.tmp _ _ rfl) tP rfl rfl rfl tS) tE ?_
      refine Run.nil (FinD.mk (by kernel_rfl) ?_)
      refine nK ?_
      refine s_draw mixed ?_
      refine Run.load (dd := some 59) rfl rfl (op_load1_refs rfl (Opd.tmp _ _ rfl) tH rfl) ?_
      refine Run.load (dd := some 60) rfl rfl (op_load1_flat rfl (Opd.tmp _ _ rfl) tH rfl) ?_
      refine Run.effW (dd := none) rfl rfl (op_store_refs rfl (Opd.tmp _ _ rfl) (Opd.tmp _ _ rfl) tP rfl rfl rfl tS) tE ?_
      refine Run.effW (dd := none) rfl rfl (op_store_flat rfl (Opd.tmp _ _ rfl) (Opd.tmp _ _ rfl) tC rfl rfl (by first | rfl | assumption) tS) tE ?_
      refine Run.nil (FinD.mk (by kernel_rfl) ?_)
      refine nK ?_
      refine s_tail hA hdf ?_
      refine Next.weak [1, 2] [7] (by rfl) (keeps0 hC _) (G' := [(4, .ptr 0 1 0 0), (5, .ptr 1 1 0 0)]) (H' := [(0, some (.flat 1 [[.vals 22 (o.map encPv ++ [encPv r])]])), (1, OFl c)]) (by repeat (first | exact trivial | refine ⟨⟨_, rfl, .inl ⟨rfl, rfl⟩⟩, ?_⟩ | refine ⟨⟨_, rfl, .inl ⟨slEq rfl tN, rfl⟩⟩, ?_⟩ | refine ⟨⟨_, rfl, .inl ⟨ivEq tX, rfl⟩⟩, ?_⟩)) (by exact ⟨⟨rfl, rfl, .flat _ _ _ rfl tW⟩, ⟨ent_same rfl rfl rfl tL, trivial⟩⟩) (fun id h => by obtain rfl : id = 7 := (by simpa using h); exact ⟨_, rfl⟩) ?_
      (first | exact s_o1 hC rfl tV | exact s_o2 hC rfl tV tV | exact s_o3 hC rfl tV tV tV | exact s_o4 hC rfl tV tV tV tV | exact s_out0 hC rfl | exact s_outO hC rfl rfl rfl)
    · have hd : d = true := by simpa using hb
      subst hd
      rw [if_pos rfl]
      refine nK ?_
      refine s_draw mixed ?_
      refine Run.load (dd := some 59) rfl rfl (op_load1_refs rfl (Opd.tmp _ _ rfl) tH rfl) ?_
      refine Run.load (dd := some 60) rfl rfl (op_load1_flat rfl (Opd.tmp _ _ rfl) tH rfl) ?_
      refine Run.effW (dd := none) rfl rfl (op_store_refs rfl (Opd.tmp _ _ rfl) (Opd.tmp _ _ rfl) tP rfl rfl rfl tS) tE ?_
      refine Run.effW (dd := none) rfl rfl (op_store_flat rfl (Opd.tmp _ _ rfl) (Opd.tmp _ _ rfl) tC rfl rfl (by first | rfl | assumption) tS) tE ?_
      refine Run.nil (FinD.mk (by kernel_rfl) ?_)
      refine nK ?_
      refine s_tail hA hdf ?_
      refine Next.weak [1, 2] [6] (by rfl) (keeps0 hC _) (G' := [(4, .ptr 0 1 0 0), (5, .ptr 1 1 0 0)]) (H' := [(0, some (.flat 1 [[VPv o]])), (1, OFl c)]) (by repeat (first | exact trivial | refine ⟨⟨_, rfl, .inl ⟨rfl, rfl⟩⟩, ?_⟩ | refine ⟨⟨_, rfl, .inl ⟨slEq rfl tN, rfl⟩⟩, ?_⟩ | refine ⟨⟨_, rfl, .inl ⟨ivEq tX, rfl⟩⟩, ?_⟩)) (by exact ⟨⟨rfl, rfl, .flat _ _ _ rfl tW⟩, ⟨ent_same rfl rfl rfl tL, trivial⟩⟩) (fun id h => by obtain rfl : id = 6 := (by simpa using h); exact ⟨_, rfl⟩) ?_
      (first | exact s_o1 hC rfl tV | exact s_o2 hC rfl tV tV | exact s_o3 hC rfl tV tV tV | exact s_o4 hC rfl tV tV tV tV | exact s_out0 hC rfl | exact s_outO hC rfl rfl rfl)
open Go Go.RT Go.Proofs Go.Pl
set_option maxRecDepth 20000
set_option maxHeartbeats 4000000
theorem chg_same {x r : Pvr} (h : ordV x r = 0) : (!decide ({ x with st := r.st } = r)) = chgV x r := by
  obtain ⟨h1, h2⟩ := (ordV_zero x r).1 h
  rw [eqFs_at]
  unfold chgV
  simp only [h1, h2]
  by_cases a : x.kd = r.kd <;> by_cases b : x.ro = r.ro <;> by_cases c : x.t = r.t <;> simp [a, b, c]
theorem rput_c (l : List Pvr) (r : Pvr) (h : ∀ r ∈ l, okPv r) (hr : okPv r) (hn : l.length ≤ 9000) : Pure Try.prog 16 [VPv l, .agg (encPv r)] (.tup [VPv (putF l r).1, Bf (putF l r).2]) := by
  have kr := rclone_c r hr
  unfold putF
  refine Meets.intro Try.func16 rfl (Nat.le_of_ble_eq_true rfl) fun C hC => ?_
  simp only [List.map, argEnv, Nat.reduceAdd]
  refine nK ?_
  refine s_reg rfl ?_
  refine Run.eff (dd := some 3) rfl rfl (op_box_flat rfl (Opd.tmp _ _ rfl) tC rfl) ?_
  refine Run.pure (dd := some 4) rfl rfl (op_assign rfl (Opd.const _)) ?_
  refine Run.pure (dd := some 5) rfl rfl (op_assign rfl (Opd.const _)) ?_
  refine Run.nil (FinR.mk ?_)
  refine nK ?_
  refine s_reg rfl ?_
  refine Run.pure (dd := some 6) rfl rfl (op_assign rfl (Opd.const _)) ?_
  refine Run.nil (FinR.mk ?_)
  refine nK ?_
  refine Next.adopt 6 22 rfl ?_
  refine nK ?_
  refine s_reg rfl ?_
  refine Run.pure (dd := some 7) rfl rfl (op_assign rfl (Opd.const _)) ?_
  refine Run.pure (dd := some 8) rfl rfl (op_assign rfl (Opd.const _)) ?_
  refine Run.nil (FinR.mk ?_)
  refine nK ?_
  refine s_reg rfl ?_
  refine Run.pure (dd := some 12) rfl rfl (op_move rfl (Opd.tmp _ _ rfl)) ?_
  refine Run.pure (dd := some 13) rfl rfl (op_len_fz rfl (by first | exact Opd.tmp _ _ rfl | exact Opd.nil _ _ (Opd.tmp _ _ rfl)) (by first | exact List.length_map _ | rfl)) ?_
  refine Run.pure (dd := some 14) rfl rfl (op_move rfl (Opd.const _)) ?_
  refine Run.nil (FinR.mk ?_)
  refine nK ?_
  refine n_loop (ι := Nat × PSt) (fun g => ([(3, .ptr 0 22 0 0), (6, .sl 1 22 0 g.2.1.length), (7, BV g.2.2.1), (8, BV g.2.2.2), (12, .fz (VPv l)), (13, IV .i64 l.length), (14, IV .i64 g.1)], [(0, OPv1 r), (1, OPv g.2.1)], 2)) (fun g => g.1 ≤ l.length ∧ g.2 = putG r (l.take g.1)) (fun g => l.length - g.1) (0, ([], true, false)) ⟨Nat.zero_le _, by simp [putG]⟩ ?_ ?_
  · refine Next.weakS [3, 6] [] (by rfl) (by first | exact keeps0 hC _ | exact keepsN hC _ rfl) (by repeat (first | exact trivial | refine ⟨⟨_, rfl, .inl ⟨rfl, rfl⟩⟩, ?_⟩ | refine ⟨⟨_, rfl, .inl ⟨slEq rfl tN, rfl⟩⟩, ?_⟩ | refine ⟨⟨_, rfl, .inl ⟨ivEq tX, rfl⟩⟩, ?_⟩)) (by repeat (first | exact trivial | refine ⟨ent_same rfl rfl rfl tL, ?_⟩ | refine ⟨ent_same rfl rfl (rfEq rfl tU) tL, ?_⟩ | refine ⟨ent_same rfl rfl (flEq rfl (by first | (simp; done) | (simp; omega) | (simp [encP, encPv, encAt, encSg, encTl, encW, encN, encY]; done) | simp [maxC, minC])) trivial, ?_⟩)) rfl (rel_intro)
  · intro ⟨i, o, c, d⟩ ⟨hi, hS⟩ K hK
    dsimp only at hi hS ⊢
    have hol := putG_len r l i hi
    rw [← hS] at hol
    dsimp only at hol
    have ho' : o.length ≤ 9100 := by omega
    refine nK ?_
    refine s_reg rfl ?_
    refine Run.pure (dd := some 15) rfl rfl (op_lss rfl (Opd.tmp _ _ rfl) (Opd.tmp _ _ rfl)) ?_
    refine Run.nil (FinR.mk ?_)
    refine nK ?_
    refine n_cond _ rfl (fun hb => ?_) (fun hb => ?_)
    · have hlt : i < l.length := by simp at hb; omega
      have hr1 := row_at' encPv l i hlt
      have hs := putG_take r hlt
      rw [← hS] at hs
      have hK1 := hK (i + 1, putS r (o, c, d) l[i]) ⟨by dsimp only; omega, hs.symm⟩ (by dsimp only; omega)
      dsimp only at hK1
      have ox := h _ (List.getElem_mem hlt)
      generalize l[i] = x at *
      have kx := rclone_c x ox
      have kc := order_c x r
      have ks := srt_c { x with st := r.st } r ⟨ox.px, ox.t, ox.pe, ox.kd, ox.ro⟩ hr
      refine nK ?_
      refine s_reg rfl ?_
      refine Run.pure (dd := some 16) rfl rfl (op_idx_fz _ rfl (Opd.tmp _ _ rfl) (Opd.tmp _ _ rfl) tF) ?_
      refine Run.pure (dd := some 17) rfl rfl (op_loadw_fz rfl (Opd.tmp _ _ rfl) rfl) ?_
      refine Run.eff (dd := some 10) rfl rfl (op_alloc rfl rfl rfl rfl) ?_
      refine Run.eff (dd := none) rfl rfl (op_store_flat rfl (Opd.tmp _ _ rfl) (Opd.tmp _ _ rfl) tC rfl rfl (by first | rfl | assumption) tS) ?_
      refine Run.nil (FinR.mk ?_)
      refine nK ?_
      refine s_reg rfl ?_
      refine Run.load (dd := some 18) rfl rfl (op_loadw_flat rfl (Opd.tmp _ _ rfl) tH rfl) ?_
      refine Run.load (dd := some 19) rfl rfl (op_loadw_flat rfl (Opd.tmp _ _ rfl) tH rfl) ?_
      refine Run.pure (dd := some 20) rfl rfl (op_call_pure (fun _ => kc) rfl (Opd.func _) (Opds.cons _ _ _ _ (Opd.tmp _ _ rfl) (Opds.cons _ _ _ _ (Opd.tmp _ _ rfl) Opds.nil))) ?_
      refine Run.pure (dd := some 11) rfl rfl (op_assign rfl (Opd.tmp _ _ rfl)) ?_
      refine Run.nil (FinR.mk ?_)
      refine nK ?_
      refine s_reg rfl ?_
      refine Run.pure (dd := some 21) rfl rfl (op_move rfl (Opd.tmp _ _ rfl)) ?_
      refine Run.pure (dd := some 22) rfl rfl (op_geq rfl (Opd.tmp _ _ rfl) (Opd.const _)) ?_
      refine Run.pure (dd := some 23) rfl rfl (op_move rfl (Opd.tmp _ _ rfl)) ?_
      refine Run.pureG (dd := some 24) rfl rfl rfl tG (op_move rfl (Opd.tmp _ _ rfl)) ?_
      refine Run.pureG (dd := some 25) rfl rfl rfl tG (op_not rfl (Opd.topt _ _ _ rfl tO)) ?_
      refine Run.pure (dd := some 26) rfl rfl (op_pick_and rfl (Opd.tmp _ _ rfl) (Opd.topt _ _ _ rfl tO)) ?_
      refine Run.nil (FinR.mk ?_)
      refine nK ?_
      refine n_cond _ rfl (fun hb => ?_) (fun hb => ?_)
      · have hb1 : (decide (0 ≤ ordV x r) && !d) = true := hb
        refine nK ?_
        refine s_reg rfl ?_
        refine Run.pure (dd := some 27) rfl rfl (op_move rfl (Opd.tmp _ _ rfl)) ?_
        refine Run.load (dd := some 28) rfl rfl (op_loadw_flat rfl (Opd.tmp _ _ rfl) tH rfl) ?_
        refine Run.pure (dd := some 29) rfl rfl (op_call_pure (fun _ => kr) rfl (Opd.func _) (Opds.cons _ _ _ _ (Opd.tmp _ _ rfl) Opds.nil)) ?_
        refine Run.pure (dd := some 30) rfl rfl (op_buildSlice_fz rfl (RowsF.cons _ _ _ _ _ _ (Opd.tmp _ _ rfl) tC (by rfl) (RowsF.nil _)) rfl rfl) ?_
        refine Run.eff (dd := some 31) rfl rfl (op_append rfl (Opd.tmp _ _ rfl) (Opd.tmp _ _ rfl) rfl (by simp) rfl rfl tB tB) ?_
        refine Run.pure (dd := some 6) rfl rfl (op_assign rfl (Opd.tmp _ _ rfl)) ?_
        refine Run.nil (FinR.mk ?_)
        refine nK ?_
        refine s_reg rfl ?_
        refine Run.pure (dd := some 8) rfl rfl (op_assign rfl (Opd.const _)) ?_
        refine Run.nil (FinR.mk ?_)
        refine nK ?_
        refine s_reg rfl ?_
        refine Run.pure (dd := some 32) rfl rfl (op_move rfl (Opd.tmp _ _ rfl)) ?_
        refine Run.pure (dd := some 33) rfl rfl (op_neq rfl (Opd.tmp _ _ rfl) (Opd.const _)) ?_
        refine Run.nil (FinR.mk ?_)
        refine nK ?_
        refine n_cond _ rfl (fun hb => ?_) (fun hb => ?_)
        · have hz : ordV x r ≠ 0 := by simpa using hb
          have e : putS r (o, c, d) x = ((o ++ [r]) ++ [x], c, true) := by simp only [putS]; rw [if_pos hb1, if_pos hz, if_pos hz, if_pos hb1]
          rw [e] at hK1
          dsimp only at hK1
          unfold OPv at hK1
          rw [app1, app1, app2, app2] at hK1
          refine nK ?_
          refine s_reg rfl ?_
          refine Run.pure (dd := some 34) rfl rfl (op_move rfl (Opd.tmp _ _ rfl)) ?_
          refine Run.load (dd := some 35) rfl rfl (op_loadw_flat rfl (Opd.tmp _ _ rfl) tH rfl) ?_
          refine Run.pure (dd := some 36) rfl rfl (op_call_pure (fun _ => kx) rfl (Opd.func _) (Opds.cons _ _ _ _ (Opd.tmp _ _ rfl) Opds.nil)) ?_
          refine Run.pure (dd := some 37) rfl rfl (op_buildSlice_fz rfl (RowsF.cons _ _ _ _ _ _ (Opd.tmp _ _ rfl) tC (by rfl) (RowsF.nil _)) rfl rfl) ?_
          refine Run.eff (dd := some 38) rfl rfl (op_append rfl (Opd.tmp _ _ rfl) (Opd.tmp _ _ rfl) rfl (by simp) rfl rfl tB tB) ?_
          refine Run.pure (dd := some 6) rfl rfl (op_assign rfl (Opd.tmp _ _ rfl)) ?_
          refine Run.nil (FinR.mk ?_)
          refine nK ?_
          refine s_reg rfl ?_
          refine Run.pure (dd := some 46) rfl rfl (op_add rfl (Opd.tmp _ _ rfl) (Opd.const _) tI) ?_
          refine Run.pure (dd := some 14) rfl rfl (op_move rfl (Opd.tmp _ _ rfl)) ?_
          refine Run.nil (FinR.mk ?_)
          refine nK ?_
          refine Next.weakS [3, 6] [] (by rfl) (by first | exact keeps0 hC _ | exact keepsN hC _ rfl) (by repeat (first | exact trivial | refine ⟨⟨_, rfl, .inl ⟨rfl, rfl⟩⟩, ?_⟩ | refine ⟨⟨_, rfl, .inl ⟨slEq rfl tN, rfl⟩⟩, ?_⟩ | refine ⟨⟨_, rfl, .inl ⟨ivEq tX, rfl⟩⟩, ?_⟩)) (by repeat (first | exact trivial | refine ⟨ent_same rfl rfl rfl tL, ?_⟩ | refine ⟨ent_same rfl rfl (rfEq rfl tU) tL, ?_⟩ | refine ⟨ent_same rfl rfl (flEq rfl (by first | (simp; done) | (simp; omega) | (simp [encP, encPv, encAt, encSg, encTl, encW, encN, encY]; done) | simp [maxC, minC])) trivial, ?_⟩)) rfl (hK1)
        · have hz : ¬ ordV x r ≠ 0 := by simpa using hb
          have e : putS r (o, c, d) x = ((o ++ [r]), chgV x r, true) := by simp only [putS]; rw [if_pos hb1, if_neg hz, if_neg hz, if_pos hb1, List.append_nil]
          rw [e, ← chg_same (by simpa using hb)] at hK1
          dsimp only at hK1
          unfold OPv at hK1
          rw [app1, app2] at hK1
          refine nK ?_
          refine s_reg rfl ?_
          refine Run.pure (dd := some 39) rfl rfl (op_fld_ptr (by decide) rfl (Opd.tmp _ _ rfl)) ?_
          refine Run.load (dd := some 40) rfl rfl (op_load1_flat rfl (Opd.tmp _ _ rfl) tH rfl) ?_
          refine Run.pure (dd := some 41) rfl rfl (op_fld_ptr (by decide) rfl (Opd.tmp _ _ rfl)) ?_
          refine Run.eff (dd := none) rfl rfl (op_store_flat rfl (Opd.tmp _ _ rfl) (Opd.tmp _ _ rfl) tC rfl rfl (by first | rfl | assumption) tS) ?_
          refine Run.nil (FinR.mk ?_)
          refine nK ?_
          refine s_reg rfl ?_
          refine Run.load (dd := some 42) rfl rfl (op_loadw_flat rfl (Opd.tmp _ _ rfl) tH rfl) ?_
          refine Run.load (dd := some 43) rfl rfl (op_loadw_flat rfl (Opd.tmp _ _ rfl) tH rfl) ?_
          refine Run.pure (dd := some 44) rfl rfl (op_call_pure (fun _ => ks) rfl (Opd.func _) (Opds.cons _ _ _ _ (Opd.tmp _ _ rfl) (Opds.cons _ _ _ _ (Opd.tmp _ _ rfl) Opds.nil))) ?_
          refine Run.pure (dd := some 45) rfl rfl (op_not rfl (Opd.tmp _ _ rfl)) ?_
          refine Run.pure (dd := some 7) rfl rfl (op_assign rfl (Opd.tmp _ _ rfl)) ?_
          refine Run.nil (FinR.mk ?_)
          refine nK ?_
          refine s_reg rfl ?_
          refine Run.pure (dd := some 46) rfl rfl (op_add rfl (Opd.tmp _ _ rfl) (Opd.const _) tI) ?_
          refine Run.pure (dd := some 14) rfl rfl (op_move rfl (Opd.tmp _ _ rfl)) ?_
          refine Run.nil (FinR.mk ?_)
          refine nK ?_
          refine Next.weakS [3, 6] [] (by rfl) (by first | exact keeps0 hC _ | exact keepsN hC _ rfl) (by repeat (first | exact trivial | refine ⟨⟨_, rfl, .inl ⟨rfl, rfl⟩⟩, ?_⟩ | refine ⟨⟨_, rfl, .inl ⟨slEq rfl tN, rfl⟩⟩, ?_⟩ | refine ⟨⟨_, rfl, .inl ⟨ivEq tX, rfl⟩⟩, ?_⟩)) (by repeat (first | exact trivial | refine ⟨ent_same rfl rfl rfl tL, ?_⟩ | refine ⟨ent_same rfl rfl (rfEq rfl tU) tL, ?_⟩ | refine ⟨ent_same rfl rfl (flEq rfl (by first | (simp; done) | (simp; omega) | (simp [encP, encPv, encAt, encSg, encTl, encW, encN, encY]; done) | simp [maxC, minC])) trivial, ?_⟩)) rfl (hK1)
      · have hb1 : ¬ (decide (0 ≤ ordV x r) && !d) = true := by
          have hb' : (decide (0 ≤ ordV x r) && !d) = false := hb
          rw [hb']; decide
        refine nK ?_
        refine s_reg rfl ?_
        refine Run.pure (dd := some 32) rfl rfl (op_move rfl (Opd.tmp _ _ rfl)) ?_
        refine Run.pure (dd := some 33) rfl rfl (op_neq rfl (Opd.tmp _ _ rfl) (Opd.const _)) ?_
        refine Run.nil (FinR.mk ?_)
        refine nK ?_
        refine n_cond _ rfl (fun hb => ?_) (fun hb => ?_)
        · have hz : ordV x r ≠ 0 := by simpa using hb
          have e : putS r (o, c, d) x = (o ++ [x], c, d) := by simp only [putS]; rw [if_neg hb1, if_pos hz, if_pos hz, if_neg hb1]
          rw [e] at hK1
          dsimp only at hK1
          unfold OPv at hK1
          rw [app1, app2] at hK1
          refine nK ?_
          refine s_reg rfl ?_
          refine Run.pure (dd := some 34) rfl rfl (op_move rfl (Opd.tmp _ _ rfl)) ?_
          refine Run.load (dd := some 35) rfl rfl (op_loadw_flat rfl (Opd.tmp _ _ rfl) tH rfl) ?_
          refine Run.pure (dd := some 36) rfl rfl (op_call_pure (fun _ => kx) rfl (Opd.func _) (Opds.cons _ _ _ _ (Opd.tmp _ _ rfl) Opds.nil)) ?_
          refine Run.pure (dd := some 37) rfl rfl (op_buildSlice_fz rfl (RowsF.cons _ _ _ _ _ _ (Opd.tmp _ _ rfl) tC (by rfl) (RowsF.nil _)) rfl rfl) ?_
          refine Run.eff (dd := some 38) rfl rfl (op_append rfl (Opd.tmp _ _ rfl) (Opd.tmp _ _ rfl) rfl (by simp) rfl rfl tB tB) ?_
          refine Run.pure (dd := some 6) rfl rfl (op_assign rfl (Opd.tmp _ _ rfl)) ?_
          refine Run.nil (FinR.mk ?_)
          refine nK ?_
          refine s_reg rfl ?_
          refine Run.pure (dd := some 46) rfl rfl (op_add rfl (Opd.tmp _ _ rfl) (Opd.const _) tI) ?_
          refine Run.pure (dd := some 14) rfl rfl (op_move rfl (Opd.tmp _ _ rfl)) ?_
          refine Run.nil (FinR.mk ?_)
          refine nK ?_
          refine Next.weakS [3, 6] [] (by rfl) (by first | exact keeps0 hC _ | exact keepsN hC _ rfl) (by repeat (first | exact trivial | refine ⟨⟨_, rfl, .inl ⟨rfl, rfl⟩⟩, ?_⟩ | refine ⟨⟨_, rfl, .inl ⟨slEq rfl tN, rfl⟩⟩, ?_⟩ | refine ⟨⟨_, rfl, .inl ⟨ivEq tX, rfl⟩⟩, ?_⟩)) (by repeat (first | exact trivial | refine ⟨ent_same rfl rfl rfl tL, ?_⟩ | refine ⟨ent_same rfl rfl (rfEq rfl tU) tL, ?_⟩ | refine ⟨ent_same rfl rfl (flEq rfl (by first | (simp; done) | (simp; omega) | (simp [encP, encPv, encAt, encSg, encTl, encW, encN, encY]; done) | simp [maxC, minC])) trivial, ?_⟩)) rfl (hK1)
        · have hz : ¬ ordV x r ≠ 0 := by simpa using hb
          have e : putS r (o, c, d) x = (o, chgV x r, d) := by simp only [putS]; rw [if_neg hb1, if_neg hz, if_neg hz, if_neg hb1, List.append_nil]
          rw [e, ← chg_same (by simpa using hb)] at hK1
          dsimp only at hK1
          refine nK ?_
          refine s_reg rfl ?_
          refine Run.pure (dd := some 39) rfl rfl (op_fld_ptr (by decide) rfl (Opd.tmp _ _ rfl)) ?_
          refine Run.load (dd := some 40) rfl rfl (op_load1_flat rfl (Opd.tmp _ _ rfl) tH rfl) ?_
          refine Run.pure (dd := some 41) rfl rfl (op_fld_ptr (by decide) rfl (Opd.tmp _ _ rfl)) ?_
          refine Run.eff (dd := none) rfl rfl (op_store_flat rfl (Opd.tmp _ _ rfl) (Opd.tmp _ _ rfl) tC rfl rfl (by first | rfl | assumption) tS) ?_
          refine Run.nil (FinR.mk ?_)
          refine nK ?_
          refine s_reg rfl ?_
          refine Run.load (dd := some 42) rfl rfl (op_loadw_flat rfl (Opd.tmp _ _ rfl) tH rfl) ?_
          refine Run.load (dd := some 43) rfl rfl (op_loadw_flat rfl (Opd.tmp _ _ rfl) tH rfl) ?_
          refine Run.pure (dd := some 44) rfl rfl (op_call_pure (fun _ => ks) rfl (Opd.func _) (Opds.cons _ _ _ _ (Opd.tmp _ _ rfl) (Opds.cons _ _ _ _ (Opd.tmp _ _ rfl) Opds.nil))) ?_
          refine Run.pure (dd := some 45) rfl rfl (op_not rfl (Opd.tmp _ _ rfl)) ?_
          refine Run.pure (dd := some 7) rfl rfl (op_assign rfl (Opd.tmp _ _ rfl)) ?_
          refine Run.nil (FinR.mk ?_)
          refine nK ?_
          refine s_reg rfl ?_
          refine Run.pure (dd := some 46) rfl rfl (op_add rfl (Opd.tmp _ _ rfl) (Opd.const _) tI) ?_
          refine Run.pure (dd := some 14) rfl rfl (op_move rfl (Opd.tmp _ _ rfl)) ?_
          refine Run.nil (FinR.mk ?_)
          refine nK ?_
          refine Next.weakS [3, 6] [] (by rfl) (by first | exact keeps0 hC _ | exact keepsN hC _ rfl) (by repeat (first | exact trivial | refine ⟨⟨_, rfl, .inl ⟨rfl, rfl⟩⟩, ?_⟩ | refine ⟨⟨_, rfl, .inl ⟨slEq rfl tN, rfl⟩⟩, ?_⟩ | refine ⟨⟨_, rfl, .inl ⟨ivEq tX, rfl⟩⟩, ?_⟩)) (by repeat (first | exact trivial | refine ⟨ent_same rfl rfl rfl tL, ?_⟩ | refine ⟨ent_same rfl rfl (rfEq rfl tU) tL, ?_⟩ | refine ⟨ent_same rfl rfl (flEq rfl (by first | (simp; done) | (simp; omega) | (simp [encP, encPv, encAt, encSg, encTl, encW, encN, encY]; done) | simp [maxC, minC])) trivial, ?_⟩)) rfl (hK1)
    · have hie : i = l.length := by simp at hb; omega
      rw [hie, List.take_length] at hS
      rw [← hS]
      dsimp only
      clear hK hol
      refine nK ?_
      refine s_reg rfl ?_
      refine Run.pure (dd := some 47) rfl rfl (op_move rfl (Opd.tmp _ _ rfl)) ?_
      refine Run.pure (dd := some 48) rfl rfl (op_not rfl (Opd.tmp _ _ rfl)) ?_
      refine Run.nil (FinR.mk ?_)
      refine nK ?_
      refine n_cond _ rfl (fun hb => ?_) (fun hb => ?_)
      · have hd : d = false := by simpa using hb
        subst hd
        rw [if_neg (by decide), show VPv (o ++ [r]) = .vals 22 (o.map encPv ++ [encPv r]) by unfold VPv; rw [app2]]
        refine nK ?_
        refine s_reg rfl ?_
        refine Run.pure (dd := some 49) rfl rfl (op_move rfl (Opd.tmp _ _ rfl)) ?_
        refine Run.load (dd := some 50) rfl rfl (op_loadw_flat rfl (Opd.tmp _ _ rfl) tH rfl) ?_
        refine Run.pure (dd := some 51) rfl rfl (op_call_pure (fun _ => kr) rfl (Opd.func _) (Opds.cons _ _ _ _ (Opd.tmp _ _ rfl) Opds.nil)) ?_
        refine Run.pure (dd := some 52) rfl rfl (op_buildSlice_fz rfl (RowsF.cons _ _ _ _ _ _ (Opd.tmp _ _ rfl) tC (by rfl) (RowsF.nil _)) rfl rfl) ?_
        refine Run.eff (dd := some 53) rfl rfl (op_append rfl (Opd.tmp _ _ rfl) (Opd.tmp _ _ rfl) rfl (by simp) rfl rfl tB tB) ?_
        refine Run.pure (dd := some 6) rfl rfl (op_assign rfl (Opd.tmp _ _ rfl)) ?_
        refine Run.nil (FinR.mk ?_)
        refine nK ?_
        refine s_reg rfl ?_
        refine Run.pure (dd := some 54) rfl rfl (op_move rfl (Opd.tmp _ _ rfl)) ?_
        refine Run.pure (dd := some 55) rfl rfl (op_move rfl (Opd.tmp _ _ rfl)) ?_
        refine Run.pure (dd := some 4) rfl rfl (op_assign rfl (Opd.tmp _ _ rfl)) ?_
        refine Run.pure (dd := some 5) rfl rfl (op_assign rfl (Opd.tmp _ _ rfl)) ?_
        refine Run.nil (FinR.mk ?_)
        refine nK ?_
        refine Next.weakS [] [4] (by rfl) (keeps0 hC _) (G' := [(4, .fz (.vals 22 (o.map encPv ++ [encPv r]))), (5, BV c)]) (H' := []) (by repeat (first | exact trivial | refine ⟨⟨_, rfl, .inl ⟨rfl, rfl⟩⟩, ?_⟩ | refine ⟨⟨_, rfl, .inl ⟨slEq rfl tN, rfl⟩⟩, ?_⟩ | refine ⟨⟨_, rfl, .inl ⟨ivEq tX, rfl⟩⟩, ?_⟩ | refine ⟨⟨_, rfl, .inr ⟨_, rfl, tW⟩⟩, ?_⟩)) trivial rfl ?_
        (first | exact s_o1 hC rfl tV | exact s_o2 hC rfl tV tV | exact s_o3 hC rfl tV tV tV | exact s_o4 hC rfl tV tV tV tV | exact s_out0 hC rfl | exact s_outO hC rfl rfl rfl)
      · have hd : d = true := by simpa using hb
        subst hd
        rw [if_pos rfl]
        refine nK ?_
        refine s_reg rfl ?_
        refine Run.pure (dd := some 54) rfl rfl (op_move rfl (Opd.tmp _ _ rfl)) ?_
        refine Run.pure (dd := some 55) rfl rfl (op_move rfl (Opd.tmp _ _ rfl)) ?_
        refine Run.pure (dd := some 4) rfl rfl (op_assign rfl (Opd.tmp _ _ rfl)) ?_
        refine Run.pure (dd := some 5) rfl rfl (op_assign rfl (Opd.tmp _ _ rfl)) ?_
        refine Run.nil (FinR.mk ?_)
        refine nK ?_
        refine Next.weakS [] [4] (by rfl) (keeps0 hC _) (G' := [(4, .fz (VPv o)), (5, BV c)]) (H' := []) (by repeat (first | exact trivial | refine ⟨⟨_, rfl, .inl ⟨rfl, rfl⟩⟩, ?_⟩ | refine ⟨⟨_, rfl, .inl ⟨slEq rfl tN, rfl⟩⟩, ?_⟩ | refine ⟨⟨_, rfl, .inl ⟨ivEq tX, rfl⟩⟩, ?_⟩ | refine ⟨⟨_, rfl, .inr ⟨_, rfl, tW⟩⟩, ?_⟩)) trivial rfl ?_
        (first | exact s_o1 hC rfl tV | exact s_o2 hC rfl tV tV | exact s_o3 hC rfl tV tV tV | exact s_o4 hC rfl tV tV tV tV | exact s_out0 hC rfl | exact s_outO hC rfl rfl rfl)
end Go.Proofs.Ytfkcbglnadjnnaa
/- Sizes. No program in sight. -/
namespace Go.Pl
open Go Go.RT
set_option linter.all false
def flatS (p : List Seg) : List Int := p.flatMap (·.as')
theorem flatS_take {p : List Seg} {i : Nat} (h : i < p.length) : flatS (p.take (i + 1)) = flatS (p.take i) ++ p[i].as' := by
  unfold flatS
  rw [List.take_succ_eq_append_getElem h, List.flatMap_append]; simp
theorem flatS_le (p : List Seg) (i : Nat) : (flatS (p.take i)).length ≤ (flatS p).length := by
  have : flatS p = flatS (p.take i) ++ flatS (p.drop i) := by
    unfold flatS
    rw [← List.flatMap_append, List.take_append_drop]
  rw [this, List.length_append]; omega
def sumV (l : List Tlv) : Nat := (l.map fun t => t.v.length / 8).sum
theorem sumV_take {l : List Tlv} {i : Nat} (h : i < l.length) : sumV (l.take (i + 1)) = sumV (l.take i) + l[i].v.length / 8 := by
  unfold sumV
  rw [List.take_succ_eq_append_getElem h, List.map_append, List.sum_append]; simp
theorem sumV_le {l : List Tlv} (h : ∀ t ∈ l, t.v.length ≤ 2000000) : ∀ i, i ≤ l.length → sumV (l.take i) ≤ i * 250000 := by
  intro i
  induction i with
  | zero => intro _; simp [sumV]
  | succ i ih =>
    intro hi
    rw [sumV_take (by omega)]
    have h1 := ih (by omega)
    have h2 := h _ (List.getElem_mem (by omega : i < l.length))
    omega
def baseN (a : Att) : Nat := a.pa.length + (flatS a.pa).length + a.co.length + a.cl.length + a.un.length
def sizeN (a : Att) : Nat := baseN a + sumV a.un
end Go.Pl
namespace Go.Proofs.Ytfkcbglnadjnnaa
open Go Go.RT Go.Proofs Go.Pl
set_option linter.all false
set_option maxRecDepth 20000
theorem flat_f (p : List Seg) (hn : p.length ≤ 2000000) (hf : (flatS p).length ≤ 2000000000000) : Meets Try.prog 86 ([VSg p].map PV.fz) 0 [] (.sl 0 1 0 (flatS p).length) [(0, some (.flat 1 ((flatS p).map encN)))] 1 := by
  have app2' : ∀ (o x : List Int), (o ++ x).map encN = o.map encN ++ x.map encN := fun o x => by simp
  refine Meets.intro Try.func86 rfl (Nat.le_of_ble_eq_true rfl) fun C hC => ?_
  simp only [List.map, argEnv, Nat.reduceAdd]
  refine nK ?_
  refine s_reg rfl ?_
  refine Run.pure (dd := some 2) rfl rfl (op_assign rfl (Opd.const _)) ?_
  refine Run.nil (FinR.mk ?_)
  refine nK ?_
  refine s_reg rfl ?_
  refine Run.pure (dd := some 3) rfl rfl (op_assign rfl (Opd.const _)) ?_
  refine Run.nil (FinR.mk ?_)
  refine nK ?_
  refine Next.adopt 3 1 rfl ?_
  refine nK ?_
  refine s_reg rfl ?_
  refine Run.pure (dd := some 6) rfl rfl (op_move rfl (Opd.tmp _ _ rfl)) ?_
  refine Run.pure (dd := some 7) rfl rfl (op_len_fz rfl (by first | exact Opd.tmp _ _ rfl | exact Opd.nil _ _ (Opd.tmp _ _ rfl)) (by first | exact List.length_map _ | rfl)) ?_
  refine Run.pure (dd := some 8) rfl rfl (op_move rfl (Opd.const _)) ?_
  refine Run.nil (FinR.mk ?_)
  refine nK ?_
  refine n_loop (ι := Nat) (fun i => ([(3, .sl 0 1 0 (flatS (p.take i)).length), (6, .fz (VSg p)), (7, IV .i64 p.length), (8, IV .i64 i)], [(0, some (.flat 1 ((flatS (p.take i)).map encN)))], 1)) (fun i => i ≤ p.length) (fun i => p.length - i) 0 (Nat.zero_le _) ?_ ?_
  · refine Next.weakS [3] [] (by rfl) (by first | exact keeps0 hC _ | exact keepsN hC _ rfl) (by repeat (first | exact trivial | refine ⟨⟨_, rfl, .inl ⟨rfl, rfl⟩⟩, ?_⟩ | refine ⟨⟨_, rfl, .inl ⟨slEq rfl tN, rfl⟩⟩, ?_⟩ | refine ⟨⟨_, rfl, .inl ⟨ivEq tX, rfl⟩⟩, ?_⟩)) (by repeat (first | exact trivial | refine ⟨ent_same rfl rfl rfl tL, ?_⟩ | refine ⟨ent_same rfl rfl (rfEq rfl tU) tL, ?_⟩ | refine ⟨ent_same rfl rfl (flEq rfl (by first | (simp; done) | (simp; omega) | (simp [encP, encPv, encAt, encSg, encTl, encW, encN, encY]; done) | simp [maxC, minC])) trivial, ?_⟩)) rfl (rel_intro)
  · intro i hi K hK
    refine nK ?_
    refine s_reg rfl ?_
    refine Run.pure (dd := some 9) rfl rfl (op_lss rfl (Opd.tmp _ _ rfl) (Opd.tmp _ _ rfl)) ?_
    refine Run.nil (FinR.mk ?_)
    refine nK ?_
    refine n_cond _ rfl (fun hb => ?_) (fun hb => ?_)
    · have hlt : i < p.length := by simp at hb; omega
      have hr1 := row_at' encSg p i hlt
      have hK1 := hK (i + 1) (by omega) (by omega)
      have hle := flatS_le p (i + 1)
      rw [flatS_take hlt, List.length_append] at hle hK1
      rw [app2'] at hK1
      generalize flatS (p.take i) = o at *
      generalize p[i] = x at *
      refine nK ?_
      refine s_reg rfl ?_
      refine Run.pure (dd := some 10) rfl rfl (op_idx_fz _ rfl (Opd.tmp _ _ rfl) (Opd.tmp _ _ rfl) tF) ?_
      refine Run.pure (dd := some 11) rfl rfl (op_loadw_fz rfl (Opd.tmp _ _ rfl) rfl) ?_
      refine Run.eff (dd := some 5) rfl rfl (op_alloc rfl rfl rfl rfl) ?_
      refine Run.eff (dd := none) rfl rfl (op_store_flat rfl (Opd.tmp _ _ rfl) (Opd.tmp _ _ rfl) tC rfl rfl (by first | rfl | assumption) tS) ?_
      refine Run.nil (FinR.mk ?_)
      refine nK ?_
      refine s_reg rfl ?_
      refine Run.pure (dd := some 12) rfl rfl (op_move rfl (Opd.tmp _ _ rfl)) ?_
      refine Run.pure (dd := some 13) rfl rfl (op_fld_ptr (by decide) rfl (Opd.tmp _ _ rfl)) ?_
      refine Run.load (dd := some 14) rfl rfl (op_load1_flat rfl (Opd.tmp _ _ rfl) tH rfl) ?_
      refine Run.eff (dd := some 15) rfl rfl (op_append rfl (Opd.tmp _ _ rfl) (Opd.tmp _ _ rfl) rfl (by simp) rfl rfl tB tB) ?_
      refine Run.pure (dd := some 3) rfl rfl (op_assign rfl (Opd.tmp _ _ rfl)) ?_
      refine Run.nil (FinR.mk ?_)
      refine nK ?_
      refine s_reg rfl ?_
      refine Run.pure (dd := some 16) rfl rfl (op_add rfl (Opd.tmp _ _ rfl) (Opd.const _) tI) ?_
      refine Run.pure (dd := some 8) rfl rfl (op_move rfl (Opd.tmp _ _ rfl)) ?_
      refine Run.nil (FinR.mk ?_)
      refine nK ?_
      refine Next.weakS [3] [] (by rfl) (by first | exact keeps0 hC _ | exact keepsN hC _ rfl) (by repeat (first | exact trivial | refine ⟨⟨_, rfl, .inl ⟨rfl, rfl⟩⟩, ?_⟩ | refine ⟨⟨_, rfl, .inl ⟨slEq rfl tN, rfl⟩⟩, ?_⟩ | refine ⟨⟨_, rfl, .inl ⟨ivEq tX, rfl⟩⟩, ?_⟩)) (by repeat (first | exact trivial | refine ⟨ent_same rfl rfl rfl tL, ?_⟩ | refine ⟨ent_same rfl rfl (rfEq rfl tU) tL, ?_⟩ | refine ⟨ent_same rfl rfl (flEq rfl (by first | (simp; done) | (simp; omega) | (simp [encP, encPv, encAt, encSg, encTl, encW, encN, encY]; done) | simp [maxC, minC])) trivial, ?_⟩)) rfl (hK1)
    · have hie : i = p.length := by simp at hb; omega
      rw [hie, List.take_length]
      refine nK ?_
      refine s_reg rfl ?_
      refine Run.pure (dd := some 17) rfl rfl (op_move rfl (Opd.tmp _ _ rfl)) ?_
      refine Run.pure (dd := some 2) rfl rfl (op_assign rfl (Opd.tmp _ _ rfl)) ?_
      refine Run.nil (FinR.mk ?_)
      refine nK ?_
      (first | exact s_o1 hC rfl tV | exact s_o2 hC rfl tV tV | exact s_o3 hC rfl tV tV tV | exact s_o4 hC rfl tV tV tV tV | exact s_out0 hC rfl | exact s_outO hC rfl rfl rfl)
theorem flat_c (p : List Seg) (hn : p.length ≤ 2000000) (hf : (flatS p).length ≤ 2000000000000) : Pure Try.prog 86 [VSg p] (VI (flatS p)) := (flat_f p hn hf).freeze (by simp)
theorem size17_c (p : List Seg) (hn : p.length ≤ 2000000) (hf : (flatS p).length ≤ 2000000000000) : Pure Try.prog 61 [VSg p] (If .i64 ((p.length : Int) + (flatS p).length)) := by
  have k := flat_c p hn hf
  refine Meets.intro Try.func61 rfl (Nat.le_of_ble_eq_true rfl) fun C hC => ?_
  simp only [List.map, argEnv, Nat.reduceAdd]
  refine nK ?_
  refine s_reg rfl ?_
  refine Run.pure (dd := some 2) rfl rfl (op_assign rfl (Opd.const _)) ?_
  refine Run.nil (FinR.mk ?_)
  refine nK ?_
  refine s_reg rfl ?_
  refine Run.pure (dd := some 3) rfl rfl (op_move rfl (Opd.tmp _ _ rfl)) ?_
  refine Run.pure (dd := some 4) rfl rfl (op_len_fz rfl (by first | exact Opd.tmp _ _ rfl | exact Opd.nil _ _ (Opd.tmp _ _ rfl)) (by first | exact List.length_map _ | rfl)) ?_
  refine Run.pure (dd := some 5) rfl rfl (op_move rfl (Opd.tmp _ _ rfl)) ?_
  refine Run.pure (dd := some 6) rfl rfl (op_call_pure (fun _ => k) rfl (Opd.func _) (Opds.cons _ _ _ _ (Opd.tmp _ _ rfl) Opds.nil)) ?_
  refine Run.pure (dd := some 7) rfl rfl (op_len_fz rfl (by first | exact Opd.tmp _ _ rfl | exact Opd.nil _ _ (Opd.tmp _ _ rfl)) (by first | exact List.length_map _ | rfl)) ?_
  refine Run.pure (dd := some 8) rfl rfl (op_add rfl (Opd.tmp _ _ rfl) (Opd.tmp _ _ rfl) tI) ?_
  refine Run.pure (dd := some 2) rfl rfl (op_assign rfl (Opd.tmp _ _ rfl)) ?_
  refine Run.nil (FinR.mk ?_)
  refine nK ?_
  (first | exact s_o1 hC rfl tV | exact s_o2 hC rfl tV tV | exact s_o3 hC rfl tV tV tV | exact s_o4 hC rfl tV tV tV tV | exact s_out0 hC rfl | exact s_outO hC rfl rfl rfl)
theorem size36_c (a : Att) (h : okAt a) (hf : (flatS a.pa).length ≤ 2000000000000) : Pure Try.prog 38 [.agg (encAt a)] (If .i64 (sizeN a)) := by
  have k := size17_c a.pa h.lpa hf
  have l1 := h.lpa
  have l2 := h.lco
  have l3 := h.lcl
  have l4 := h.lun
  have hsv := sumV_le fun t ht => (h.un t ht).len
  have hb0 : ((((a.pa.length : Int) + (flatS a.pa).length) + a.co.length + a.cl.length) + a.un.length) = (baseN a : Int) := by unfold baseN; omega
  have hbn : baseN a ≤ 2000010000000 := by unfold baseN; omega
  unfold sizeN
  refine Meets.intro Try.func38 rfl (Nat.le_of_ble_eq_true rfl) fun C hC => ?_
  simp only [List.map, argEnv, Nat.reduceAdd]
  refine nK ?_
  refine s_reg rfl ?_
  refine Run.eff (dd := some 1) rfl rfl (op_box_flat rfl (Opd.tmp _ _ rfl) tC rfl) ?_
  refine Run.pure (dd := some 2) rfl rfl (op_assign rfl (Opd.const _)) ?_
  refine Run.nil (FinR.mk ?_)
  refine nK ?_
  refine s_draw mixed ?_
  refine Run.pure (dd := some 6) rfl rfl (op_fld_ptr (by decide) rfl (Opd.tmp _ _ rfl)) ?_
  refine Run.load (dd := some 7) rfl rfl (op_load1_flat rfl (Opd.tmp _ _ rfl) tH rfl) ?_
  refine Run.pure (dd := some 8) rfl rfl (op_call_pure (fun _ => k) rfl (Opd.func _) (Opds.cons _ _ _ _ (Opd.tmp _ _ rfl) Opds.nil)) ?_
  refine Run.pure (dd := some 9) rfl rfl (op_fld_ptr (by decide) rfl (Opd.tmp _ _ rfl)) ?_
  refine Run.load (dd := some 10) rfl rfl (op_load1_flat rfl (Opd.tmp _ _ rfl) tH rfl) ?_
  refine Run.pure (dd := some 11) rfl rfl (op_len_fz rfl (by first | exact Opd.tmp _ _ rfl | exact Opd.nil _ _ (Opd.tmp _ _ rfl)) (by first | exact List.length_map _ | rfl)) ?_
  refine Run.pure (dd := some 12) rfl rfl (op_add rfl (Opd.tmp _ _ rfl) (Opd.tmp _ _ rfl) tI) ?_
  refine Run.pure (dd := some 13) rfl rfl (op_fld_ptr (by decide) rfl (Opd.tmp _ _ rfl)) ?_
  refine Run.load (dd := some 14) rfl rfl (op_load1_flat rfl (Opd.tmp _ _ rfl) tH rfl) ?_
  refine Run.pure (dd := some 15) rfl rfl (op_len_fz rfl (by first | exact Opd.tmp _ _ rfl | exact Opd.nil _ _ (Opd.tmp _ _ rfl)) (by first | exact List.length_map _ | rfl)) ?_
  refine Run.pure (dd := some 16) rfl rfl (op_add rfl (Opd.tmp _ _ rfl) (Opd.tmp _ _ rfl) tI) ?_
  refine Run.pure (dd := some 17) rfl rfl (op_fld_ptr (by decide) rfl (Opd.tmp _ _ rfl)) ?_
  refine Run.load (dd := some 18) rfl rfl (op_load1_flat rfl (Opd.tmp _ _ rfl) tH rfl) ?_
  refine Run.pure (dd := some 19) rfl rfl (op_len_fz rfl (by first | exact Opd.tmp _ _ rfl | exact Opd.nil _ _ (Opd.tmp _ _ rfl)) (by first | exact List.length_map _ | rfl)) ?_
  refine Run.pure (dd := some 20) rfl rfl (op_add rfl (Opd.tmp _ _ rfl) (Opd.tmp _ _ rfl) tI) ?_
  refine Run.pure (dd := some 3) rfl rfl (op_assign rfl (Opd.tmp _ _ rfl)) ?_
  refine Run.nil (FinD.mk (by kernel_rfl) ?_)
  refine nK ?_
  refine s_reg rfl ?_
  refine Run.pure (dd := some 21) rfl rfl (op_fld_ptr (by decide) rfl (Opd.tmp _ _ rfl)) ?_
  refine Run.load (dd := some 22) rfl rfl (op_load1_flat rfl (Opd.tmp _ _ rfl) tH rfl) ?_
  refine Run.pure (dd := some 23) rfl rfl (op_len_fz rfl (by first | exact Opd.tmp _ _ rfl | exact Opd.nil _ _ (Opd.tmp _ _ rfl)) (by first | exact List.length_map _ | rfl)) ?_
  refine Run.pure (dd := some 24) rfl rfl (op_move rfl (Opd.const _)) ?_
  refine Run.nil (FinR.mk ?_)
  refine nK ?_
  rw [hb0]
  refine n_loop (ι := Nat) (fun i => ([(3, IV .i64 ((baseN a + sumV (a.un.take i) : Nat) : Int)), (22, .fz (VTl a.un)), (23, IV .i64 a.un.length), (24, IV .i64 i)], [], 0)) (fun i => i ≤ a.un.length) (fun i => a.un.length - i) 0 (Nat.zero_le _) ?_ ?_
  · refine Next.weak [] [] (by rfl) (keeps0 hC _) (by repeat (first | exact trivial | refine ⟨⟨_, rfl, .inl ⟨rfl, rfl⟩⟩, ?_⟩)) (by repeat (first | exact trivial | refine ⟨ent_same rfl rfl rfl tL, ?_⟩ | refine ⟨ent_same rfl rfl (rfEq rfl tU) tL, ?_⟩ | refine ⟨ent_same rfl rfl (flEq rfl (by first | (simp; done) | (simp; omega) | (simp [encP, encPv, encAt, encSg, encTl, encW, encN, encY]; done) | simp [maxC, minC])) trivial, ?_⟩)) (fun _ h => by simp at h) rel_intro
  · intro i hi K hK
    have hs0 := hsv i hi
    refine nK ?_
    refine s_reg rfl ?_
    refine Run.pure (dd := some 25) rfl rfl (op_lss rfl (Opd.tmp _ _ rfl) (Opd.tmp _ _ rfl)) ?_
    refine Run.nil (FinR.mk ?_)
    refine nK ?_
    refine n_cond _ rfl (fun hb => ?_) (fun hb => ?_)
    · have hlt : i < a.un.length := by simp at hb; omega
      have hr1 := row_at' encTl a.un i hlt
      have hK1 := hK (i + 1) (by omega) (by omega)
      have lx := (h.un _ (List.getElem_mem hlt)).len
      rw [sumV_take hlt] at hK1
      generalize a.un[i] = x at *
      generalize sumV (a.un.take i) = m at *
      refine nK ?_
      refine s_reg rfl ?_
      refine Run.pure (dd := some 26) rfl rfl (op_idx_fz _ rfl (Opd.tmp _ _ rfl) (Opd.tmp _ _ rfl) tF) ?_
      refine Run.pure (dd := some 27) rfl rfl (op_loadw_fz rfl (Opd.tmp _ _ rfl) rfl) ?_
      refine Run.eff (dd := some 5) rfl rfl (op_alloc rfl rfl rfl rfl) ?_
      refine Run.eff (dd := none) rfl rfl (op_store_flat rfl (Opd.tmp _ _ rfl) (Opd.tmp _ _ rfl) tC rfl rfl (by first | rfl | assumption) tS) ?_
      refine Run.nil (FinR.mk ?_)
      refine nK ?_
      refine s_reg rfl ?_
      refine Run.pure (dd := some 28) rfl rfl (op_move rfl (Opd.tmp _ _ rfl)) ?_
      refine Run.pure (dd := some 29) rfl rfl (op_fld_ptr (by decide) rfl (Opd.tmp _ _ rfl)) ?_
      refine Run.load (dd := some 30) rfl rfl (op_load1_flat rfl (Opd.tmp _ _ rfl) tH rfl) ?_
      refine Run.pure (dd := some 31) rfl rfl (op_len_fz rfl (by first | exact Opd.tmp _ _ rfl | exact Opd.nil _ _ (Opd.tmp _ _ rfl)) (by first | exact List.length_map _ | rfl)) ?_
      refine Run.pure (dd := some 32) rfl rfl (op_quo rfl (Opd.tmp _ _ rfl) (Opd.const _) tM) ?_
      refine Run.pure (dd := some 33) rfl rfl (op_add rfl (Opd.tmp _ _ rfl) (Opd.tmp _ _ rfl) tI) ?_
      refine Run.pure (dd := some 3) rfl rfl (op_assign rfl (Opd.tmp _ _ rfl)) ?_
      refine Run.nil (FinR.mk ?_)
      refine nK ?_
      refine s_reg rfl ?_
      refine Run.pure (dd := some 34) rfl rfl (op_add rfl (Opd.tmp _ _ rfl) (Opd.const _) tI) ?_
      refine Run.pure (dd := some 24) rfl rfl (op_move rfl (Opd.tmp _ _ rfl)) ?_
      refine Run.nil (FinR.mk ?_)
      refine nK ?_
      have e : (((baseN a + (m + x.v.length / 8) : Nat)) : Int) = ((baseN a + m : Nat) : Int) + ((x.v.length : Int)).tdiv 8 := by
        rw [Int.tdiv_eq_ediv_of_nonneg (by omega)]; omega
      rw [e] at hK1
      refine Next.weak [] [] (by rfl) (keeps0 hC _) (by repeat (first | exact trivial | refine ⟨⟨_, rfl, .inl ⟨rfl, rfl⟩⟩, ?_⟩)) (by repeat (first | exact trivial | refine ⟨ent_same rfl rfl rfl tL, ?_⟩ | refine ⟨ent_same rfl rfl (rfEq rfl tU) tL, ?_⟩ | refine ⟨ent_same rfl rfl (flEq rfl (by first | (simp; done) | (simp; omega) | (simp [encP, encPv, encAt, encSg, encTl, encW, encN, encY]; done) | simp [maxC, minC])) trivial, ?_⟩)) (fun _ h => by simp at h) hK1
    · have hie : i = a.un.length := by simp at hb; omega
      rw [hie, List.take_length]
      refine nK ?_
      refine s_reg rfl ?_
      refine Run.pure (dd := some 35) rfl rfl (op_move rfl (Opd.tmp _ _ rfl)) ?_
      refine Run.pure (dd := some 2) rfl rfl (op_assign rfl (Opd.tmp _ _ rfl)) ?_
      refine Run.nil (FinR.mk ?_)
      refine nK ?_
      (first | exact s_o1 hC rfl tV | exact s_o2 hC rfl tV tV | exact s_o3 hC rfl tV tV tV | exact s_o4 hC rfl tV tV tV tV | exact s_out0 hC rfl | exact s_outO hC rfl rfl rfl)
open Go Go.RT Go.Proofs Go.Pl
set_option maxRecDepth 20000
theorem large36_c (a : Att) (h : okAt a) (hf : (flatS a.pa).length ≤ 2000000000000) : Pure Try.prog 13 [.agg (encAt a)] (Bf (decide ((3000 : Int) < sizeN a))) := by
  have k := size36_c a h hf
  refine Meets.intro Try.func13 rfl (Nat.le_of_ble_eq_true rfl) fun C hC => ?_
  simp only [List.map, argEnv, Nat.reduceAdd]
  refine nK ?_
  refine s_reg rfl ?_
  refine Run.eff (dd := some 1) rfl rfl (op_box_flat rfl (Opd.tmp _ _ rfl) tC rfl) ?_
  refine Run.pure (dd := some 2) rfl rfl (op_assign rfl (Opd.const _)) ?_
  refine Run.nil (FinR.mk ?_)
  refine nK ?_
  refine s_reg rfl ?_
  refine Run.load (dd := some 3) rfl rfl (op_loadw_flat rfl (Opd.tmp _ _ rfl) tH rfl) ?_
  refine Run.pure (dd := some 4) rfl rfl (op_call_pure (fun _ => k) rfl (Opd.func _) (Opds.cons _ _ _ _ (Opd.tmp _ _ rfl) Opds.nil)) ?_
  refine Run.pure (dd := some 5) rfl rfl (op_gtr rfl (Opd.tmp _ _ rfl) (Opd.const _)) ?_
  refine Run.pure (dd := some 2) rfl rfl (op_assign rfl (Opd.tmp _ _ rfl)) ?_
  refine Run.nil (FinR.mk ?_)
  refine nK ?_
  (first | exact s_o1 hC rfl tV | exact s_o2 hC rfl tV tV | exact s_o3 hC rfl tV tV tV | exact s_o4 hC rfl tV tV tV tV | exact s_out0 hC rfl | exact s_outO hC rfl rfl rfl)
def lgB (n : Nat) (r : Pvr) : Bool := (decide ((100 : Int) < n) && decide ((10 : Int) < (r.t.pa.length : Int) + r.t.co.length)) || decide ((3000 : Int) < sizeN r.t)
def largeV (l : List Pvr) : Bool := decide (2100 < l.length) || l.any (lgB l.length)
theorem large_c (l : List Pvr) (h : ∀ r ∈ l, okPv r) (hf : ∀ r ∈ l, (flatS r.t.pa).length ≤ 2000000000000) (hn : l.length ≤ 2000000) : Pure Try.prog 9 [VPv l] (Bf (largeV l)) := by
  unfold largeV
  refine Meets.intro Try.func9 rfl (Nat.le_of_ble_eq_true rfl) fun C hC => ?_
  simp only [List.map, argEnv, Nat.reduceAdd]
  refine nK ?_
  refine s_reg rfl ?_
  refine Run.pure (dd := some 2) rfl rfl (op_assign rfl (Opd.const _)) ?_
  refine Run.nil (FinR.mk ?_)
  refine nK ?_
  refine s_reg rfl ?_
  refine Run.pure (dd := some 5) rfl rfl (op_move rfl (Opd.tmp _ _ rfl)) ?_
  refine Run.pure (dd := some 6) rfl rfl (op_len_fz rfl (by first | exact Opd.tmp _ _ rfl | exact Opd.nil _ _ (Opd.tmp _ _ rfl)) (by first | exact List.length_map _ | rfl)) ?_
  refine Run.pure (dd := some 7) rfl rfl (op_gtr rfl (Opd.tmp _ _ rfl) (Opd.const _)) ?_
  refine Run.nil (FinR.mk ?_)
  refine nK ?_
  refine n_cond _ rfl (fun hb => ?_) (fun hb => ?_)
  · have e : decide (2100 < l.length) = true := by simp at hb ⊢; omega
    rw [e, Bool.true_or]
    refine nK ?_
    refine s_reg rfl ?_
    refine Run.pure (dd := some 2) rfl rfl (op_assign rfl (Opd.const _)) ?_
    refine Run.nil (FinR.mk ?_)
    refine nK ?_
    (first | exact s_o1 hC rfl tV | exact s_o2 hC rfl tV tV | exact s_o3 hC rfl tV tV tV | exact s_o4 hC rfl tV tV tV tV | exact s_out0 hC rfl | exact s_outO hC rfl rfl rfl)
  · have e : decide (2100 < l.length) = false := by simp at hb ⊢; omega
    rw [e, Bool.false_or]
    refine nK ?_
    refine s_reg rfl ?_
    refine Run.pure (dd := some 8) rfl rfl (op_move rfl (Opd.tmp _ _ rfl)) ?_
    refine Run.pure (dd := some 9) rfl rfl (op_len_fz rfl (by first | exact Opd.tmp _ _ rfl | exact Opd.nil _ _ (Opd.tmp _ _ rfl)) (by first | exact List.length_map _ | rfl)) ?_
    refine Run.pure (dd := some 10) rfl rfl (op_move rfl (Opd.const _)) ?_
    refine Run.nil (FinR.mk ?_)
    refine nK ?_
    refine n_loop (ι := Nat) (fun i => ([(0, .fz (VPv l)), (8, .fz (VPv l)), (9, IV .i64 l.length), (10, IV .i64 i)], [], 0)) (fun i => i ≤ l.length ∧ (l.drop i).any (lgB l.length) = l.any (lgB l.length)) (fun i => l.length - i) 0 ⟨Nat.zero_le _, rfl⟩ ?_ ?_
    · refine Next.weak [] [] (by rfl) (keeps0 hC _) (by repeat (first | exact trivial | refine ⟨⟨_, rfl, .inl ⟨rfl, rfl⟩⟩, ?_⟩)) (by repeat (first | exact trivial | refine ⟨ent_same rfl rfl rfl tL, ?_⟩ | refine ⟨ent_same rfl rfl (rfEq rfl tU) tL, ?_⟩ | refine ⟨ent_same rfl rfl (flEq rfl (by first | (simp; done) | (simp; omega) | (simp [encP, encPv, encAt, encSg, encTl, encW, encN, encY]; done) | simp [maxC, minC])) trivial, ?_⟩)) (fun _ h => by simp at h) rel_intro
    · intro i ⟨hi, ho⟩ K hK
      refine nK ?_
      refine s_reg rfl ?_
      refine Run.pure (dd := some 11) rfl rfl (op_lss rfl (Opd.tmp _ _ rfl) (Opd.tmp _ _ rfl)) ?_
      refine Run.nil (FinR.mk ?_)
      refine nK ?_
      refine n_cond _ rfl (fun hb => ?_) (fun hb => ?_)
      · have hlt : i < l.length := by simp at hb; omega
        have hr1 := row_at' encPv l i hlt
        rw [List.drop_eq_getElem_cons hlt, List.any_cons] at ho
        have hK1 := fun h => hK (i + 1) ⟨by omega, h⟩ (by omega)
        have ox := h _ (List.getElem_mem hlt)
        have of := hf _ (List.getElem_mem hlt)
        generalize l[i] = x at *
        have kl := large36_c x.t ox.t of
        have l1 := ox.t.lpa
        have l2 := ox.t.lco
        refine nK ?_
        refine s_reg rfl ?_
        refine Run.pure (dd := some 12) rfl rfl (op_idx_fz _ rfl (Opd.tmp _ _ rfl) (Opd.tmp _ _ rfl) tF) ?_
        refine Run.pure (dd := some 13) rfl rfl (op_loadw_fz rfl (Opd.tmp _ _ rfl) rfl) ?_
        refine Run.eff (dd := some 4) rfl rfl (op_alloc rfl rfl rfl rfl) ?_
        refine Run.eff (dd := none) rfl rfl (op_store_flat rfl (Opd.tmp _ _ rfl) (Opd.tmp _ _ rfl) tC rfl rfl (by first | rfl | assumption) tS) ?_
        refine Run.nil (FinR.mk ?_)
        refine nK ?_
        refine s_reg rfl ?_
        refine Run.pure (dd := some 14) rfl rfl (op_move rfl (Opd.tmp _ _ rfl)) ?_
        refine Run.pure (dd := some 15) rfl rfl (op_len_fz rfl (by first | exact Opd.tmp _ _ rfl | exact Opd.nil _ _ (Opd.tmp _ _ rfl)) (by first | exact List.length_map _ | rfl)) ?_
        refine Run.pure (dd := some 16) rfl rfl (op_gtr rfl (Opd.tmp _ _ rfl) (Opd.const _)) ?_
        refine Run.pure (dd := some 17) rfl rfl (op_move rfl (Opd.tmp _ _ rfl)) ?_
        refine Run.pureG (dd := some 18) rfl rfl rfl tG (op_fld_ptr (by decide) rfl (Opd.tmp _ _ rfl)) ?_
        refine Run.pureG (dd := some 19) rfl rfl rfl tG (op_fld_ptr (by decide) rfl (Opd.topt _ _ _ rfl tO)) ?_
        refine Run.loadG (dd := some 20) rfl rfl rfl tG (op_load1_flat rfl (Opd.topt _ _ _ rfl tO) tH rfl) ?_
        refine Run.pureG (dd := some 21) rfl rfl rfl tG (op_len_fz rfl (by first | exact Opd.topt _ _ _ rfl tO | exact Opd.nil _ _ (Opd.topt _ _ _ rfl tO)) (by first | exact List.length_map _ | rfl)) ?_
        refine Run.pureG (dd := some 22) rfl rfl rfl tG (op_fld_ptr (by decide) rfl (Opd.tmp _ _ rfl)) ?_
        refine Run.pureG (dd := some 23) rfl rfl rfl tG (op_fld_ptr (by decide) rfl (Opd.topt _ _ _ rfl tO)) ?_
        refine Run.loadG (dd := some 24) rfl rfl rfl tG (op_load1_flat rfl (Opd.topt _ _ _ rfl tO) tH rfl) ?_
        refine Run.pureG (dd := some 25) rfl rfl rfl tG (op_len_fz rfl (by first | exact Opd.topt _ _ _ rfl tO | exact Opd.nil _ _ (Opd.topt _ _ _ rfl tO)) (by first | exact List.length_map _ | rfl)) ?_
        refine Run.pureG (dd := some 26) rfl rfl rfl tG (op_add rfl (Opd.topt _ _ _ rfl tO) (Opd.topt _ _ _ rfl tO) tI) ?_
        refine Run.pureG (dd := some 27) rfl rfl rfl tG (op_gtr rfl (Opd.topt _ _ _ rfl tO) (Opd.const _)) ?_
        refine Run.pure (dd := some 28) rfl rfl (op_pick_and rfl (Opd.tmp _ _ rfl) (Opd.topt _ _ _ rfl tO)) ?_
        refine Run.pure (dd := some 29) rfl rfl (op_move rfl (Opd.tmp _ _ rfl)) ?_
        refine Run.pureG (dd := some 30) rfl rfl rfl tG (op_fld_ptr (by decide) rfl (Opd.tmp _ _ rfl)) ?_
        refine Run.loadG (dd := some 31) rfl rfl rfl tG (op_loadn_flat rfl (Opd.topt _ _ _ rfl tO) tH tR tR) ?_
        refine Run.pureG (dd := some 32) rfl rfl rfl tG (op_call_pure (fun _ => kl) rfl (Opd.func _) (Opds.cons _ _ _ _ (Opd.topt _ _ _ rfl tO) Opds.nil)) ?_
        refine Run.pure (dd := some 33) rfl rfl (op_pick_or rfl (Opd.tmp _ _ rfl) (Opd.topt _ _ _ rfl tO)) ?_
        refine Run.nil (FinR.mk ?_)
        refine nK ?_
        refine n_cond _ rfl (fun hb => ?_) (fun hb => ?_)
        · have hb' : lgB l.length x = true := hb
          rw [hb', Bool.true_or] at ho
          rw [← ho]
          refine nK ?_
          refine s_reg rfl ?_
          refine Run.pure (dd := some 2) rfl rfl (op_assign rfl (Opd.const _)) ?_
          refine Run.nil (FinR.mk ?_)
          refine nK ?_
          (first | exact s_o1 hC rfl tV | exact s_o2 hC rfl tV tV | exact s_o3 hC rfl tV tV tV | exact s_o4 hC rfl tV tV tV tV | exact s_out0 hC rfl | exact s_outO hC rfl rfl rfl)
        · have hb' : lgB l.length x = false := hb
          rw [hb', Bool.false_or] at ho
          refine nK ?_
          refine s_reg rfl ?_
          refine Run.pure (dd := some 34) rfl rfl (op_add rfl (Opd.tmp _ _ rfl) (Opd.const _) tI) ?_
          refine Run.pure (dd := some 10) rfl rfl (op_move rfl (Opd.tmp _ _ rfl)) ?_
          refine Run.nil (FinR.mk ?_)
          refine nK ?_
          refine Next.weak [] [] (by rfl) (keeps0 hC _) (by repeat (first | exact trivial | refine ⟨⟨_, rfl, .inl ⟨rfl, rfl⟩⟩, ?_⟩)) (by repeat (first | exact trivial | refine ⟨ent_same rfl rfl rfl tL, ?_⟩ | refine ⟨ent_same rfl rfl (rfEq rfl tU) tL, ?_⟩ | refine ⟨ent_same rfl rfl (flEq rfl (by first | (simp; done) | (simp; omega) | (simp [encP, encPv, encAt, encSg, encTl, encW, encN, encY]; done) | simp [maxC, minC])) trivial, ?_⟩)) (fun _ h => by simp at h) (hK1 ho)
      · have hie : i = l.length := by simp at hb; omega
        rw [hie, List.drop_length] at ho
        rw [← ho]
        simp only [List.any_nil]
        refine nK ?_
        refine s_reg rfl ?_
        refine Run.pure (dd := some 2) rfl rfl (op_assign rfl (Opd.const _)) ?_
        refine Run.nil (FinR.mk ?_)
        refine nK ?_
        (first | exact s_o1 hC rfl tV | exact s_o2 hC rfl tV tV | exact s_o3 hC rfl tV tV tV | exact s_o4 hC rfl tV tV tV tV | exact s_out0 hC rfl | exact s_outO hC rfl rfl rfl)
end Go.Proofs.Ytfkcbglnadjnnaa
/- The chapter's example. No program in sight. -/
namespace Go.Pl
open Go Go.RT
set_option linter.all false
def tenQ : Pfx := ⟨167772160, 8⟩
def evT : Att := ⟨0, [], 1, false, 0, false, 0, false, false, 0, 0, [], false, 0, [], []⟩
def evA : Pvr := ⟨tenQ, evT, 0, 1, 0, false⟩
def evB : Pvr := ⟨tenQ, evT, 1, 1, 0, false⟩
def evS : Pvr := ⟨tenQ, evT, 0, 1, 0, true⟩
theorem ev1 : putF [] evB = ([evB], true) := by decide +kernel
theorem ev2 : putF [evB] evA = ([evA, evB], true) := by decide +kernel
theorem ev3 : putF [evA, evB] evA = ([evA, evB], false) := by decide +kernel
theorem ev4 : ([evA, evB].filter fun x => !(decide (x.pe = 0) && decide (x.px = tenQ))) = [evB] := by decide +kernel
theorem ev5 : ([evA, evB].filter fun x => (decide (x.pe = 0) && decide (x.px = tenQ))) = [evA] := by decide +kernel
theorem ev6 : pfsF [evA] = [tenQ] := by decide +kernel
theorem ev7 : ([evA, evB].filter fun x => !decide (x.pe = 1)) = [evA] := by decide +kernel
theorem ev8 : pfsF ([evA, evB].filter fun x => decide (x.pe = 1)) = [tenQ] := by decide +kernel
theorem ev9 : (([evA, evB].filter fun x => !(decide (x.pe = 0) && x.st)).map (mkSt 0)) = [evS, evB] := by decide +kernel
theorem ev10 : pfsF ([evA, evB].filter fun x => decide (x.pe = 0) && x.st) = [] := by decide +kernel
theorem ev11 : ([evS, evB].filter fun x => !(decide (x.pe = 0) && x.st)) = [evB] := by decide +kernel
theorem ev12 : pfsF ([evS, evB].filter fun x => decide (x.pe = 0) && x.st) = [tenQ] := by decide +kernel
theorem ev13 : listV [evA, evB] = 0 := by decide +kernel
theorem ev14 : listV [evB, evA] = 16 := by decide +kernel
theorem ev15 : ([evA, evB].filter fun x => decide (x.px = tenQ)) = [evA, evB] := by decide +kernel
theorem ev16 : pfsF [evA, evB] = [tenQ] := by decide +kernel
theorem evT_ok : okAt evT := ⟨by decide, by simp [evT], by decide, by decide, by decide, by decide, by decide, by simp [evT], by decide, by simp [evT], by simp [evT], by decide, by decide, by decide, by decide⟩
theorem ev_ok {r : Pvr} (h : r = evA ∨ r = evB ∨ r = evS) : okPv r := by
  rcases h with rfl | rfl | rfl <;> exact ⟨by constructor <;> simp [evA, evB, evS, tenQ, inr], evT_ok, by simp [evA, evB, evS, inr], by simp [evA, evB, evS, inr], by simp [evA, evB, evS, inr]⟩
end Go.Pl
