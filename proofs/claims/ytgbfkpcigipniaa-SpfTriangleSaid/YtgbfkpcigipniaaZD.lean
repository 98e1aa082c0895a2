/- A part of the proof: P3, LayS, GP2, SRT, SRI, GP3, HP1, P4, RT29, P5, HP2, P6, P7, P8, P9, RT30, HP3. -/
import Derived.Test.YtgbfkpcigipniaaZC
import Derived.Shelf.SlLaysF
import Derived.Ground.SlsfProg
import Derived.Shelf.SlSortCmp.NoneTotal
import Derived.Shelf.Sort.Plain
import Derived.Shelf.Slices.In.SortNone
set_option linter.all false
namespace Go.Proofs.Ytgbfkpcigipniaa
open Go Go.RT Go.Proofs Go.Pl
set_option linter.all false
set_option maxRecDepth 20000
theorem find_c (g : Gr) (f t : Int) (hn : g.es.length ≤ 2000000) : Pure Try.prog 39 [.agg (encG g), If .i64 f, If .i64 t] (If .i64 (fndI g.es f t)) := by
  refine Meets.intro Try.func39 rfl (Nat.le_of_ble_eq_true rfl) fun C hC => ?_
  simp only [List.map, argEnv, Nat.reduceAdd]
  refine nK ?_
  refine s_reg rfl ?_
  first | refine Run.eff (dd := some 3) rfl rfl (op_box_flat rfl (Opd.tmp _ _ rfl) tC rfl) ?_ | refine Run.eff (dd := some 3) rfl rfl (op_box_refs rfl (Opd.tmp _ _ rfl) tP rfl) ?_
  first | refine Run.pure (dd := some 6) rfl rfl (op_assign rfl (Opd.const _)) ?_ | refine Run.pure (dd := some 6) rfl rfl (op_junk (.inr rfl)) ?_
  refine Run.nil (FinR.mk ?_)
  refine nK ?_
  refine s_reg rfl ?_
  first | refine Run.pure (dd := some 7) rfl rfl (op_assign rfl (Opd.const _)) ?_ | refine Run.pure (dd := some 7) rfl rfl (op_junk (.inr rfl)) ?_
  refine Run.nil (FinR.mk ?_)
  refine nK ?_
  refine n_loop (ι := Nat) (fun i => ([(1, IV .i64 f), (2, IV .i64 t), (3, .ptr 0 3 0 0), (7, IV .i64 i)], [(0, OG g)], 1)) (fun i => i ≤ g.es.length ∧ fndAt f t i (g.es.drop i) = fndI g.es f t) (fun i => g.es.length - i) 0 ⟨Nat.zero_le _, rfl⟩ ?_ ?_
  · refine Next.weakS [3] [] (by rfl) (by first | exact keeps0 hC _ | exact keepsN hC _ rfl) (by repeat (first | exact trivial | refine ⟨⟨_, rfl, .inl ⟨rfl, rfl⟩⟩, ?_⟩ | refine ⟨⟨_, rfl, .inl ⟨slEq rfl tN, rfl⟩⟩, ?_⟩ | refine ⟨⟨_, rfl, .inl ⟨ivEq tX, rfl⟩⟩, ?_⟩)) (by repeat (first | exact trivial | refine ⟨ent_same rfl rfl rfl tL, ?_⟩ | refine ⟨ent_same rfl rfl (rfEq rfl tU) tL, ?_⟩ | refine ⟨ent_same rfl rfl (flEq rfl (by first | (simp; done) | (simp; omega) | (simp [encE, encN, encB]; done) | simp [maxC, minC])) trivial, ?_⟩)) rfl (rel_intro)
  · intro i ⟨hi, ho⟩ K hK
    refine nK ?_
    refine s_reg rfl ?_
    first | refine Run.pure (dd := some 8) rfl rfl (op_move rfl (Opd.tmp _ _ rfl)) ?_ | refine Run.pure (dd := some 8) rfl rfl (op_junk (.inl rfl)) ?_
    first | refine Run.pure (dd := some 9) rfl rfl (op_fld_ptr (by decide) rfl (Opd.tmp _ _ rfl)) ?_ | refine Run.pure (dd := some 9) rfl rfl (op_fld_fz (by decide) rfl (Opd.tmp _ _ rfl) tR) ?_
    first | refine Run.load (dd := some 10) rfl rfl (op_load1_flat rfl (Opd.tmp _ _ rfl) tH rfl) ?_ | refine Run.pure (dd := some 10) rfl rfl (op_load1_fz rfl (Opd.tmp _ _ rfl) rfl) ?_ | refine Run.load (dd := some 10) rfl rfl (op_load1_refs rfl (Opd.tmp _ _ rfl) tH rfl) ?_
    first | refine Run.pure (dd := some 11) rfl rfl (op_len_fz rfl (by first | exact Opd.tmp _ _ rfl | exact Opd.nil _ _ (Opd.tmp _ _ rfl)) (by first | exact List.length_map _ | rfl)) ?_ | refine Run.pure (dd := some 11) rfl rfl (op_len_sl rfl (Opd.tmp _ _ rfl)) ?_
    refine Run.pure (dd := some 12) rfl rfl (op_lss rfl (Opd.tmp _ _ rfl) (Opd.tmp _ _ rfl)) ?_
    refine Run.nil (FinR.mk ?_)
    refine nK ?_
    refine n_cond _ rfl (fun hb => ?_) (fun hb => ?_)
    · have hlt : i < g.es.length := by simp at hb; omega
      have hr1 := row_at' encE g.es i hlt
      rw [List.drop_eq_getElem_cons hlt] at ho
      simp only [fndAt] at ho
      have hK1 := fun h => hK (i + 1) ⟨by omega, h⟩ (by omega)
      generalize g.es[i] = e at *
      refine nK ?_
      refine s_reg rfl ?_
      first | refine Run.pure (dd := some 15) rfl rfl (op_fld_ptr (by decide) rfl (Opd.tmp _ _ rfl)) ?_ | refine Run.pure (dd := some 15) rfl rfl (op_fld_fz (by decide) rfl (Opd.tmp _ _ rfl) tR) ?_
      first | refine Run.load (dd := some 16) rfl rfl (op_load1_flat rfl (Opd.tmp _ _ rfl) tH rfl) ?_ | refine Run.pure (dd := some 16) rfl rfl (op_load1_fz rfl (Opd.tmp _ _ rfl) rfl) ?_ | refine Run.load (dd := some 16) rfl rfl (op_load1_refs rfl (Opd.tmp _ _ rfl) tH rfl) ?_
      first | refine Run.pure (dd := some 17) rfl rfl (op_move rfl (Opd.tmp _ _ rfl)) ?_ | refine Run.pure (dd := some 17) rfl rfl (op_junk (.inl rfl)) ?_
      first | refine Run.pure (dd := some 18) rfl rfl (op_idx_sl0 _ rfl (Opd.tmp _ _ rfl) (Opd.tmp _ _ rfl) tD) ?_ | refine Run.pure (dd := some 18) rfl rfl (op_idx_fz _ rfl (Opd.tmp _ _ rfl) (Opd.tmp _ _ rfl) tF) ?_
      first | refine Run.pure (dd := some 19) rfl rfl (op_fld_ptr (by decide) rfl (Opd.tmp _ _ rfl)) ?_ | refine Run.pure (dd := some 19) rfl rfl (op_fld_fz (by decide) rfl (Opd.tmp _ _ rfl) tR) ?_
      first | refine Run.load (dd := some 20) rfl rfl (op_load1_flat rfl (Opd.tmp _ _ rfl) tH rfl) ?_ | refine Run.pure (dd := some 20) rfl rfl (op_load1_fz rfl (Opd.tmp _ _ rfl) rfl) ?_ | refine Run.load (dd := some 20) rfl rfl (op_load1_refs rfl (Opd.tmp _ _ rfl) tH rfl) ?_
      first | refine Run.pure (dd := some 21) rfl rfl (op_move rfl (Opd.tmp _ _ rfl)) ?_ | refine Run.pure (dd := some 21) rfl rfl (op_junk (.inl rfl)) ?_
      refine Run.pure (dd := some 22) rfl rfl (op_eql rfl (Opd.tmp _ _ rfl) (Opd.tmp _ _ rfl)) ?_
      first | refine Run.pure (dd := some 23) rfl rfl (op_move rfl (Opd.tmp _ _ rfl)) ?_ | refine Run.pure (dd := some 23) rfl rfl (op_junk (.inl rfl)) ?_
      first | refine Run.pureG (dd := some 24) rfl rfl rfl tG (op_fld_ptr (by decide) rfl (Opd.tmp _ _ rfl)) ?_ | refine Run.pureG (dd := some 24) rfl rfl rfl tG (op_fld_fz (by decide) rfl (Opd.tmp _ _ rfl) tR) ?_
      first | refine Run.loadG (dd := some 25) rfl rfl rfl tG (op_load1_flat rfl (Opd.topt _ _ _ rfl tO) tH rfl) ?_ | refine Run.pureG (dd := some 25) rfl rfl rfl tG (op_load1_fz rfl (Opd.topt _ _ _ rfl tO) rfl) ?_ | refine Run.loadG (dd := some 25) rfl rfl rfl tG (op_load1_refs rfl (Opd.topt _ _ _ rfl tO) tH rfl) ?_
      first | refine Run.pureG (dd := some 26) rfl rfl rfl tG (op_move rfl (Opd.tmp _ _ rfl)) ?_ | refine Run.pureG (dd := some 26) rfl rfl rfl tG (op_junk (.inl rfl)) ?_
      first | refine Run.pureG (dd := some 27) rfl rfl rfl tG (op_idx_sl0 _ rfl (Opd.topt _ _ _ rfl tO) (Opd.topt _ _ _ rfl tO) tD) ?_ | refine Run.pureG (dd := some 27) rfl rfl rfl tG (op_idx_fz _ rfl (Opd.topt _ _ _ rfl tO) (Opd.topt _ _ _ rfl tO) tF) ?_
      first | refine Run.pureG (dd := some 28) rfl rfl rfl tG (op_fld_ptr (by decide) rfl (Opd.topt _ _ _ rfl tO)) ?_ | refine Run.pureG (dd := some 28) rfl rfl rfl tG (op_fld_fz (by decide) rfl (Opd.topt _ _ _ rfl tO) tR) ?_
      first | refine Run.loadG (dd := some 29) rfl rfl rfl tG (op_load1_flat rfl (Opd.topt _ _ _ rfl tO) tH rfl) ?_ | refine Run.pureG (dd := some 29) rfl rfl rfl tG (op_load1_fz rfl (Opd.topt _ _ _ rfl tO) rfl) ?_ | refine Run.loadG (dd := some 29) rfl rfl rfl tG (op_load1_refs rfl (Opd.topt _ _ _ rfl tO) tH rfl) ?_
      first | refine Run.pureG (dd := some 30) rfl rfl rfl tG (op_move rfl (Opd.tmp _ _ rfl)) ?_ | refine Run.pureG (dd := some 30) rfl rfl rfl tG (op_junk (.inl rfl)) ?_
      refine Run.pureG (dd := some 31) rfl rfl rfl tG (op_eql rfl (Opd.topt _ _ _ rfl tO) (Opd.topt _ _ _ rfl tO)) ?_
      refine Run.pure (dd := some 32) rfl rfl (op_pick_and rfl (Opd.tmp _ _ rfl) (Opd.topt _ _ _ rfl tO)) ?_
      refine Run.nil (FinR.mk ?_)
      refine nK ?_
      refine n_cond _ rfl (fun hb => ?_) (fun hb => ?_)
      · rw [if_pos (by simpa [isB] using hb)] at ho
        rw [← ho]
        refine nK ?_
        refine s_reg rfl ?_
        first | refine Run.pure (dd := some 33) rfl rfl (op_move rfl (Opd.tmp _ _ rfl)) ?_ | refine Run.pure (dd := some 33) rfl rfl (op_junk (.inl rfl)) ?_
        first | refine Run.pure (dd := some 6) rfl rfl (op_assign rfl (Opd.tmp _ _ rfl)) ?_ | refine Run.pure (dd := some 6) rfl rfl (op_junk (.inr rfl)) ?_
        refine Run.nil (FinR.mk ?_)
        refine nK ?_
        (first | exact s_o1 hC rfl tV | exact s_o2 hC rfl tV tV | exact s_o3 hC rfl tV tV tV | exact s_out0 hC rfl | exact s_outO hC rfl rfl rfl)
      · rw [if_neg (by simpa [isB] using hb)] at ho
        refine nK ?_
        refine s_reg rfl ?_
        first | refine Run.pure (dd := some 13) rfl rfl (op_move rfl (Opd.tmp _ _ rfl)) ?_ | refine Run.pure (dd := some 13) rfl rfl (op_junk (.inl rfl)) ?_
        refine Run.pure (dd := some 14) rfl rfl (op_add rfl (Opd.tmp _ _ rfl) (Opd.const _) tI) ?_
        first | refine Run.pure (dd := some 7) rfl rfl (op_assign rfl (Opd.tmp _ _ rfl)) ?_ | refine Run.pure (dd := some 7) rfl rfl (op_junk (.inr rfl)) ?_
        refine Run.nil (FinR.mk ?_)
        refine nK ?_
        refine Next.weakS [3] [] (by rfl) (by first | exact keeps0 hC _ | exact keepsN hC _ rfl) (by repeat (first | exact trivial | refine ⟨⟨_, rfl, .inl ⟨rfl, rfl⟩⟩, ?_⟩ | refine ⟨⟨_, rfl, .inl ⟨slEq rfl tN, rfl⟩⟩, ?_⟩ | refine ⟨⟨_, rfl, .inl ⟨ivEq tX, rfl⟩⟩, ?_⟩)) (by repeat (first | exact trivial | refine ⟨ent_same rfl rfl rfl tL, ?_⟩ | refine ⟨ent_same rfl rfl (rfEq rfl tU) tL, ?_⟩ | refine ⟨ent_same rfl rfl (flEq rfl (by first | (simp; done) | (simp; omega) | (simp [encE, encN, encB]; done) | simp [maxC, minC])) trivial, ?_⟩)) rfl ((hK1 ho))
    · have hie : i = g.es.length := by simp at hb; omega
      rw [hie, List.drop_length] at ho
      rw [← ho]
      refine nK ?_
      refine s_reg rfl ?_
      first | refine Run.pure (dd := some 6) rfl rfl (op_assign rfl (Opd.const _)) ?_ | refine Run.pure (dd := some 6) rfl rfl (op_junk (.inr rfl)) ?_
      refine Run.nil (FinR.mk ?_)
      refine nK ?_
      (first | exact s_o1 hC rfl tV | exact s_o2 hC rfl tV tV | exact s_o3 hC rfl tV tV tV | exact s_out0 hC rfl | exact s_outO hC rfl rfl rfl)
theorem rcost_c (g : Gr) (f t : Int) (hn : g.es.length ≤ 2000000) : Pure Try.prog 20 [.agg (encG g), If .i64 f, If .i64 t] (.tup [If .i64 (costL f t g.es).1, Bf (costL f t g.es).2]) := by
  rcases cost_fnd f t g.es 0 with ⟨h1, h2⟩ | ⟨j, hj, h1, h2⟩
  · rw [h2]
    refine Meets.intro Try.func20 rfl (Nat.le_of_ble_eq_true rfl) fun C hC => ?_
    simp only [List.map, argEnv, Nat.reduceAdd]
    refine nK ?_
    refine s_reg rfl ?_
    first | refine Run.eff (dd := some 3) rfl rfl (op_box_flat rfl (Opd.tmp _ _ rfl) tC rfl) ?_ | refine Run.eff (dd := some 3) rfl rfl (op_box_refs rfl (Opd.tmp _ _ rfl) tP rfl) ?_
    first | refine Run.pure (dd := some 6) rfl rfl (op_assign rfl (Opd.const _)) ?_ | refine Run.pure (dd := some 6) rfl rfl (op_junk (.inr rfl)) ?_
    first | refine Run.pure (dd := some 7) rfl rfl (op_assign rfl (Opd.const _)) ?_ | refine Run.pure (dd := some 7) rfl rfl (op_junk (.inr rfl)) ?_
    refine Run.nil (FinR.mk ?_)
    refine nK ?_
    refine s_reg rfl ?_
    first | refine Run.load (dd := some 9) rfl rfl (op_loadw_flat rfl (Opd.tmp _ _ rfl) tH rfl) ?_ | refine Run.pure (dd := some 9) rfl rfl (op_loadw_fz rfl (Opd.tmp _ _ rfl) rfl) ?_ | refine Run.load (dd := some 9) rfl rfl (op_loadn_flat rfl (Opd.tmp _ _ rfl) tH tR tR) ?_ | refine Run.pure (dd := some 9) rfl rfl (op_loadn_fz rfl (Opd.tmp _ _ rfl) tR) ?_ | refine Run.load (dd := some 9) rfl rfl (op_loadn_refs rfl (Opd.tmp _ _ rfl) tH tR tR) ?_
    first | refine Run.pure (dd := some 10) rfl rfl (op_move rfl (Opd.tmp _ _ rfl)) ?_ | refine Run.pure (dd := some 10) rfl rfl (op_junk (.inl rfl)) ?_
    first | refine Run.pure (dd := some 11) rfl rfl (op_move rfl (Opd.tmp _ _ rfl)) ?_ | refine Run.pure (dd := some 11) rfl rfl (op_junk (.inl rfl)) ?_
    refine Run.pure (dd := some 12) rfl rfl (op_call_pure (fun _ => find_c _ _ _ (by omega)) rfl (Opd.func _) (Opds.cons _ _ _ _ (Opd.tmp _ _ rfl) (Opds.cons _ _ _ _ (Opd.tmp _ _ rfl) (Opds.cons _ _ _ _ (Opd.tmp _ _ rfl) Opds.nil)))) ?_
    first | refine Run.pure (dd := some 8) rfl rfl (op_assign rfl (Opd.tmp _ _ rfl)) ?_ | refine Run.pure (dd := some 8) rfl rfl (op_junk (.inr rfl)) ?_
    refine Run.nil (FinR.mk ?_)
    refine nK ?_
    refine s_reg rfl ?_
    first | refine Run.pure (dd := some 13) rfl rfl (op_move rfl (Opd.tmp _ _ rfl)) ?_ | refine Run.pure (dd := some 13) rfl rfl (op_junk (.inl rfl)) ?_
    refine Run.pure (dd := some 14) rfl rfl (op_lss rfl (Opd.tmp _ _ rfl) (Opd.const _)) ?_
    refine Run.nil (FinR.mk ?_)
    refine nK ?_
    have h1' : fndI g.es f t = -1 := h1
    rw [h1']
    refine nK ?_
    refine n_cond _ rfl (fun hb => ?_) (fun hb => ?_)
    · refine nK ?_
      refine s_reg rfl ?_
      first | refine Run.pure (dd := some 6) rfl rfl (op_assign rfl (Opd.const _)) ?_ | refine Run.pure (dd := some 6) rfl rfl (op_junk (.inr rfl)) ?_
      first | refine Run.pure (dd := some 7) rfl rfl (op_assign rfl (Opd.const _)) ?_ | refine Run.pure (dd := some 7) rfl rfl (op_junk (.inr rfl)) ?_
      refine Run.nil (FinR.mk ?_)
      refine nK ?_
      (first | exact s_o1 hC rfl tV | exact s_o2 hC rfl tV tV | exact s_o3 hC rfl tV tV tV | exact s_out0 hC rfl | exact s_outO hC rfl rfl rfl)
    · simp at hb
  · rw [h2]
    have hr1 := row_at' encE g.es j hj
    refine Meets.intro Try.func20 rfl (Nat.le_of_ble_eq_true rfl) fun C hC => ?_
    simp only [List.map, argEnv, Nat.reduceAdd]
    refine nK ?_
    refine s_reg rfl ?_
    first | refine Run.eff (dd := some 3) rfl rfl (op_box_flat rfl (Opd.tmp _ _ rfl) tC rfl) ?_ | refine Run.eff (dd := some 3) rfl rfl (op_box_refs rfl (Opd.tmp _ _ rfl) tP rfl) ?_
    first | refine Run.pure (dd := some 6) rfl rfl (op_assign rfl (Opd.const _)) ?_ | refine Run.pure (dd := some 6) rfl rfl (op_junk (.inr rfl)) ?_
    first | refine Run.pure (dd := some 7) rfl rfl (op_assign rfl (Opd.const _)) ?_ | refine Run.pure (dd := some 7) rfl rfl (op_junk (.inr rfl)) ?_
    refine Run.nil (FinR.mk ?_)
    refine nK ?_
    refine s_reg rfl ?_
    first | refine Run.load (dd := some 9) rfl rfl (op_loadw_flat rfl (Opd.tmp _ _ rfl) tH rfl) ?_ | refine Run.pure (dd := some 9) rfl rfl (op_loadw_fz rfl (Opd.tmp _ _ rfl) rfl) ?_ | refine Run.load (dd := some 9) rfl rfl (op_loadn_flat rfl (Opd.tmp _ _ rfl) tH tR tR) ?_ | refine Run.pure (dd := some 9) rfl rfl (op_loadn_fz rfl (Opd.tmp _ _ rfl) tR) ?_ | refine Run.load (dd := some 9) rfl rfl (op_loadn_refs rfl (Opd.tmp _ _ rfl) tH tR tR) ?_
    first | refine Run.pure (dd := some 10) rfl rfl (op_move rfl (Opd.tmp _ _ rfl)) ?_ | refine Run.pure (dd := some 10) rfl rfl (op_junk (.inl rfl)) ?_
    first | refine Run.pure (dd := some 11) rfl rfl (op_move rfl (Opd.tmp _ _ rfl)) ?_ | refine Run.pure (dd := some 11) rfl rfl (op_junk (.inl rfl)) ?_
    refine Run.pure (dd := some 12) rfl rfl (op_call_pure (fun _ => find_c _ _ _ (by omega)) rfl (Opd.func _) (Opds.cons _ _ _ _ (Opd.tmp _ _ rfl) (Opds.cons _ _ _ _ (Opd.tmp _ _ rfl) (Opds.cons _ _ _ _ (Opd.tmp _ _ rfl) Opds.nil)))) ?_
    first | refine Run.pure (dd := some 8) rfl rfl (op_assign rfl (Opd.tmp _ _ rfl)) ?_ | refine Run.pure (dd := some 8) rfl rfl (op_junk (.inr rfl)) ?_
    refine Run.nil (FinR.mk ?_)
    refine nK ?_
    refine s_reg rfl ?_
    first | refine Run.pure (dd := some 13) rfl rfl (op_move rfl (Opd.tmp _ _ rfl)) ?_ | refine Run.pure (dd := some 13) rfl rfl (op_junk (.inl rfl)) ?_
    refine Run.pure (dd := some 14) rfl rfl (op_lss rfl (Opd.tmp _ _ rfl) (Opd.const _)) ?_
    refine Run.nil (FinR.mk ?_)
    refine nK ?_
    have h1' : fndI g.es f t = ((0 + j : Nat) : Int) := h1
    rw [h1']
    refine nK ?_
    refine n_cond _ rfl (fun hb => ?_) (fun hb => ?_)
    · simp at hb; omega
    · refine nK ?_
      refine s_reg rfl ?_
      first | refine Run.pure (dd := some 15) rfl rfl (op_fld_ptr (by decide) rfl (Opd.tmp _ _ rfl)) ?_ | refine Run.pure (dd := some 15) rfl rfl (op_fld_fz (by decide) rfl (Opd.tmp _ _ rfl) tR) ?_
      first | refine Run.load (dd := some 16) rfl rfl (op_load1_flat rfl (Opd.tmp _ _ rfl) tH rfl) ?_ | refine Run.pure (dd := some 16) rfl rfl (op_load1_fz rfl (Opd.tmp _ _ rfl) rfl) ?_ | refine Run.load (dd := some 16) rfl rfl (op_load1_refs rfl (Opd.tmp _ _ rfl) tH rfl) ?_
      first | refine Run.pure (dd := some 17) rfl rfl (op_move rfl (Opd.tmp _ _ rfl)) ?_ | refine Run.pure (dd := some 17) rfl rfl (op_junk (.inl rfl)) ?_
      refine Run.pure (dd := some 18) rfl rfl (op_idx_fz j rfl (Opd.tmp _ _ rfl) (Opd.tmp _ _ rfl) (by intro _; exact ⟨by omega, hr1⟩)) ?_
      first | refine Run.pure (dd := some 19) rfl rfl (op_fld_ptr (by decide) rfl (Opd.tmp _ _ rfl)) ?_ | refine Run.pure (dd := some 19) rfl rfl (op_fld_fz (by decide) rfl (Opd.tmp _ _ rfl) tR) ?_
      first | refine Run.load (dd := some 20) rfl rfl (op_load1_flat rfl (Opd.tmp _ _ rfl) tH rfl) ?_ | refine Run.pure (dd := some 20) rfl rfl (op_load1_fz rfl (Opd.tmp _ _ rfl) rfl) ?_ | refine Run.load (dd := some 20) rfl rfl (op_load1_refs rfl (Opd.tmp _ _ rfl) tH rfl) ?_
      first | refine Run.pure (dd := some 6) rfl rfl (op_assign rfl (Opd.tmp _ _ rfl)) ?_ | refine Run.pure (dd := some 6) rfl rfl (op_junk (.inr rfl)) ?_
      first | refine Run.pure (dd := some 7) rfl rfl (op_assign rfl (Opd.const _)) ?_ | refine Run.pure (dd := some 7) rfl rfl (op_junk (.inr rfl)) ?_
      refine Run.nil (FinR.mk ?_)
      refine nK ?_
      (first | exact s_o1 hC rfl tV | exact s_o2 hC rfl tV tV | exact s_o3 hC rfl tV tV tV | exact s_out0 hC rfl | exact s_outO hC rfl rfl rfl)
theorem same_step {α : Type} [DecidableEq α] {a b : List α} {i : Nat} (ha : i < a.length) (hb : i < b.length) : (a.drop i = b.drop i) ↔ a[i] = b[i] ∧ a.drop (i + 1) = b.drop (i + 1) := by
  rw [List.drop_eq_getElem_cons ha, List.drop_eq_getElem_cons hb, List.cons.injEq]
theorem sameints_c (a b : List Int) (ha : a.length ≤ 2000000) (hb0 : b.length ≤ 2000000) : Pure Try.prog 17 [VI a, VI b] (Bf (decide (a = b))) := by
  refine Meets.intro Try.func17 rfl (Nat.le_of_ble_eq_true rfl) fun C hC => ?_
  simp only [List.map, argEnv, Nat.reduceAdd]
  refine nK ?_
  refine s_reg rfl ?_
  first | refine Run.pure (dd := some 4) rfl rfl (op_assign rfl (Opd.const _)) ?_ | refine Run.pure (dd := some 4) rfl rfl (op_junk (.inr rfl)) ?_
  refine Run.nil (FinR.mk ?_)
  refine nK ?_
  refine s_reg rfl ?_
  first | refine Run.pure (dd := some 6) rfl rfl (op_move rfl (Opd.tmp _ _ rfl)) ?_ | refine Run.pure (dd := some 6) rfl rfl (op_junk (.inl rfl)) ?_
  first | refine Run.pure (dd := some 7) rfl rfl (op_len_fz rfl (by first | exact Opd.tmp _ _ rfl | exact Opd.nil _ _ (Opd.tmp _ _ rfl)) (by first | exact List.length_map _ | rfl)) ?_ | refine Run.pure (dd := some 7) rfl rfl (op_len_sl rfl (Opd.tmp _ _ rfl)) ?_
  first | refine Run.pure (dd := some 8) rfl rfl (op_move rfl (Opd.tmp _ _ rfl)) ?_ | refine Run.pure (dd := some 8) rfl rfl (op_junk (.inl rfl)) ?_
  first | refine Run.pure (dd := some 9) rfl rfl (op_len_fz rfl (by first | exact Opd.tmp _ _ rfl | exact Opd.nil _ _ (Opd.tmp _ _ rfl)) (by first | exact List.length_map _ | rfl)) ?_ | refine Run.pure (dd := some 9) rfl rfl (op_len_sl rfl (Opd.tmp _ _ rfl)) ?_
  refine Run.pure (dd := some 10) rfl rfl (op_neq rfl (Opd.tmp _ _ rfl) (Opd.tmp _ _ rfl)) ?_
  refine Run.nil (FinR.mk ?_)
  refine nK ?_
  refine n_cond _ rfl (fun hb => ?_) (fun hb => ?_)
  · have e : decide (a = b) = false := by
      rw [decide_eq_false_iff_not]; rintro rfl; simp at hb
    rw [e]
    refine nK ?_
    refine s_reg rfl ?_
    first | refine Run.pure (dd := some 4) rfl rfl (op_assign rfl (Opd.const _)) ?_ | refine Run.pure (dd := some 4) rfl rfl (op_junk (.inr rfl)) ?_
    refine Run.nil (FinR.mk ?_)
    refine nK ?_
    (first | exact s_o1 hC rfl tV | exact s_o2 hC rfl tV tV | exact s_o3 hC rfl tV tV tV | exact s_out0 hC rfl | exact s_outO hC rfl rfl rfl)
  · have hl : a.length = b.length := by simp at hb; omega
    refine nK ?_
    refine s_reg rfl ?_
    first | refine Run.pure (dd := some 5) rfl rfl (op_assign rfl (Opd.const _)) ?_ | refine Run.pure (dd := some 5) rfl rfl (op_junk (.inr rfl)) ?_
    refine Run.nil (FinR.mk ?_)
    refine nK ?_
    refine n_loop (ι := Nat) (fun i => ([(0, .fz (VI a)), (1, .fz (VI b)), (5, IV .i64 i)], [], 0)) (fun i => i ≤ a.length ∧ (a = b ↔ a.drop i = b.drop i)) (fun i => a.length - i) 0 ⟨Nat.zero_le _, Iff.rfl⟩ ?_ ?_
    · refine Next.weak [] [] (by rfl) (keeps0 hC _) (by repeat (first | exact trivial | refine ⟨⟨_, rfl, .inl ⟨rfl, rfl⟩⟩, ?_⟩)) (by repeat (first | exact trivial | refine ⟨ent_same rfl rfl rfl tL, ?_⟩ | refine ⟨ent_same rfl rfl (rfEq rfl tU) tL, ?_⟩ | refine ⟨ent_same rfl rfl (flEq rfl (by first | (simp; done) | (simp; omega) | (simp [encE, encN, encB]; done) | simp [maxC, minC])) trivial, ?_⟩)) (fun _ h => by simp at h) rel_intro
    · intro i ⟨hi, ho⟩ K hK
      refine nK ?_
      refine s_reg rfl ?_
      first | refine Run.pure (dd := some 11) rfl rfl (op_move rfl (Opd.tmp _ _ rfl)) ?_ | refine Run.pure (dd := some 11) rfl rfl (op_junk (.inl rfl)) ?_
      first | refine Run.pure (dd := some 12) rfl rfl (op_move rfl (Opd.tmp _ _ rfl)) ?_ | refine Run.pure (dd := some 12) rfl rfl (op_junk (.inl rfl)) ?_
      first | refine Run.pure (dd := some 13) rfl rfl (op_len_fz rfl (by first | exact Opd.tmp _ _ rfl | exact Opd.nil _ _ (Opd.tmp _ _ rfl)) (by first | exact List.length_map _ | rfl)) ?_ | refine Run.pure (dd := some 13) rfl rfl (op_len_sl rfl (Opd.tmp _ _ rfl)) ?_
      refine Run.pure (dd := some 14) rfl rfl (op_lss rfl (Opd.tmp _ _ rfl) (Opd.tmp _ _ rfl)) ?_
      refine Run.nil (FinR.mk ?_)
      refine nK ?_
      refine n_cond _ rfl (fun hb => ?_) (fun hb => ?_)
      · have hlt : i < a.length := by simp at hb; omega
        have hlt2 : i < b.length := by omega
        rw [same_step hlt hlt2] at ho
        have hr1 := row_at' encN a i hlt
        have hr2 := row_at' encN b i hlt2
        have hK1 := fun h => hK (i + 1) ⟨by omega, h⟩ (by omega)
        generalize a[i] = x at *
        generalize b[i] = y at *
        refine nK ?_
        refine s_draw mixed ?_
        first | refine Run.pure (dd := some 17) rfl rfl (op_move rfl (Opd.tmp _ _ rfl)) ?_ | refine Run.pure (dd := some 17) rfl rfl (op_junk (.inl rfl)) ?_
        first | refine Run.pure (dd := some 18) rfl rfl (op_move rfl (Opd.tmp _ _ rfl)) ?_ | refine Run.pure (dd := some 18) rfl rfl (op_junk (.inl rfl)) ?_
        first | refine Run.pure (dd := some 19) rfl rfl (op_idx_sl0 _ rfl (Opd.tmp _ _ rfl) (Opd.tmp _ _ rfl) tD) ?_ | refine Run.pure (dd := some 19) rfl rfl (op_idx_fz _ rfl (Opd.tmp _ _ rfl) (Opd.tmp _ _ rfl) tF) ?_
        first | refine Run.load (dd := some 20) rfl rfl (op_load1_flat rfl (Opd.tmp _ _ rfl) tH rfl) ?_ | refine Run.pure (dd := some 20) rfl rfl (op_load1_fz rfl (Opd.tmp _ _ rfl) rfl) ?_ | refine Run.load (dd := some 20) rfl rfl (op_load1_refs rfl (Opd.tmp _ _ rfl) tH rfl) ?_
        first | refine Run.pure (dd := some 21) rfl rfl (op_move rfl (Opd.tmp _ _ rfl)) ?_ | refine Run.pure (dd := some 21) rfl rfl (op_junk (.inl rfl)) ?_
        first | refine Run.pure (dd := some 22) rfl rfl (op_move rfl (Opd.tmp _ _ rfl)) ?_ | refine Run.pure (dd := some 22) rfl rfl (op_junk (.inl rfl)) ?_
        first | refine Run.pure (dd := some 23) rfl rfl (op_idx_sl0 _ rfl (Opd.tmp _ _ rfl) (Opd.tmp _ _ rfl) tD) ?_ | refine Run.pure (dd := some 23) rfl rfl (op_idx_fz _ rfl (Opd.tmp _ _ rfl) (Opd.tmp _ _ rfl) tF) ?_
        first | refine Run.load (dd := some 24) rfl rfl (op_load1_flat rfl (Opd.tmp _ _ rfl) tH rfl) ?_ | refine Run.pure (dd := some 24) rfl rfl (op_load1_fz rfl (Opd.tmp _ _ rfl) rfl) ?_ | refine Run.load (dd := some 24) rfl rfl (op_load1_refs rfl (Opd.tmp _ _ rfl) tH rfl) ?_
        refine Run.pure (dd := some 25) rfl rfl (op_neq rfl (Opd.tmp _ _ rfl) (Opd.tmp _ _ rfl)) ?_
        refine Run.nil (FinD.mk (by kernel_rfl) ?_)
        refine nK ?_
        refine n_cond _ rfl (fun hb => ?_) (fun hb => ?_)
        · have e : decide (a = b) = false := by
            rw [decide_eq_false_iff_not, ho]; simp at hb; exact fun h => hb h.1
          rw [e]
          refine nK ?_
          refine s_reg rfl ?_
          first | refine Run.pure (dd := some 4) rfl rfl (op_assign rfl (Opd.const _)) ?_ | refine Run.pure (dd := some 4) rfl rfl (op_junk (.inr rfl)) ?_
          refine Run.nil (FinR.mk ?_)
          refine nK ?_
          (first | exact s_o1 hC rfl tV | exact s_o2 hC rfl tV tV | exact s_o3 hC rfl tV tV tV | exact s_out0 hC rfl | exact s_outO hC rfl rfl rfl)
        · refine nK ?_
          refine s_reg rfl ?_
          first | refine Run.pure (dd := some 15) rfl rfl (op_move rfl (Opd.tmp _ _ rfl)) ?_ | refine Run.pure (dd := some 15) rfl rfl (op_junk (.inl rfl)) ?_
          refine Run.pure (dd := some 16) rfl rfl (op_add rfl (Opd.tmp _ _ rfl) (Opd.const _) tI) ?_
          first | refine Run.pure (dd := some 5) rfl rfl (op_assign rfl (Opd.tmp _ _ rfl)) ?_ | refine Run.pure (dd := some 5) rfl rfl (op_junk (.inr rfl)) ?_
          refine Run.nil (FinR.mk ?_)
          refine nK ?_
          refine Next.weak [] [] (by rfl) (keeps0 hC _) (by repeat (first | exact trivial | refine ⟨⟨_, rfl, .inl ⟨rfl, rfl⟩⟩, ?_⟩)) (by repeat (first | exact trivial | refine ⟨ent_same rfl rfl rfl tL, ?_⟩ | refine ⟨ent_same rfl rfl (rfEq rfl tU) tL, ?_⟩ | refine ⟨ent_same rfl rfl (flEq rfl (by first | (simp; done) | (simp; omega) | (simp [encE, encN, encB]; done) | simp [maxC, minC])) trivial, ?_⟩)) (fun _ h => by simp at h) (hK1 (ho.trans ⟨fun h => h.2, fun h => ⟨by simpa using hb, h⟩⟩))
      · have hie : i = a.length := by simp at hb; omega
        have e : decide (a = b) = true := by
          rw [decide_eq_true_iff, ho, hie, List.drop_length, hl, List.drop_length]
        rw [e]
        refine nK ?_
        refine s_reg rfl ?_
        first | refine Run.pure (dd := some 4) rfl rfl (op_assign rfl (Opd.const _)) ?_ | refine Run.pure (dd := some 4) rfl rfl (op_junk (.inr rfl)) ?_
        refine Run.nil (FinR.mk ?_)
        refine nK ?_
        (first | exact s_o1 hC rfl tV | exact s_o2 hC rfl tV tV | exact s_o3 hC rfl tV tV tV | exact s_out0 hC rfl | exact s_outO hC rfl rfl rfl)
end Go.Proofs.Ytgbfkpcigipniaa
/- Contracts of the library, laid at this translation. Written by the kit's printer. -/
namespace Go.Proofs.Ytgbfkpcigipniaa
open Go Go.Proofs Go.Shelf
def Try.sortFI_ren : Go.Shelf.Ren := ⟨fun | 6 => 51 | 15 => 68 | 14 => 67 | 28 => 83 | 29 => 84 | 20 => 75 | 21 => 76 | 22 => 77 | 23 => 78 | 24 => 79 | 25 => 80 | 26 => 81 | 27 => 82 | 46 => 86 | 47 => 87 | 48 => 88 | 49 => 89 | 50 => 90 | 57 => 92 | n => n, fun | 22 => 25 | 24 => 3 | 25 => 72 | 3 => 3 | 39 => 84 | 0 => 0 | 53 => 95 | 55 => 97 | 4 => 4 | 46 => 89 | 45 => 88 | 50 => 42 | 5 => 5 | 9 => 9 | 66 => 98 | 70 => 102 | 76 => 105 | 77 => 106 | n => n, fun | n => n⟩
theorem Try.sortFI : Go.Proofs.SlLaysF.n6 Try.prog Try.sortFI_ren := {
  mixed := by kernel_rfl
  f6 := ⟨Try.f51.name, by decide, Try.func51.trans (congrArg some (by kernel_rfl))⟩
  f14 := ⟨Try.f67.name, by decide, Try.func67.trans (congrArg some (by kernel_rfl))⟩
  f15 := Try.func68.trans (congrArg some (by kernel_rfl))
  f20 := ⟨Try.f75.name, by decide, Try.func75.trans (congrArg some (by kernel_rfl))⟩
  f21 := ⟨Try.f76.name, by decide, Try.func76.trans (congrArg some (by kernel_rfl))⟩
  f22 := ⟨Try.f77.name, by decide, Try.func77.trans (congrArg some (by kernel_rfl))⟩
  f23 := ⟨Try.f78.name, by decide, Try.func78.trans (congrArg some (by kernel_rfl))⟩
  f24 := ⟨Try.f79.name, by decide, Try.func79.trans (congrArg some (by kernel_rfl))⟩
  f25 := ⟨Try.f80.name, by decide, Try.func80.trans (congrArg some (by kernel_rfl))⟩
  f26 := ⟨Try.f81.name, by decide, Try.func81.trans (congrArg some (by kernel_rfl))⟩
  f27 := ⟨Try.f82.name, by decide, Try.func82.trans (congrArg some (by kernel_rfl))⟩
  f28 := Try.func83.trans (congrArg some (by kernel_rfl))
  f29 := Try.func84.trans (congrArg some (by kernel_rfl))
  f46 := ⟨Try.f86.name, by decide, Try.func86.trans (congrArg some (by kernel_rfl))⟩
  f47 := Try.func87.trans (congrArg some (by kernel_rfl))
  f48 := Try.func88.trans (congrArg some (by kernel_rfl))
  f49 := ⟨Try.f89.name, by decide, Try.func89.trans (congrArg some (by kernel_rfl))⟩
  f50 := ⟨Try.f90.name, by decide, Try.func90.trans (congrArg some (by kernel_rfl))⟩
  f57 := ⟨Try.f92.name, by decide, Try.func92.trans (congrArg some (by kernel_rfl))⟩
  t0 := Try.underlying0
  a0 := Try.isAgg0
  z0 := Try.sizeOf0
  v0 := Try.zeroValue0
  t3 := Try.underlying3
  a3 := Try.isAgg3
  z3 := Try.sizeOf3
  v3 := Try.zeroValue3
  t4 := Try.underlying4
  a4 := Try.isAgg4
  z4 := Try.sizeOf4
  v4 := Try.zeroValue4
  t5 := Try.underlying5
  a5 := Try.isAgg5
  z5 := Try.sizeOf5
  v5 := Try.zeroValue5
  t9 := Try.underlying9
  a9 := Try.isAgg9
  z9 := Try.sizeOf9
  v9 := Try.zeroValue9
  t22 := Try.underlying25
  a22 := Try.isAgg25
  z22 := Try.sizeOf25
  v22 := Try.zeroValue25
  a24 := Try.isAgg3
  z24 := Try.sizeOf3
  t25 := Try.underlying72
  a25 := Try.isAgg72
  z25 := Try.sizeOf72
  v25 := Try.zeroValue72
  t39 := Try.underlying84
  a39 := Try.isAgg84
  z39 := Try.sizeOf84
  v39 := Try.zeroValue84
  t45 := Try.underlying88
  a45 := Try.isAgg88
  z45 := Try.sizeOf88
  v45 := Try.zeroValue88
  t46 := Try.underlying89
  a46 := Try.isAgg89
  z46 := Try.sizeOf89
  v46 := Try.zeroValue89
  t50 := Try.underlying42
  a50 := Try.isAgg42
  z50 := Try.sizeOf42
  v50 := Try.zeroValue42
  t53 := Try.underlying95
  a53 := Try.isAgg95
  z53 := Try.sizeOf95
  v53 := Try.zeroValue95
  t55 := Try.underlying97
  a55 := Try.isAgg97
  z55 := Try.sizeOf97
  v55 := Try.zeroValue97
  t66 := Try.underlying98
  a66 := Try.isAgg98
  z66 := Try.sizeOf98
  v66 := Try.zeroValue98
  t70 := Try.underlying102
  a70 := Try.isAgg102
  z70 := Try.sizeOf102
  v70 := Try.zeroValue102
  t76 := Try.underlying105
  a76 := Try.isAgg105
  z76 := Try.sizeOf105
  v76 := Try.zeroValue105
  t77 := Try.underlying106
  a77 := Try.isAgg106
  z77 := Try.sizeOf106
  v77 := Try.zeroValue106 }
end Go.Proofs.Ytgbfkpcigipniaa
/- Runs of equal elements cut to one. -/
namespace Go.Pl
set_option linter.all false
def ddF {α : Type} (eq : α → α → Bool) : α → List α → List α
  | _, [] => []
  | p, x :: l => bif eq x p then ddF eq x l else x :: ddF eq x l
def compL {α : Type} (eq : α → α → Bool) : List α → List α
  | [] => []
  | x :: l => x :: ddF eq x l
def lastD {α : Type} : α → List α → α
  | p, [] => p
  | _, x :: l => lastD x l
theorem ddF_snoc {α : Type} (eq : α → α → Bool) (y : α) : ∀ (l : List α) (p : α), ddF eq p (l ++ [y]) = ddF eq p l ++ bif eq y (lastD p l) then [] else [y]
  | [], p => by simp [ddF, lastD]
  | x :: l, p => by
    simp only [List.cons_append, ddF, lastD, ddF_snoc eq y l x]
    cases eq x p <;> simp
theorem lastD_get {α : Type} : ∀ (l : List α) (p : α) , (p :: l)[l.length]? = some (lastD p l)
  | [], p => rfl
  | x :: l, p => by simpa [lastD] using lastD_get l x
theorem ddF_len {α : Type} (eq : α → α → Bool) : ∀ (l : List α) (p : α), (ddF eq p l).length ≤ l.length
  | [], _ => by simp [ddF]
  | x :: l, p => by
    have := ddF_len eq l x
    simp only [ddF, List.length_cons]; cases eq x p <;> simp <;> omega
theorem compL_len {α : Type} (eq : α → α → Bool) (l : List α) : (compL eq l).length ≤ l.length := by
  cases l with
  | nil => simp [compL]
  | cons x l => have := ddF_len eq l x; simp [compL]; omega
/-- one element more -/
theorem compL_take {α : Type} (eq : α → α → Bool) (l : List α) (n : Nat) (h0 : 0 < n) (h : n < l.length) : compL eq (l.take (n + 1)) = compL eq (l.take n) ++ bif eq l[n] l[n - 1] then [] else [l[n]] := by
  cases l with
  | nil => simp at h
  | cons x l =>
    obtain ⟨m, rfl⟩ : ∃ m, n = m + 1 := ⟨n - 1, by omega⟩
    have hm : m < l.length := by simpa using h
    rw [List.take_succ_cons, List.take_succ_cons]
    simp only [compL]
    rw [List.take_succ_eq_append_getElem hm, ddF_snoc]
    have hl : lastD x (l.take m) = (x :: l)[m]'(by simp; omega) := by
      have h1 := lastD_get (l.take m) x
      have e : (l.take m).length = m := by simp; omega
      rw [e, ← List.take_succ_cons, List.getElem?_take, if_pos (by omega), List.getElem?_eq_getElem (by simp; omega)] at h1
      exact (Option.some.inj h1).symm
    rw [hl]
    simp
theorem compL_len_lt {α : Type} (eq : α → α → Bool) (l : List α) (n : Nat) (h0 : 0 < n) (h : n < l.length) (he : eq l[n] l[n - 1] = true) (j : Nat) (hj : n < j) (hjl : j ≤ l.length) : (compL eq (l.take j)).length < j := by
  obtain ⟨d, rfl⟩ : ∃ d, j = n + 1 + d := ⟨j - (n + 1), by omega⟩
  clear hj
  induction d with
  | zero =>
    rw [Nat.add_zero, compL_take eq l n h0 h, he, cond_true, List.append_nil]
    have := compL_len eq (l.take n)
    simp at this; omega
  | succ d ih =>
    have := ih (by omega)
    rw [← Nat.add_assoc, compL_take eq l (n + 1 + d) (by omega) (by omega), List.length_append]
    cases eq l[n + 1 + d] l[n + 1 + d - 1] <;> simp <;> omega
theorem compL_one {α : Type} (eq : α → α → Bool) (l : List α) (h : 0 < l.length) : compL eq (l.take 1) = l.take 1 := by
  cases l with
  | nil => simp at h
  | cons x l => simp [compL, ddF]
/-- writing at the end of what is kept -/
theorem set_kept {α : Type} (c l : List α) (x : α) (h : c.length < l.length) : (c ++ l.drop c.length).set c.length x = (c ++ [x]) ++ l.drop (c ++ [x]).length := by
  have e := List.drop_eq_getElem_cons h
  rw [List.set_append, if_neg (by omega), Nat.sub_self, e, List.set_cons_zero]
  simp
theorem kept_get {α : Type} (c l : List α) (j : Nat) (h : c.length ≤ j) : (c ++ l.drop c.length)[j]? = l[j]? := by
  rw [List.getElem?_append, if_neg (by omega), List.getElem?_drop]; congr 1; omega
theorem kept_len {α : Type} (c l : List α) (h : c.length ≤ l.length) : (c ++ l.drop c.length).length = l.length := by simp; omega
end Go.Pl
/- The kit's contract of slices.SortFunc, turned into one of the engine's. -/
namespace Go.RT
open Go Go.Proofs Go.Sort Go.Shelf
set_option linter.all false
theorem Mem.reheap {C : Cx} {H H' : Hp} {nx : Nat} {S : Nat → Prop} {m : Ids} {w : World} (k1 : Mem C H nx S m w) (hh : ∀ id, hlook H' id = hlook H id) : Mem C H' nx S m w :=
  ⟨k1.os, k1.tape, k1.output, k1.fz, k1.size, k1.frame, k1.le, k1.sub, k1.n0, fun id o h => k1.objs id o ((hh id).symm.trans h), fun id o b h => k1.blk id o b ((hh id).symm.trans h), fun a b o1 o2 bb h1 h2 => k1.inj a b o1 o2 bb ((hh a).symm.trans h1) ((hh b).symm.trans h2), k1.stab, k1.fresh, k1.nkeep (Le.refl _ _ _) (Nat.le_refl _) (fun _ _ _ _ _ _ h => h.of fun o h => (hh _).symm.trans h) (fun _ _ _ _ _ _ _ c e _ _ _ k2 k3 => ⟨c, e, k2, k3⟩) (fun b' _ h2 h3 => ⟨rfl, h2, fun id2 o2 h => h3 _ _ ((hh id2).symm.trans h)⟩)⟩
def grown (w : World) (os : Array Obj) (q : Nat) : World := { w with heap := w.heap ++ os, drawn := w.drawn + q }
theorem grown_old (w : World) (os : Array Obj) (q : Nat) {b : Nat} (hb : b < w.heap.size) : (grown w os q).heap[b]? = w.heap[b]? := by simp [grown, Array.getElem?_append, hb]
theorem Mem.grow {C : Cx} {H : Hp} {nx : Nat} {S : Nat → Prop} {m : Ids} {w : World} (hm : Mem C H nx S m w) (os : Array Obj) (q : Nat) : Mem C H nx S m (grown w os q) ∧ Le S m w S m (grown w os q) := by
  have hsz : w.heap.size ≤ (grown w os q).heap.size := by simp [grown]
  have hle : Le S m w S m (grown w os q) := by
    refine ⟨fun _ h => h, fun b hb => grown_old w os q (hm.stab b hb), fun _ _ h => h, fun b n ⟨c, e, fr, h1, h2⟩ => ⟨c, e, fr, ?_, h2⟩⟩
    rw [grown_old w os q (Array.getElem?_eq_some_iff.1 h1).1]; exact h1
  refine ⟨hm.step hle ⟨rfl, Nat.le_add_right _ _⟩ rfl rfl (fun a ha => ?_) hsz (fun b hb _ => grown_old w os q (Nat.lt_of_lt_of_le hb hm.size)) (fun b hb => .inl hb) (fun id o ho => (hm.objs id o ho).mono hle fun b hb => grown_old w os q (hm.blk id o b ho hb).2.1)
    (fun id o b ho hb => ?_) hm.inj (fun b hb => Nat.lt_of_lt_of_le (hm.stab b hb) hsz) hm.fresh (hm.nkeep hle hsz (fun _ _ _ _ _ _ h => h) (fun id sz i j isz irows b2 c2 e2 u _ _ q2 q3 => ⟨c2, e2, (grown_old w os q (Array.getElem?_eq_some_iff.1 q2).1).trans q2, q3⟩) (fun b' h1 h2 h3 => ⟨grown_old w os q h1, h2, h3⟩)), hle⟩
  · simp only [World.frozen?, grown_old w os q ha]
  · obtain ⟨h1, h2, h3⟩ := hm.blk id o b ho hb
    exact ⟨h1, Nat.lt_of_lt_of_le h2 hsz, h3⟩
theorem mapBlock_setRow {w : World} {b : Nat} {c : Array Value} {e : TypeId} {fr : Nat × Nat} (f : Array Value → Array Value) (hc : w.heap[b]? = some (.cells c e fr)) : mapBlock w b f = w.setRow b (f c) := by
  unfold mapBlock World.setRow
  congr 1
  apply Array.ext_getElem?
  intro i
  simp only [Array.getElem?_modify]
  by_cases h : b = i
  · subst h
    simp [hc, onCells]
  · simp [h]
/-- a run that owns nothing: what it leaves is the world it found, grown -/
theorem Mem.is_grown {C : Cx} {nx : Nat} {S : Nat → Prop} {m : Ids} {w : World} (hm : Mem C [] nx S m w) (ho : ∀ b, ¬ C.own0 b) : ∃ q os, w = grown C.w0 os q := by
  refine ⟨w.drawn - C.w0.drawn, w.heap.extract C.w0.heap.size w.heap.size, ?_⟩
  have h1 : w.heap = C.w0.heap ++ w.heap.extract C.w0.heap.size w.heap.size := by
    apply Array.ext_getElem?
    intro i
    by_cases hi : i < C.w0.heap.size
    · rw [Array.getElem?_append_left hi]; exact hm.frame i hi (ho i)
    · rw [Array.getElem?_append_right (by omega), Array.getElem?_extract]
      have := hm.size
      by_cases h2 : i < w.heap.size
      · rw [if_pos (by simp; omega)]; congr 1; omega
      · rw [if_neg (by simp; omega)]; exact Array.getElem?_eq_none (by omega)
  have h2 : w.drawn = C.w0.drawn + (w.drawn - C.w0.drawn) := by have := hm.os.2; omega
  obtain ⟨heap, tape, drawn, os, output⟩ := w
  unfold grown
  simp only at h1 h2
  have e1 := hm.tape; have e2 := hm.os.1; have e3 := hm.output
  simp only at e1 e2 e3
  subst e1 e2 e3
  simp only [World.mk.injEq, true_and, and_true]
  exact ⟨h1, h2⟩
/-- what slices.SortFunc leaves -/
def sortBy {β : Type} [Inhabited β] (cf : β → β → Int) (l : List β) : List β := (pdq (ltOf cf) l.toArray 0 l.length (Lib.bitLen l.length) true true).toList
theorem sortBy_spec {β : Type} [Inhabited β] (cf : β → β → Int) (hO : SWO (ltOf cf)) (l : List β) : (sortBy cf l).Perm l ∧ (sortBy cf l).length = l.length ∧ ∀ (i j : Nat) (x y : β), i < j → (sortBy cf l)[i]? = some x → (sortBy cf l)[j]? = some y → ¬ cf y x < 0 := by
  have h := pdq_sorts (ltOf cf) hO l.toArray 0 l.length (Lib.bitLen l.length) true true (Nat.zero_le _) (by simp) (Or.inl rfl)
  obtain ⟨⟨p1, p2, p3⟩, p4⟩ := h
  have e : (sortBy cf l).length = l.length := by simpa [sortBy] using p1
  refine ⟨?_, e, fun i j x y hij hx hy => ?_⟩
  · have : ∀ (a : Array β) n, a.size = n → a.extract 0 n = a := fun a n hn => by subst hn; simp
    rw [this _ _ (by simpa using p1), this _ _ (by simp)] at p3
    simpa [sortBy] using p3
  · have hj : j < l.length := by rw [← e]; exact (List.getElem?_eq_some_iff.1 hy).1
    have hj' : j < (pdq (ltOf cf) l.toArray 0 l.length (Lib.bitLen l.length) true true).size := by rw [p1]; simpa using hj
    have := p4 i j (Nat.zero_le _) hij hj
    rw [getElem!_pos _ j hj', getElem!_pos _ i (by omega)] at this
    simp only [sortBy, Array.getElem?_toList] at hx hy
    rw [Array.getElem?_eq_getElem (by omega)] at hx hy
    cases hx; cases hy
    simpa [ltOf] using this
theorem cells_of_rows {w : World} {S : Nat → Prop} {c : Array Value} {k : Nat} {β : Type} [Inhabited β] {ev : β → List Value} (hk0 : 0 < k) (hlen : ∀ x, (ev x).length = k) {l : List β} (h : RowsRep (FRep w S) c k (l.map fun x => (ev x).map FV.lit)) :
    l.length * k ≤ c.size ∧ ∀ j, j < l.length * k → c[j]? = some (flatK ev k l.toArray)[j]! := by
  refine ⟨by simpa using h.1, fun j hj => ?_⟩
  have hd : j / k < l.length := Nat.div_lt_of_lt_mul (by rwa [Nat.mul_comm] at hj)
  have hm := Nat.mod_lt j hk0
  rw [get_flatK _ _ _ _ (by simpa using hj)]
  have hx : (l.map fun x => (ev x).map FV.lit)[j / k]? = some ((ev l[j / k]).map FV.lit) := by simp [hd]
  have hlk : j % k < (ev l[j / k]).length := by rw [hlen]; exact hm
  obtain ⟨u, hu, _, hr⟩ := h.2.2 (j / k) (j % k) _ (.lit (ev l[j / k])[j % k]) hx (by simp [hlk])
  have e : j / k * k + j % k = j := by rw [Nat.mul_comm]; exact Nat.div_add_mod j k
  rw [e] at hu
  rw [hu]
  cases hr
  rw [getElem!_pos _ (j / k) (by simpa using hd), getElem!_pos _ (j % k) (by simpa using hlk)]
  simp
variable {P : Program} {ρ : Ren}
theorem cmp_lays {g k : Nat} {β : Type} [Inhabited β] {ev : β → List Value} (h1 : ∀ x, ∀ v ∈ ev x, v.oneCell' = true) {cf : β → β → Int} (hc : ∀ x y, Pure P g [.agg ((ev x).map .lit), .agg ((ev y).map .lit)] (If .i64 (cf x y))) (blk off size : Nat) (w : World) : CmpLays P g #[] ev k cf blk off size w := by
  intro m os dk _ x y
  generalize sortWorldK ev k w blk off m dk os = W
  let C : Cx := ⟨W, fun _ => False, fun _ => False, fun _ => none, 0⟩
  have hm : Mem C [] 0 C.S0 C.m0 C.w0 := ⟨⟨rfl, Nat.le_refl _⟩, rfl, rfl, fun _ _ => rfl, Nat.le_refl _, fun _ _ _ => rfl, Le.refl _ _ _, fun b h => .inl h, fun i x hx => (by cases hx), fun i o h => (by cases h), fun i o b h => (by cases h), fun i j o1 o2 b h => (by cases h), fun b hb => hb.elim, fun _ _ => rfl, nst_nil⟩
  have ag : ∀ z, FRep W (fun _ => False) (.agg (ev z).toArray) (.agg ((ev z).map .lit)) := fun z => by
    refine .agg _ _ (by simp) (fun i c f hc hf => ?_) (fun i c hc => ?_)
    · simp only [List.getElem?_toArray] at hc
      rw [List.getElem?_map, hc] at hf
      cases hf; exact .lit _
    · simp only [List.getElem?_toArray] at hc
      exact h1 z c (List.mem_of_getElem? hc)
  have := (hc x y).run C [.agg (ev x).toArray, .agg (ev y).toArray] rfl hm rfl (fun i v p hi hp => by
    match i with
    | 0 => simp at hi hp; subst hi; subst hp; exact .fz _ _ (ag x)
    | 1 => simp at hi hp; subst hi; subst hp; exact .fz _ _ (ag y)
    | i + 2 => simp at hi)
  have h2 : Calls P g (#[.agg (ev x).toArray, .agg (ev y).toArray] ++ #[]) W (fun e w' => ∃ v S' m', e = .returned v ∧ Mem C [] 0 S' m' w' ∧ Rep w' S' m' v (.fz (If .i64 (cf x y)))) := by simpa using this
  refine h2.mono fun e w' ⟨v, S', m', he, hm', hr⟩ => ?_
  obtain ⟨q, os', hw⟩ := hm'.is_grown (fun b h => h)
  refine ⟨by rw [he]; cases hr with | fz _ _ h => cases h; rfl, q, os', hw⟩
theorem sort_meets (L : SlLaysF0.n6 P ρ) {k : Nat} (hk0 : 0 < k) (aE : ∀ w, (isAgg (ρ.t 24)).run P w = .ok true w) (zE : ∀ w, (Go.sizeOf (ρ.t 24)).run P w = .ok k w) {β : Type} [Inhabited β] {ev : β → List Value} (hlen : ∀ x, (ev x).length = k) (h1 : ∀ x, ∀ v ∈ ev x, v.oneCell' = true) {cf : β → β → Int} (hO : SWO (ltOf cf)) {g : Nat} (hg : ∀ args w, (callFunc g args).run P w = .ok (.enter g args) w)
    (hc : ∀ x y, Pure P g [.agg ((ev x).map .lit), .agg ((ev y).map .lit)] (If .i64 (cf x y))) {l : List β} (hl : l.length < 4611686018427387904) :
    Meets P (ρ.f 6) [.sl 0 k 0 l.length, .clo g [] []] 1 [(0, some (.flat k (l.map fun x => (ev x).map .lit)))] (.fz (.tup [])) [(0, some (.flat k ((sortBy cf l).map fun x => (ev x).map .lit)))] 1 := by
  refine ⟨fun C vs hn hm hlv hr => ?_⟩
  have tupR : ∀ w' S' m', Rep w' S' m' (.tuple #[]) (.fz (.tup [])) := fun w' S' m' => .fz _ _ (.tup #[] [] rfl (fun i c f hc => by simp at hc))
  match vs, hlv, hr with
  | [v0, v1], _, hr =>
  have r0 := hr 0 v0 _ rfl rfl
  have r1 := hr 1 v1 _ rfl rfl
  have ho := hm.objs 0 _ rfl
  obtain ⟨hs1, hs2, _⟩ := sortBy_spec cf hO l
  cases r1 with
  | clo _ as' cs _ _ ha hcs _ _ =>
  have ea : as' = #[] := by simpa using ha
  have ec : cs = #[] := by simpa using hcs
  subst ea; subst ec
  generalize hll : l.length = n at r0 hl
  cases r0 with
  | sl0 =>
    have : l = [] := List.length_eq_zero_iff.1 hll
    subst this
    have e : sortBy cf ([] : List β) = [] := List.length_eq_zero_iff.1 hs2
    rw [e]
    refine (AnyF.slices_SortFunc_none L none 0 (.func (.func g) #[] #[]) C.w0).mono fun e w' ⟨he, hw⟩ => ?_
    subst hw
    exact ⟨_, _, _, he, hm, tupR _ _ _⟩
  | sl _ _ _ _ b cap h hroom hcap hmx =>
    rcases ho with ⟨h2, _⟩ | ⟨b', c, e, h2, h3, h4⟩
    · rw [h] at h2; cases h2
    · rw [h] at h2; cases h2
      obtain ⟨hsz, hcells⟩ := cells_of_rows hk0 hlen h4
      obtain ⟨hb1, hb2, hb3⟩ := hm.blk 0 _ b rfl h
      have hH : HoldsK ev k C.w0 b (0 * k) l.toArray := by
        intro j hj
        simp at hj
        refine ⟨?_, ?_⟩
        · simp only [World.cell?, h3, Nat.zero_mul, Nat.zero_add]
          simpa using hcells j hj
        · simp [World.frozen?, h3]
      have hcall := AnyQ.slices_SortFunc_eq L k aE zE ev hlen h1 cf hO g #[] b (0 * k) cap l.toArray C.w0 hg (cmp_lays h1 hc b (0 * k) l.toArray.size C.w0) hH hb2 (by simpa [hll] using hl)
      rw [show l.toArray.size = n by simpa using hll] at hcall
      refine hcall.mono fun ex w' ⟨he, q, os, hw⟩ => ?_
      subst hw
      have hls : l.toArray.size = n := by simpa using hll
      have hd : pdq (ltOf cf) l.toArray 0 n (Lib.bitLen n) true true = (sortBy cf l).toArray := by rw [← hll]; simp [sortBy]
      rw [hd]
      have hset : sortWorldK ev k C.w0 b (0 * k) q (sortBy cf l).toArray os = grown (C.w0.setRow b (putCells id 0 (flatK ev k (sortBy cf l).toArray) c)) os q := by
        unfold sortWorldK putRowK putRow
        rw [mapBlock_setRow (w := Go.Sort.ahead C.w0 q) (b := b) (c := c) (e := e) (fr := (0, 0)) _ h3, Nat.zero_mul]
        rfl
      rw [hset]
      have hps : (putCells id 0 (flatK ev k (sortBy cf l).toArray) c).size = c.size := by simp [putCells]
      have hrr : ∀ w' : World, RowsRep (FRep w' C.S0) (putCells id 0 (flatK ev k (sortBy cf l).toArray) c) k ((sortBy cf l).map fun x => (ev x).map FV.lit) := fun w' => by
        refine ⟨by rw [hps]; simpa [hs2] using hsz, fun r hr => ?_, fun i j r p hi hj => ?_⟩
        · obtain ⟨x, _, rfl⟩ := List.mem_map.1 hr
          simp [hlen]
        · rw [List.getElem?_map] at hi
          obtain ⟨x, hx, rfl⟩ := Option.map_eq_some_iff.1 hi
          rw [List.getElem?_map] at hj
          obtain ⟨v, hv, rfl⟩ := Option.map_eq_some_iff.1 hj
          have hjk : j < k := by rw [← hlen x]; exact (List.getElem?_eq_some_iff.1 hv).1
          have hin : i < (sortBy cf l).length := (List.getElem?_eq_some_iff.1 hx).1
          have hlt : i * k + j < (sortBy cf l).length * k := by
            calc i * k + j < i * k + k := by omega
              _ = (i + 1) * k := by rw [Nat.add_mul, Nat.one_mul]
              _ ≤ _ := Nat.mul_le_mul_right _ hin
          have hlt2 : i * k + j < c.size := by rw [hs2] at hlt; omega
          refine ⟨v, ?_, h1 x v (List.mem_of_getElem? hv), .lit v⟩
          have e1 : (i * k + j) / k = i := by rw [Nat.mul_comm, Nat.mul_add_div hk0, Nat.div_eq_of_lt hjk, Nat.add_zero]
          have e2 : (i * k + j) % k = j := by rw [Nat.mul_comm, Nat.mul_add_mod, Nat.mod_eq_of_lt hjk]
          have e3 : (flatK ev k (sortBy cf l).toArray)[i * k + j]! = v := by
            rw [get_flatK _ _ _ _ (by simpa using hlt), e1, e2]
            rw [List.getElem?_eq_getElem hin] at hx
            cases hx
            rw [getElem!_pos _ i (by simpa using hin)]
            have hjl : j < (ev (sortBy cf l)[i]).length := by rw [hlen]; exact hjk
            rw [List.getElem?_eq_getElem hjl] at hv
            cases hv
            simp [hjl]
          unfold putCells
          rw [Array.getElem?_mapIdx, Array.getElem?_eq_getElem hlt2]
          simp only [Option.map_some, Nat.zero_le, true_and, Nat.zero_add, size_flatK, List.size_toArray, Nat.sub_zero, id]
          rw [if_pos hlt, e3]
      obtain ⟨m1, hle1⟩ := hm.write (id := 0) (o' := .flat k ((sortBy cf l).map fun x => (ev x).map .lit)) rfl h h3 hps (plain_hown (by exact trivial)) (fun w' hle hb => .inr ⟨b, _, e, h, hb, hrr w'⟩)
      refine ⟨_, _, _, he, ((m1.reheap (H' := [(0, some (.flat k ((sortBy cf l).map fun x => (ev x).map .lit)))]) (fun id => ?_)).grow os q).1, tupR _ _ _⟩
      simp only [hlook]
      cases Nat.beq 0 id <;> rfl
end Go.RT
/- The kit's contract of slices.Sort at []int, turned into one of the engine's. -/
namespace Go.RT
open Go Go.Proofs Go.Sort Go.Shelf
set_option linter.all false
variable {P : Program} {ρ : Ren}
def srtI (l : List Int) : List Int := l.mergeSort fun x y => decide (x ≤ y)
theorem srtI_len (l : List Int) : (srtI l).length = l.length := List.length_mergeSort l
theorem srtI_perm (l : List Int) : (srtI l).Perm l := List.mergeSort_perm l _
theorem srtI_sorted (l : List Int) : (srtI l).Pairwise (fun x y => x ≤ y) := by
  have := List.pairwise_mergeSort (le := fun x y : Int => decide (x ≤ y)) (fun a b c h1 h2 => by simp at h1 h2 ⊢; omega) (fun a b => by simp; omega) l
  exact this.imp (fun h => by simpa using h)
theorem sortI_meets (L : Lays.n189 P ρ) {l : List Int} (hl : l.length < 4611686018427387904) :
    Meets P (ρ.f 189) [.sl 0 1 0 l.length] 1 [(0, some (.flat 1 (l.map fun x => [If .i64 x])))] (.fz (.tup [])) [(0, some (.flat 1 ((srtI l).map fun x => [If .i64 x])))] 1 := by
  refine ⟨fun C vs hn hm hlv hr => ?_⟩
  have tupR : ∀ w' S' m', Rep w' S' m' (.tuple #[]) (.fz (.tup [])) := fun w' S' m' => .fz _ _ (.tup #[] [] rfl (fun i c f hc => by simp at hc))
  match vs, hlv, hr with
  | [v0], _, hr =>
  have r0 := hr 0 v0 _ rfl rfl
  have ho := hm.objs 0 _ rfl
  have hs2 := srtI_len l
  generalize hll : l.length = n at r0 hl
  cases r0 with
  | sl0 =>
    have : l = [] := List.length_eq_zero_iff.1 hll
    subst this
    have e : srtI ([] : List Int) = [] := List.length_eq_zero_iff.1 hs2
    rw [e]
    refine (Any.slices_Sort_int_none L none 0 C.w0).mono fun e w' ⟨he, hw⟩ => ?_
    subst hw
    exact ⟨_, _, _, he, hm, tupR _ _ _⟩
  | sl _ _ _ _ b cap h hroom hcap hmx =>
    rcases ho with ⟨h2, _⟩ | ⟨b', c, e, h2, h3, h4⟩
    · rw [h] at h2; cases h2
    · rw [h] at h2; cases h2
      obtain ⟨hsz, _, hR⟩ := h4
      obtain ⟨hb1, hb2, hb3⟩ := hm.blk 0 _ b rfl h
      have hcl : ∀ j (hj : j < l.length), c[j]? = some (.int .i64 l[j]) := fun j hj => by
        obtain ⟨u, hu, _, hf⟩ := hR j 0 [If .i64 l[j]] (If .i64 l[j]) (by simp [hj]) rfl
        cases hf
        simpa using hu
      have hH : Holds (Value.int .i64) C.w0 b (0 * 1) l.toArray := by
        intro j hj
        simp at hj
        refine ⟨?_, ?_⟩
        · simp only [World.cell?, h3, Nat.zero_mul, Nat.zero_add]
          rw [getElem!_pos _ j (by simpa using hj)]
          simpa using hcl j hj
        · simp [World.frozen?, h3]
      have hcall := Any.slices_Sort_int L b (0 * 1) cap l C.w0 hH hb2 (by rw [hll]; exact hl)
      rw [hll] at hcall
      refine hcall.mono fun ex w' ⟨he, q, os, hw⟩ => ?_
      subst hw
      have hset : grow (putRow (Value.int .i64) (Go.Sort.ahead C.w0 q) b (0 * 1) (srtI l).toArray) os = grown (C.w0.setRow b (putCells (Value.int .i64) 0 (srtI l).toArray c)) os q := by
        unfold putRow
        rw [mapBlock_setRow (w := Go.Sort.ahead C.w0 q) (b := b) (c := c) (e := e) (fr := (0, 0)) _ h3, Nat.zero_mul]
        rfl
      have hset2 : grow (putRow (Value.int .i64) (Go.Sort.ahead C.w0 q) b (0 * 1) (l.mergeSort fun x y => decide (x ≤ y)).toArray) os = grown (C.w0.setRow b (putCells (Value.int .i64) 0 (srtI l).toArray c)) os q := hset
      rw [hset2]
      have hps : (putCells (Value.int .i64) 0 (srtI l).toArray c).size = c.size := by simp [putCells]
      have hrr : ∀ w' : World, RowsRep (FRep w' C.S0) (putCells (Value.int .i64) 0 (srtI l).toArray c) 1 ((srtI l).map fun x => [If .i64 x]) := fun w' => by
        refine ⟨by rw [hps]; simpa [hs2] using hsz, fun r hr => ?_, fun i j r p hi hj => ?_⟩
        · obtain ⟨x, _, rfl⟩ := List.mem_map.1 hr
          rfl
        · rw [List.getElem?_map] at hi
          obtain ⟨x, hx, rfl⟩ := Option.map_eq_some_iff.1 hi
          have hin : i < (srtI l).length := (List.getElem?_eq_some_iff.1 hx).1
          match j, hj with
          | 0, hj =>
            cases hj
            have hlt2 : i < c.size := by simp at hsz; omega
            refine ⟨.int .i64 x, ?_, rfl, .lit _⟩
            unfold putCells
            rw [Nat.mul_one, Nat.add_zero, Array.getElem?_mapIdx, Array.getElem?_eq_getElem hlt2]
            simp only [Option.map_some, Nat.zero_le, true_and, Nat.zero_add, List.size_toArray, Nat.sub_zero]
            rw [if_pos hin, getElem!_pos _ i (by simpa using hin)]
            rw [List.getElem?_eq_getElem hin] at hx
            cases hx; simp
          | j + 1, hj => simp at hj
      obtain ⟨m1, hle1⟩ := hm.write (id := 0) (o' := .flat 1 ((srtI l).map fun x => [If .i64 x])) rfl h h3 hps (plain_hown (by exact trivial)) (fun w' hle hb => .inr ⟨b, _, e, h, hb, hrr w'⟩)
      refine ⟨_, _, _, he, ((m1.reheap (H' := [(0, some (.flat 1 ((srtI l).map fun x => [If .i64 x])))]) (fun id => ?_)).grow os q).1, tupR _ _ _⟩
      simp only [hlook]
      cases Nat.beq 0 id <;> rfl
end Go.RT
/- The nodes to which edges lead: sorted and cut, or put in one by one. -/
namespace Go.Pl
open Go.RT
set_option linter.all false
abbrev eqI (x y : Int) : Bool := decide (x = y)
def tosL (n : Int) (l : List Edg) : List Int := (l.filter fun e => decide (e.f = n)).map (·.t)
def Asc (l : List Int) : Prop := l.Pairwise (fun x y => x < y)
theorem Asc.ext : ∀ {a b : List Int}, Asc a → Asc b → (∀ p, p ∈ a ↔ p ∈ b) → a = b
  | [], [], _, _, _ => rfl
  | [], y :: b, _, _, h => by have := (h y).2 (List.mem_cons_self ..); cases this
  | x :: a, [], _, _, h => by have := (h x).1 (List.mem_cons_self ..); cases this
  | x :: a, y :: b, ha, hb, h => by
    obtain ⟨a1, a2⟩ := List.pairwise_cons.1 ha
    obtain ⟨b1, b2⟩ := List.pairwise_cons.1 hb
    have e : x = y := by
      rcases List.mem_cons.1 ((h x).1 (List.mem_cons_self ..)) with e | h1
      · exact e
      · rcases List.mem_cons.1 ((h y).2 (List.mem_cons_self ..)) with e | h2
        · exact e.symm
        · have := b1 x h1; have := a1 y h2; omega
    subst e
    refine congrArg _ (Asc.ext a2 b2 fun p => ?_)
    constructor
    · intro hp
      rcases List.mem_cons.1 ((h p).1 (List.mem_cons_of_mem _ hp)) with e | h1
      · subst e; have := a1 p hp; omega
      · exact h1
    · intro hp
      rcases List.mem_cons.1 ((h p).2 (List.mem_cons_of_mem _ hp)) with e | h1
      · subst e; have := b1 p hp; omega
      · exact h1
theorem ddF_asc : ∀ (l : List Int) (p : Int), (p :: l).Pairwise (fun x y => x ≤ y) → Asc (p :: ddF eqI p l) ∧ ∀ x, x ∈ p :: ddF eqI p l ↔ x ∈ p :: l
  | [], p, _ => ⟨by simp [Asc, ddF], fun x => by simp [ddF]⟩
  | y :: l, p, h => by
    obtain ⟨h1, h2⟩ := List.pairwise_cons.1 h
    obtain ⟨i1, i2⟩ := ddF_asc l y h2
    have hpy := h1 y (List.mem_cons_self ..)
    simp only [ddF]
    by_cases e : y = p
    · subst e
      simp only [eqI, decide_true, cond_true]
      refine ⟨i1, fun x => ?_⟩
      rw [i2]; simp
    · have : eqI y p = false := by simp [eqI, e]
      rw [this, cond_false]
      refine ⟨List.pairwise_cons.2 ⟨fun z hz => ?_, i1⟩, fun x => ?_⟩
      · have := (i2 z).1 hz
        rcases List.mem_cons.1 this with rfl | hz
        · omega
        · have := (List.pairwise_cons.1 h2).1 z hz; omega
      · rw [List.mem_cons, i2, List.mem_cons]; simp
theorem comp_asc {l : List Int} (h : l.Pairwise (fun x y => x ≤ y)) : Asc (compL eqI l) ∧ ∀ x, x ∈ compL eqI l ↔ x ∈ l := by
  cases l with
  | nil => exact ⟨by simp [Asc, compL], fun x => by simp [compL]⟩
  | cons p l => exact ddF_asc l p h
def nextI (n : Int) (l : List Edg) : List Int := compL eqI (srtI (tosL n l))
theorem nextI_spec (n : Int) (l : List Edg) : Asc (nextI n l) ∧ ∀ x, x ∈ nextI n l ↔ ∃ e ∈ l, e.f = n ∧ e.t = x := by
  obtain ⟨h1, h2⟩ := comp_asc (srtI_sorted (tosL n l))
  refine ⟨h1, fun x => ?_⟩
  show x ∈ compL eqI _ ↔ _
  rw [h2, (srtI_perm _).mem_iff]
  simp [tosL, and_assoc]
theorem insR_mem (n : Int) : ∀ (l : List Int) (d : Bool) (x : Int), x ∈ insR n d l ↔ (x = n ∧ (d = false ∨ False)) ∨ (x ∈ l ∧ x ≠ n) := by
  intro l
  induction l with
  | nil => intro d x; cases d <;> simp [insR]
  | cons y l ih =>
    intro d x
    simp only [insR, List.mem_append, ih]
    by_cases hd : (!d && decide (n ≤ y)) = true
    · have : d = false ∧ n ≤ y := by simpa using hd
      rw [hd]
      obtain ⟨rfl, hy⟩ := this
      by_cases hyn : y = n
      · subst hyn; simp; grind
      · simp [hyn]; grind
    · have hd2 : (!d && decide (n ≤ y)) = false := by simpa using hd
      rw [hd2]
      by_cases hyn : y = n
      · subst hyn; simp; grind
      · simp [hyn]; grind
theorem insR_asc (n : Int) : ∀ (l : List Int) (d : Bool), Asc l → (d = true → ∀ x ∈ l, n ≤ x) → Asc (insR n d l) ∧ ∀ x ∈ insR n d l, x ∈ l ∨ x = n
  | [], d, _, _ => by cases d <;> simp [insR, Asc]
  | y :: l, d, h, hd => by
    obtain ⟨h1, h2⟩ := List.pairwise_cons.1 h
    have hrest : ∀ x ∈ insR n (d || (!d && decide (n ≤ y))) l, (x ∈ l ∧ x ≠ n) ∨ (x = n ∧ (d || (!d && decide (n ≤ y))) = false) := fun x hx => by
      have := (insR_mem n l _ x).1 hx
      rcases this with ⟨a, b⟩ | b
      · exact .inr ⟨a, by simpa using b⟩
      · exact .inl b
    obtain ⟨i1, i2⟩ := insR_asc n l (d || (!d && decide (n ≤ y))) h2 (fun hd2 x hx => by
      have := h1 x hx
      cases d with
      | true => exact hd rfl x (List.mem_cons_of_mem _ hx)
      | false => simp at hd2; omega)
    refine ⟨?_, fun x hx => ?_⟩
    · simp only [insR]
      have tail : Asc ((if y ≠ n then [y] else []) ++ insR n (d || (!d && decide (n ≤ y))) l) := by
        split
        · refine List.pairwise_cons.2 ⟨fun x hx => ?_, i1⟩
          rcases hrest x hx with ⟨hxl, _⟩ | ⟨rfl, hf⟩
          · exact h1 x hxl
          · cases d with
            | true => simp at hf
            | false => simp at hf; omega
        · simpa using i1
      by_cases hdn : (!d && decide (n ≤ y)) = true
      · rw [if_pos hdn]
        have hd2 : d = false ∧ n ≤ y := by simpa using hdn
        show Asc (n :: ((if y ≠ n then [y] else []) ++ insR n (d || (!d && decide (n ≤ y))) l))
        refine List.pairwise_cons.2 ⟨fun x hx => ?_, tail⟩
        rcases List.mem_append.1 hx with hx | hx
        · split at hx
          · rename_i hyn
            have : x = y := by simpa using hx
            omega
          · simp at hx
        · rcases hrest x hx with ⟨hxl, _⟩ | ⟨_, hf⟩
          · have := h1 x hxl; omega
          · rw [hdn] at hf; simp at hf
      · rw [if_neg hdn]; exact tail
    · have := (insR_mem n (y :: l) d x).1 hx
      rcases this with ⟨h, _⟩ | h
      · exact .inr h
      · exact .inl h.1
theorem nextR_spec (n : Int) : ∀ (l : List Edg) (out : List Int), Asc out → Asc (nextR n out l) ∧ ∀ x, x ∈ nextR n out l ↔ x ∈ out ∨ ∃ e ∈ l, e.f = n ∧ e.t = x
  | [], out, h => ⟨h, fun x => by simp [nextR]⟩
  | e :: l, out, h => by
    simp only [nextR]
    split
    · rename_i he
      obtain ⟨i1, i2⟩ := nextR_spec n l _ (insR_asc e.t out false h (by simp)).1
      refine ⟨i1, fun x => ?_⟩
      rw [i2, insR_mem]
      grind
    · rename_i he
      obtain ⟨i1, i2⟩ := nextR_spec n l _ h
      refine ⟨i1, fun x => ?_⟩
      rw [i2]
      grind
theorem next_eq (n : Int) (l : List Edg) : nextR n [] l = nextI n l := by
  obtain ⟨a1, a2⟩ := nextR_spec n l [] List.Pairwise.nil
  obtain ⟨b1, b2⟩ := nextI_spec n l
  exact Asc.ext a1 b1 fun p => by rw [a2, b2]; simp
theorem nextI_len (n : Int) (l : List Edg) : (nextI n l).length ≤ l.length := by
  have h1 := compL_len eqI (srtI (tosL n l))
  have h2 := srtI_len (tosL n l)
  have h3 : (tosL n l).length ≤ l.length := by simp [tosL]; exact List.length_filter_le _ _
  unfold nextI; omega
end Go.Pl
/- The heap, on lists: what the program's loops make. -/
namespace Go.Pl
open Go Go.RT
set_option linter.all false
abbrev encT (x : Nat) : List FV := [If .i64 (x : Int)]
structure Hq where
  it : List Nat
  pl : List Int
  ky : List Int
def Hq.item (h : Hq) (i : Nat) : Nat := h.it.getD i 0
def Hq.key (h : Hq) (v : Nat) : Int := h.ky.getD v 0
/-- items are nodes -/
structure Hq.Ok (h : Hq) : Prop where
  len : h.pl.length = h.ky.length
  lt : ∀ v ∈ h.it, v < h.pl.length
theorem Hq.Ok.item {h : Hq} (o : h.Ok) {i : Nat} (hi : i < h.it.length) : h.item i < h.pl.length := by
  unfold Hq.item; rw [List.getD_eq_getElem?_getD, List.getElem?_eq_getElem hi]; exact o.lt _ (List.getElem_mem hi)
def lessH (h : Hq) (i j : Nat) : Bool := decide (h.key (h.item i) < h.key (h.item j)) || decide (h.key (h.item i) = h.key (h.item j)) && decide ((h.item i : Int) < (h.item j : Int))
def swapH (h : Hq) (i j : Nat) : Hq := ⟨(h.it.set i (h.item j)).set j (h.item i), (h.pl.set (h.item j) i).set (h.item i) j, h.ky⟩
theorem swapH_len (h : Hq) (i j : Nat) : (swapH h i j).it.length = h.it.length ∧ (swapH h i j).pl.length = h.pl.length ∧ (swapH h i j).ky = h.ky := by simp [swapH]
theorem Hq.Ok.swap {h : Hq} (o : h.Ok) {i j : Nat} (hi : i < h.it.length) (hj : j < h.it.length) : (swapH h i j).Ok := by
  refine ⟨by simp [swapH, o.len], fun v hv => ?_⟩
  simp only [swapH, List.length_set]
  rcases List.mem_or_eq_of_mem_set hv with h1 | rfl
  · rcases List.mem_or_eq_of_mem_set h1 with h2 | rfl
    · exact o.lt v h2
    · exact o.item hj
  · exact o.item hi
def upH (h : Hq) (i : Nat) : Hq × Nat :=
  if hi : 0 < i then (if lessH h i ((i - 1) / 2) = true then upH (swapH h i ((i - 1) / 2)) ((i - 1) / 2) else (h, i)) else (h, i)
termination_by i
decreasing_by omega
/-- the child that comes first -/
def kidH (h : Hq) (i n : Nat) : Nat := if 2 * i + 1 + 1 < n ∧ lessH h (2 * i + 1 + 1) (2 * i + 1) = true then 2 * i + 1 + 1 else 2 * i + 1
theorem kidH_gt (h : Hq) (i n : Nat) : i < kidH h i n := by unfold kidH; split <;> omega
def downH (h : Hq) (i n : Nat) : Hq :=
  if hk : kidH h i n < n then (if lessH h (kidH h i n) i = true then downH (swapH h i (kidH h i n)) (kidH h i n) n else h) else h
termination_by n - i
decreasing_by have := kidH_gt h i n; omega
def settleH (h : Hq) (i n : Nat) : Hq := downH (upH h i).1 (upH h i).2 n
end Go.Pl
namespace Go.Pl
theorem up_step {h : Hq} {i : Nat} (hi : 0 < i) (hl : lessH h i ((i - 1) / 2) = true) : upH h i = upH (swapH h i ((i - 1) / 2)) ((i - 1) / 2) := by
  rw [upH, dif_pos hi, if_pos hl]
theorem up_stop {h : Hq} {i : Nat} (hh : ¬ (0 < i ∧ lessH h i ((i - 1) / 2) = true)) : upH h i = (h, i) := by
  rw [upH]
  by_cases hi : 0 < i
  · rw [dif_pos hi, if_neg (fun e => hh ⟨hi, e⟩)]
  · rw [dif_neg hi]
theorem down_step {h : Hq} {i n : Nat} (hk : kidH h i n < n) (hl : lessH h (kidH h i n) i = true) : downH h i n = downH (swapH h i (kidH h i n)) (kidH h i n) n := by
  rw [downH, dif_pos hk, if_pos hl]
theorem down_stop {h : Hq} {i n : Nat} (hh : ¬ (kidH h i n < n ∧ lessH h (kidH h i n) i = true)) : downH h i n = h := by
  rw [downH]
  by_cases hk : kidH h i n < n
  · rw [dif_pos hk, if_neg (fun e => hh ⟨hk, e⟩)]
  · rw [dif_neg hk]
/-- heaps of one size -/
def Like (h h' : Hq) : Prop := h'.Ok ∧ h'.it.length = h.it.length ∧ h'.pl.length = h.pl.length ∧ h'.ky = h.ky
theorem Like.swap {h h' : Hq} (l : Like h h') {i j : Nat} (hi : i < h.it.length) (hj : j < h.it.length) : Like h (swapH h' i j) := by
  obtain ⟨l1, l2, l3, l4⟩ := l
  obtain ⟨s1, s2, s3⟩ := swapH_len h' i j
  exact ⟨l1.swap (by omega) (by omega), s1.trans l2, s2.trans l3, s3.trans l4⟩
end Go.Pl
namespace Go.Proofs.Ytgbfkpcigipniaa
open Go Go.RT Go.Proofs Go.Pl
set_option linter.all false
set_option maxRecDepth 20000
abbrev OI (l : List Int) : Option Ob := some (.flat 1 (l.map encN))
abbrev OE (l : List Edg) : Option Ob := some (.flat 3 (l.map encE))
abbrev OT (l : List Nat) : Option Ob := some (.flat 1 (l.map encT))
abbrev HH (h : Hq) : Hp := [(0, some (.refs 3 [[.sl 1 1 0 h.it.length, .sl 2 1 0 h.pl.length, .sl 3 1 0 h.ky.length]])), (1, OT h.it), (2, OI h.pl), (3, OI h.ky)]
theorem row_of {α : Type} (f : α → List FV) (l : List α) (i : Nat) (d : α) (h : i < l.length) : (l.map f)[i]? = some (f (l.getD i d)) := by
  rw [List.getElem?_map, List.getElem?_eq_getElem h, List.getD_eq_getElem?_getD, List.getElem?_eq_getElem h]; rfl
theorem less_c (h : Hq) (o : h.Ok) (i j : Nat) (hi : i < h.it.length) (hj : j < h.it.length) : Meets Try.prog 62 [.ptr 0 3 0 0, IV .i64 i, IV .i64 j] 4 (HH h) (BV (lessH h i j)) (HH h) 4 := by
  have ri := row_of encT h.it i 0 hi
  have rj := row_of encT h.it j 0 hj
  have hv := o.item hi
  have hw := o.item hj
  have hol := o.len
  unfold Hq.item at hv hw
  unfold lessH Hq.item
  generalize h.it.getD i 0 = v at *
  generalize h.it.getD j 0 = w at *
  have rv := row_of encN h.ky v 0 (by omega)
  have rw_ := row_of encN h.ky w 0 (by omega)
  unfold Hq.key
  generalize h.ky.getD v 0 = a at *
  generalize h.ky.getD w 0 = b at *
  refine Meets.intro Try.func62 rfl (Nat.le_of_ble_eq_true rfl) fun C hC => ?_
  simp only [List.map, argEnv, Nat.reduceAdd]
  refine nK2 ?_
  refine s_reg rfl ?_
  first | refine Run.pure (dd := some 6) rfl rfl (op_assign rfl (Opd.const _)) ?_ | refine Run.pure (dd := some 6) rfl rfl (op_junk (.inr rfl)) ?_
  refine Run.nil (FinR.mk ?_)
  refine nK2 ?_
  refine s_draw mixed ?_
  first | refine Run.pure (dd := some 9) rfl rfl (op_move rfl (Opd.tmp _ _ rfl)) ?_ | refine Run.pure (dd := some 9) rfl rfl (op_junk (.inl rfl)) ?_
  first | refine Run.pure (dd := some 10) rfl rfl (op_nilck_ptr rfl (Opd.tmp _ _ rfl)) ?_ | refine Run.pure (dd := some 10) rfl rfl (op_nilck_fz rfl (Opd.tmp _ _ rfl)) ?_ | refine Run.pure (dd := some 10) rfl rfl (op_nilck_clo rfl (Opd.tmp _ _ rfl)) ?_ | refine Run.pure (dd := some 10) rfl rfl (op_nilck_fclo rfl (Opd.tmp _ _ rfl)) ?_
  first | refine Run.pure (dd := some 11) rfl rfl (op_fld_ptr (by decide) rfl (Opd.tmp _ _ rfl)) ?_ | refine Run.pure (dd := some 11) rfl rfl (op_fld_fz (by decide) rfl (Opd.tmp _ _ rfl) tR) ?_
  first | refine Run.load (dd := some 12) rfl rfl (op_load1_flat rfl (Opd.tmp _ _ rfl) tH rfl) ?_ | refine Run.pure (dd := some 12) rfl rfl (op_load1_fz rfl (Opd.tmp _ _ rfl) rfl) ?_ | refine Run.load (dd := some 12) rfl rfl (op_load1_refs rfl (Opd.tmp _ _ rfl) tH rfl) ?_
  first | refine Run.pure (dd := some 13) rfl rfl (op_move rfl (Opd.tmp _ _ rfl)) ?_ | refine Run.pure (dd := some 13) rfl rfl (op_junk (.inl rfl)) ?_
  first | refine Run.pure (dd := some 14) rfl rfl (op_idx_sl0 _ rfl (Opd.tmp _ _ rfl) (Opd.tmp _ _ rfl) tD) ?_ | refine Run.pure (dd := some 14) rfl rfl (op_idx_fz _ rfl (Opd.tmp _ _ rfl) (Opd.tmp _ _ rfl) tF) ?_
  first | refine Run.load (dd := some 15) rfl rfl (op_load1_flat rfl (Opd.tmp _ _ rfl) tH rfl) ?_ | refine Run.pure (dd := some 15) rfl rfl (op_load1_fz rfl (Opd.tmp _ _ rfl) rfl) ?_ | refine Run.load (dd := some 15) rfl rfl (op_load1_refs rfl (Opd.tmp _ _ rfl) tH rfl) ?_
  first | refine Run.pure (dd := some 16) rfl rfl (op_move rfl (Opd.tmp _ _ rfl)) ?_ | refine Run.pure (dd := some 16) rfl rfl (op_junk (.inl rfl)) ?_
  first | refine Run.pure (dd := some 17) rfl rfl (op_nilck_ptr rfl (Opd.tmp _ _ rfl)) ?_ | refine Run.pure (dd := some 17) rfl rfl (op_nilck_fz rfl (Opd.tmp _ _ rfl)) ?_ | refine Run.pure (dd := some 17) rfl rfl (op_nilck_clo rfl (Opd.tmp _ _ rfl)) ?_ | refine Run.pure (dd := some 17) rfl rfl (op_nilck_fclo rfl (Opd.tmp _ _ rfl)) ?_
  first | refine Run.pure (dd := some 18) rfl rfl (op_fld_ptr (by decide) rfl (Opd.tmp _ _ rfl)) ?_ | refine Run.pure (dd := some 18) rfl rfl (op_fld_fz (by decide) rfl (Opd.tmp _ _ rfl) tR) ?_
  first | refine Run.load (dd := some 19) rfl rfl (op_load1_flat rfl (Opd.tmp _ _ rfl) tH rfl) ?_ | refine Run.pure (dd := some 19) rfl rfl (op_load1_fz rfl (Opd.tmp _ _ rfl) rfl) ?_ | refine Run.load (dd := some 19) rfl rfl (op_load1_refs rfl (Opd.tmp _ _ rfl) tH rfl) ?_
  first | refine Run.pure (dd := some 20) rfl rfl (op_move rfl (Opd.tmp _ _ rfl)) ?_ | refine Run.pure (dd := some 20) rfl rfl (op_junk (.inl rfl)) ?_
  first | refine Run.pure (dd := some 21) rfl rfl (op_idx_sl0 _ rfl (Opd.tmp _ _ rfl) (Opd.tmp _ _ rfl) tD) ?_ | refine Run.pure (dd := some 21) rfl rfl (op_idx_fz _ rfl (Opd.tmp _ _ rfl) (Opd.tmp _ _ rfl) tF) ?_
  first | refine Run.load (dd := some 22) rfl rfl (op_load1_flat rfl (Opd.tmp _ _ rfl) tH rfl) ?_ | refine Run.pure (dd := some 22) rfl rfl (op_load1_fz rfl (Opd.tmp _ _ rfl) rfl) ?_ | refine Run.load (dd := some 22) rfl rfl (op_load1_refs rfl (Opd.tmp _ _ rfl) tH rfl) ?_
  first | refine Run.pure (dd := some 7) rfl rfl (op_assign rfl (Opd.tmp _ _ rfl)) ?_ | refine Run.pure (dd := some 7) rfl rfl (op_junk (.inr rfl)) ?_
  first | refine Run.pure (dd := some 8) rfl rfl (op_assign rfl (Opd.tmp _ _ rfl)) ?_ | refine Run.pure (dd := some 8) rfl rfl (op_junk (.inr rfl)) ?_
  refine Run.nil (FinD.mk (by kernel_rfl) ?_)
  refine nK2 ?_
  refine s_draw mixed ?_
  first | refine Run.pure (dd := some 23) rfl rfl (op_move rfl (Opd.tmp _ _ rfl)) ?_ | refine Run.pure (dd := some 23) rfl rfl (op_junk (.inl rfl)) ?_
  first | refine Run.pure (dd := some 24) rfl rfl (op_nilck_ptr rfl (Opd.tmp _ _ rfl)) ?_ | refine Run.pure (dd := some 24) rfl rfl (op_nilck_fz rfl (Opd.tmp _ _ rfl)) ?_ | refine Run.pure (dd := some 24) rfl rfl (op_nilck_clo rfl (Opd.tmp _ _ rfl)) ?_ | refine Run.pure (dd := some 24) rfl rfl (op_nilck_fclo rfl (Opd.tmp _ _ rfl)) ?_
  first | refine Run.pure (dd := some 25) rfl rfl (op_fld_ptr (by decide) rfl (Opd.tmp _ _ rfl)) ?_ | refine Run.pure (dd := some 25) rfl rfl (op_fld_fz (by decide) rfl (Opd.tmp _ _ rfl) tR) ?_
  first | refine Run.load (dd := some 26) rfl rfl (op_load1_flat rfl (Opd.tmp _ _ rfl) tH rfl) ?_ | refine Run.pure (dd := some 26) rfl rfl (op_load1_fz rfl (Opd.tmp _ _ rfl) rfl) ?_ | refine Run.load (dd := some 26) rfl rfl (op_load1_refs rfl (Opd.tmp _ _ rfl) tH rfl) ?_
  first | refine Run.pure (dd := some 27) rfl rfl (op_move rfl (Opd.tmp _ _ rfl)) ?_ | refine Run.pure (dd := some 27) rfl rfl (op_junk (.inl rfl)) ?_
  first | refine Run.pure (dd := some 28) rfl rfl (op_idx_sl0 _ rfl (Opd.tmp _ _ rfl) (Opd.tmp _ _ rfl) tD) ?_ | refine Run.pure (dd := some 28) rfl rfl (op_idx_fz _ rfl (Opd.tmp _ _ rfl) (Opd.tmp _ _ rfl) tF) ?_
  first | refine Run.load (dd := some 29) rfl rfl (op_load1_flat rfl (Opd.tmp _ _ rfl) tH rfl) ?_ | refine Run.pure (dd := some 29) rfl rfl (op_load1_fz rfl (Opd.tmp _ _ rfl) rfl) ?_ | refine Run.load (dd := some 29) rfl rfl (op_load1_refs rfl (Opd.tmp _ _ rfl) tH rfl) ?_
  first | refine Run.pure (dd := some 30) rfl rfl (op_move rfl (Opd.tmp _ _ rfl)) ?_ | refine Run.pure (dd := some 30) rfl rfl (op_junk (.inl rfl)) ?_
  first | refine Run.pure (dd := some 31) rfl rfl (op_nilck_ptr rfl (Opd.tmp _ _ rfl)) ?_ | refine Run.pure (dd := some 31) rfl rfl (op_nilck_fz rfl (Opd.tmp _ _ rfl)) ?_ | refine Run.pure (dd := some 31) rfl rfl (op_nilck_clo rfl (Opd.tmp _ _ rfl)) ?_ | refine Run.pure (dd := some 31) rfl rfl (op_nilck_fclo rfl (Opd.tmp _ _ rfl)) ?_
  first | refine Run.pure (dd := some 32) rfl rfl (op_fld_ptr (by decide) rfl (Opd.tmp _ _ rfl)) ?_ | refine Run.pure (dd := some 32) rfl rfl (op_fld_fz (by decide) rfl (Opd.tmp _ _ rfl) tR) ?_
  first | refine Run.load (dd := some 33) rfl rfl (op_load1_flat rfl (Opd.tmp _ _ rfl) tH rfl) ?_ | refine Run.pure (dd := some 33) rfl rfl (op_load1_fz rfl (Opd.tmp _ _ rfl) rfl) ?_ | refine Run.load (dd := some 33) rfl rfl (op_load1_refs rfl (Opd.tmp _ _ rfl) tH rfl) ?_
  first | refine Run.pure (dd := some 34) rfl rfl (op_move rfl (Opd.tmp _ _ rfl)) ?_ | refine Run.pure (dd := some 34) rfl rfl (op_junk (.inl rfl)) ?_
  first | refine Run.pure (dd := some 35) rfl rfl (op_idx_sl0 _ rfl (Opd.tmp _ _ rfl) (Opd.tmp _ _ rfl) tD) ?_ | refine Run.pure (dd := some 35) rfl rfl (op_idx_fz _ rfl (Opd.tmp _ _ rfl) (Opd.tmp _ _ rfl) tF) ?_
  first | refine Run.load (dd := some 36) rfl rfl (op_load1_flat rfl (Opd.tmp _ _ rfl) tH rfl) ?_ | refine Run.pure (dd := some 36) rfl rfl (op_load1_fz rfl (Opd.tmp _ _ rfl) rfl) ?_ | refine Run.load (dd := some 36) rfl rfl (op_load1_refs rfl (Opd.tmp _ _ rfl) tH rfl) ?_
  refine Run.pure (dd := some 37) rfl rfl (op_lss rfl (Opd.tmp _ _ rfl) (Opd.tmp _ _ rfl)) ?_
  first | refine Run.pure (dd := some 38) rfl rfl (op_move rfl (Opd.tmp _ _ rfl)) ?_ | refine Run.pure (dd := some 38) rfl rfl (op_junk (.inl rfl)) ?_
  first | refine Run.pureG (dd := some 39) rfl rfl rfl tG (op_move rfl (Opd.tmp _ _ rfl)) ?_ | refine Run.pureG (dd := some 39) rfl rfl rfl tG (op_junk (.inl rfl)) ?_
  first | refine Run.pureG (dd := some 40) rfl rfl rfl tG (op_nilck_ptr rfl (Opd.topt _ _ _ rfl tO)) ?_ | refine Run.pureG (dd := some 40) rfl rfl rfl tG (op_nilck_fz rfl (Opd.topt _ _ _ rfl tO)) ?_ | refine Run.pureG (dd := some 40) rfl rfl rfl tG (op_nilck_clo rfl (Opd.topt _ _ _ rfl tO)) ?_ | refine Run.pureG (dd := some 40) rfl rfl rfl tG (op_nilck_fclo rfl (Opd.topt _ _ _ rfl tO)) ?_
  first | refine Run.pureG (dd := some 41) rfl rfl rfl tG (op_fld_ptr (by decide) rfl (Opd.topt _ _ _ rfl tO)) ?_ | refine Run.pureG (dd := some 41) rfl rfl rfl tG (op_fld_fz (by decide) rfl (Opd.topt _ _ _ rfl tO) tR) ?_
  first | refine Run.loadG (dd := some 42) rfl rfl rfl tG (op_load1_flat rfl (Opd.topt _ _ _ rfl tO) tH rfl) ?_ | refine Run.pureG (dd := some 42) rfl rfl rfl tG (op_load1_fz rfl (Opd.topt _ _ _ rfl tO) rfl) ?_ | refine Run.loadG (dd := some 42) rfl rfl rfl tG (op_load1_refs rfl (Opd.topt _ _ _ rfl tO) tH rfl) ?_
  first | refine Run.pureG (dd := some 43) rfl rfl rfl tG (op_move rfl (Opd.tmp _ _ rfl)) ?_ | refine Run.pureG (dd := some 43) rfl rfl rfl tG (op_junk (.inl rfl)) ?_
  first | refine Run.pureG (dd := some 44) rfl rfl rfl tG (op_idx_sl0 _ rfl (Opd.topt _ _ _ rfl tO) (Opd.topt _ _ _ rfl tO) tD) ?_ | refine Run.pureG (dd := some 44) rfl rfl rfl tG (op_idx_fz _ rfl (Opd.topt _ _ _ rfl tO) (Opd.topt _ _ _ rfl tO) tF) ?_
  first | refine Run.loadG (dd := some 45) rfl rfl rfl tG (op_load1_flat rfl (Opd.topt _ _ _ rfl tO) tH rfl) ?_ | refine Run.pureG (dd := some 45) rfl rfl rfl tG (op_load1_fz rfl (Opd.topt _ _ _ rfl tO) rfl) ?_ | refine Run.loadG (dd := some 45) rfl rfl rfl tG (op_load1_refs rfl (Opd.topt _ _ _ rfl tO) tH rfl) ?_
  first | refine Run.pureG (dd := some 46) rfl rfl rfl tG (op_move rfl (Opd.tmp _ _ rfl)) ?_ | refine Run.pureG (dd := some 46) rfl rfl rfl tG (op_junk (.inl rfl)) ?_
  first | refine Run.pureG (dd := some 47) rfl rfl rfl tG (op_nilck_ptr rfl (Opd.topt _ _ _ rfl tO)) ?_ | refine Run.pureG (dd := some 47) rfl rfl rfl tG (op_nilck_fz rfl (Opd.topt _ _ _ rfl tO)) ?_ | refine Run.pureG (dd := some 47) rfl rfl rfl tG (op_nilck_clo rfl (Opd.topt _ _ _ rfl tO)) ?_ | refine Run.pureG (dd := some 47) rfl rfl rfl tG (op_nilck_fclo rfl (Opd.topt _ _ _ rfl tO)) ?_
  first | refine Run.pureG (dd := some 48) rfl rfl rfl tG (op_fld_ptr (by decide) rfl (Opd.topt _ _ _ rfl tO)) ?_ | refine Run.pureG (dd := some 48) rfl rfl rfl tG (op_fld_fz (by decide) rfl (Opd.topt _ _ _ rfl tO) tR) ?_
  first | refine Run.loadG (dd := some 49) rfl rfl rfl tG (op_load1_flat rfl (Opd.topt _ _ _ rfl tO) tH rfl) ?_ | refine Run.pureG (dd := some 49) rfl rfl rfl tG (op_load1_fz rfl (Opd.topt _ _ _ rfl tO) rfl) ?_ | refine Run.loadG (dd := some 49) rfl rfl rfl tG (op_load1_refs rfl (Opd.topt _ _ _ rfl tO) tH rfl) ?_
  first | refine Run.pureG (dd := some 50) rfl rfl rfl tG (op_move rfl (Opd.tmp _ _ rfl)) ?_ | refine Run.pureG (dd := some 50) rfl rfl rfl tG (op_junk (.inl rfl)) ?_
  first | refine Run.pureG (dd := some 51) rfl rfl rfl tG (op_idx_sl0 _ rfl (Opd.topt _ _ _ rfl tO) (Opd.topt _ _ _ rfl tO) tD) ?_ | refine Run.pureG (dd := some 51) rfl rfl rfl tG (op_idx_fz _ rfl (Opd.topt _ _ _ rfl tO) (Opd.topt _ _ _ rfl tO) tF) ?_
  first | refine Run.loadG (dd := some 52) rfl rfl rfl tG (op_load1_flat rfl (Opd.topt _ _ _ rfl tO) tH rfl) ?_ | refine Run.pureG (dd := some 52) rfl rfl rfl tG (op_load1_fz rfl (Opd.topt _ _ _ rfl tO) rfl) ?_ | refine Run.loadG (dd := some 52) rfl rfl rfl tG (op_load1_refs rfl (Opd.topt _ _ _ rfl tO) tH rfl) ?_
  refine Run.pureG (dd := some 53) rfl rfl rfl tG (op_eql rfl (Opd.topt _ _ _ rfl tO) (Opd.topt _ _ _ rfl tO)) ?_
  first | refine Run.pureG (dd := some 54) rfl rfl rfl tG (op_move rfl (Opd.topt _ _ _ rfl tO)) ?_ | refine Run.pureG (dd := some 54) rfl rfl rfl tG (op_junk (.inl rfl)) ?_
  first | refine Run.pureG (dd := some 55) rfl rfl rfl tG (op_move rfl (Opd.tmp _ _ rfl)) ?_ | refine Run.pureG (dd := some 55) rfl rfl rfl tG (op_junk (.inl rfl)) ?_
  first | refine Run.pureG (dd := some 56) rfl rfl rfl tG (op_move rfl (Opd.tmp _ _ rfl)) ?_ | refine Run.pureG (dd := some 56) rfl rfl rfl tG (op_junk (.inl rfl)) ?_
  refine Run.pureG (dd := some 57) rfl rfl rfl tG (op_lss rfl (Opd.topt _ _ _ rfl tO) (Opd.topt _ _ _ rfl tO)) ?_
  refine Run.pureG (dd := some 58) rfl rfl rfl tG (op_pick_and rfl (Opd.topt _ _ _ rfl tO) (Opd.topt _ _ _ rfl tO)) ?_
  refine Run.pure (dd := some 59) rfl rfl (op_pick_or rfl (Opd.tmp _ _ rfl) (Opd.topt _ _ _ rfl tO)) ?_
  first | refine Run.pure (dd := some 6) rfl rfl (op_assign rfl (Opd.tmp _ _ rfl)) ?_ | refine Run.pure (dd := some 6) rfl rfl (op_junk (.inr rfl)) ?_
  refine Run.nil (FinD.mk (by kernel_rfl) ?_)
  refine nK2 ?_
  refine Next.weak [0, 1, 2, 3] [] (by rfl) (keepsN hC _ rfl) (G' := [(6, .fz _)]) (H' := HH h) (by repeat (first | exact trivial | refine ⟨⟨_, rfl, .inl ⟨rfl, rfl⟩⟩, ?_⟩ | refine ⟨⟨_, rfl, .inl ⟨slEq rfl tN, rfl⟩⟩, ?_⟩ | refine ⟨⟨_, rfl, .inl ⟨ivEq tX, rfl⟩⟩, ?_⟩)) (by exact ⟨ent_same rfl rfl rfl tL, ⟨ent_same rfl rfl rfl tL, ⟨ent_same rfl rfl rfl tL, ⟨ent_same rfl rfl rfl tL, trivial⟩⟩⟩⟩) (fun _ h => by simp at h) ?_
  exact n_out1 rfl (by rfl) rfl rfl
theorem swap_c (h : Hq) (o : h.Ok) (i j : Nat) (hi : i < h.it.length) (hj : j < h.it.length) : Meets Try.prog 63 [.ptr 0 3 0 0, IV .i64 i, IV .i64 j] 4 (HH h) (.fz (.tup [])) (HH (swapH h i j)) 4 := by
  have ri := row_of encT h.it i 0 hi
  have rj := row_of encT h.it j 0 hj
  have hv := o.item hi
  have hw := o.item hj
  unfold Hq.item at hv hw
  unfold swapH Hq.item
  have ril : i < (h.it.map encT).length := by rw [List.length_map]; exact hi
  have rjl : j < (h.it.map encT).length := by rw [List.length_map]; exact hj
  generalize h.it.getD i 0 = v at *
  generalize h.it.getD j 0 = w at *
  have rv := row_of encN h.pl v 0 (by omega)
  have rw_ := row_of encN h.pl w 0 (by omega)
  have s1 : ((h.it.map encT).set i (encT w))[j]? = some (if i = j then encT w else encT w) := by
    rw [List.getElem?_set]; by_cases e : i = j
    · subst e; rw [if_pos rfl, if_pos ril, if_pos rfl]
    · rw [if_neg e, if_neg e]; exact rj
  have s2 : (((h.it.map encT).set i (encT w)).set j (encT v))[i]? = some (encT w) := by
    rw [List.getElem?_set]; by_cases e : j = i
    · subst e
      rw [ri] at rj; injection rj with e2
      rw [if_pos rfl, if_pos (by simpa using ril), e2]
    · rw [if_neg e, List.getElem?_set, if_pos rfl, if_pos ril]
  have s3 : (((h.it.map encT).set i (encT w)).set j (encT v))[j]? = some (encT v) := by
    rw [List.getElem?_set, if_pos rfl, if_pos (by simpa using rjl)]
  have s4 : ((h.pl.map encN).set w [If .i64 (i : Int)])[v]? = some (((h.pl.map encN).set w [If .i64 (i : Int)]).getD v []) := by
    rw [List.getD_eq_getElem?_getD, List.getElem?_eq_getElem (by simp; omega)]; rfl
  have l4 : ∀ z : List FV, ((h.pl.map encN).set w [If .i64 (i : Int)])[v]? = some z → z.length = 1 := fun z hz => by
    rcases List.mem_or_eq_of_mem_set (List.mem_of_getElem? hz) with h1 | rfl
    · obtain ⟨q, _, rfl⟩ := List.mem_map.1 h1; rfl
    · rfl
  have l5 := l4 _ s4
  generalize ((h.pl.map encN).set w [If .i64 (i : Int)]).getD v [] = z at *
  simp only [ite_self] at s1
  refine Meets.intro Try.func63 rfl (Nat.le_of_ble_eq_true rfl) fun C hC => ?_
  simp only [List.map, argEnv, Nat.reduceAdd]
  refine nK2 ?_
  refine s_draw mixed ?_
  first | refine Run.pure (dd := some 6) rfl rfl (op_move rfl (Opd.tmp _ _ rfl)) ?_ | refine Run.pure (dd := some 6) rfl rfl (op_junk (.inl rfl)) ?_
  first | refine Run.pure (dd := some 7) rfl rfl (op_nilck_ptr rfl (Opd.tmp _ _ rfl)) ?_ | refine Run.pure (dd := some 7) rfl rfl (op_nilck_fz rfl (Opd.tmp _ _ rfl)) ?_ | refine Run.pure (dd := some 7) rfl rfl (op_nilck_clo rfl (Opd.tmp _ _ rfl)) ?_ | refine Run.pure (dd := some 7) rfl rfl (op_nilck_fclo rfl (Opd.tmp _ _ rfl)) ?_
  first | refine Run.pure (dd := some 8) rfl rfl (op_fld_ptr (by decide) rfl (Opd.tmp _ _ rfl)) ?_ | refine Run.pure (dd := some 8) rfl rfl (op_fld_fz (by decide) rfl (Opd.tmp _ _ rfl) tR) ?_
  first | refine Run.load (dd := some 9) rfl rfl (op_load1_flat rfl (Opd.tmp _ _ rfl) tH rfl) ?_ | refine Run.pure (dd := some 9) rfl rfl (op_load1_fz rfl (Opd.tmp _ _ rfl) rfl) ?_ | refine Run.load (dd := some 9) rfl rfl (op_load1_refs rfl (Opd.tmp _ _ rfl) tH rfl) ?_
  first | refine Run.pure (dd := some 10) rfl rfl (op_move rfl (Opd.tmp _ _ rfl)) ?_ | refine Run.pure (dd := some 10) rfl rfl (op_junk (.inl rfl)) ?_
  first | refine Run.pure (dd := some 11) rfl rfl (op_move rfl (Opd.tmp _ _ rfl)) ?_ | refine Run.pure (dd := some 11) rfl rfl (op_junk (.inl rfl)) ?_
  first | refine Run.pure (dd := some 12) rfl rfl (op_nilck_ptr rfl (Opd.tmp _ _ rfl)) ?_ | refine Run.pure (dd := some 12) rfl rfl (op_nilck_fz rfl (Opd.tmp _ _ rfl)) ?_ | refine Run.pure (dd := some 12) rfl rfl (op_nilck_clo rfl (Opd.tmp _ _ rfl)) ?_ | refine Run.pure (dd := some 12) rfl rfl (op_nilck_fclo rfl (Opd.tmp _ _ rfl)) ?_
  first | refine Run.pure (dd := some 13) rfl rfl (op_fld_ptr (by decide) rfl (Opd.tmp _ _ rfl)) ?_ | refine Run.pure (dd := some 13) rfl rfl (op_fld_fz (by decide) rfl (Opd.tmp _ _ rfl) tR) ?_
  first | refine Run.load (dd := some 14) rfl rfl (op_load1_flat rfl (Opd.tmp _ _ rfl) tH rfl) ?_ | refine Run.pure (dd := some 14) rfl rfl (op_load1_fz rfl (Opd.tmp _ _ rfl) rfl) ?_ | refine Run.load (dd := some 14) rfl rfl (op_load1_refs rfl (Opd.tmp _ _ rfl) tH rfl) ?_
  first | refine Run.pure (dd := some 15) rfl rfl (op_move rfl (Opd.tmp _ _ rfl)) ?_ | refine Run.pure (dd := some 15) rfl rfl (op_junk (.inl rfl)) ?_
  first | refine Run.pure (dd := some 16) rfl rfl (op_move rfl (Opd.tmp _ _ rfl)) ?_ | refine Run.pure (dd := some 16) rfl rfl (op_junk (.inl rfl)) ?_
  first | refine Run.pure (dd := some 17) rfl rfl (op_nilck_ptr rfl (Opd.tmp _ _ rfl)) ?_ | refine Run.pure (dd := some 17) rfl rfl (op_nilck_fz rfl (Opd.tmp _ _ rfl)) ?_ | refine Run.pure (dd := some 17) rfl rfl (op_nilck_clo rfl (Opd.tmp _ _ rfl)) ?_ | refine Run.pure (dd := some 17) rfl rfl (op_nilck_fclo rfl (Opd.tmp _ _ rfl)) ?_
  first | refine Run.pure (dd := some 18) rfl rfl (op_fld_ptr (by decide) rfl (Opd.tmp _ _ rfl)) ?_ | refine Run.pure (dd := some 18) rfl rfl (op_fld_fz (by decide) rfl (Opd.tmp _ _ rfl) tR) ?_
  first | refine Run.load (dd := some 19) rfl rfl (op_load1_flat rfl (Opd.tmp _ _ rfl) tH rfl) ?_ | refine Run.pure (dd := some 19) rfl rfl (op_load1_fz rfl (Opd.tmp _ _ rfl) rfl) ?_ | refine Run.load (dd := some 19) rfl rfl (op_load1_refs rfl (Opd.tmp _ _ rfl) tH rfl) ?_
  first | refine Run.pure (dd := some 20) rfl rfl (op_move rfl (Opd.tmp _ _ rfl)) ?_ | refine Run.pure (dd := some 20) rfl rfl (op_junk (.inl rfl)) ?_
  first | refine Run.pure (dd := some 21) rfl rfl (op_idx_sl0 _ rfl (Opd.tmp _ _ rfl) (Opd.tmp _ _ rfl) tD) ?_ | refine Run.pure (dd := some 21) rfl rfl (op_idx_fz _ rfl (Opd.tmp _ _ rfl) (Opd.tmp _ _ rfl) tF) ?_
  first | refine Run.load (dd := some 22) rfl rfl (op_load1_flat rfl (Opd.tmp _ _ rfl) tH rfl) ?_ | refine Run.pure (dd := some 22) rfl rfl (op_load1_fz rfl (Opd.tmp _ _ rfl) rfl) ?_ | refine Run.load (dd := some 22) rfl rfl (op_load1_refs rfl (Opd.tmp _ _ rfl) tH rfl) ?_
  first | refine Run.pure (dd := some 23) rfl rfl (op_move rfl (Opd.tmp _ _ rfl)) ?_ | refine Run.pure (dd := some 23) rfl rfl (op_junk (.inl rfl)) ?_
  first | refine Run.pure (dd := some 24) rfl rfl (op_nilck_ptr rfl (Opd.tmp _ _ rfl)) ?_ | refine Run.pure (dd := some 24) rfl rfl (op_nilck_fz rfl (Opd.tmp _ _ rfl)) ?_ | refine Run.pure (dd := some 24) rfl rfl (op_nilck_clo rfl (Opd.tmp _ _ rfl)) ?_ | refine Run.pure (dd := some 24) rfl rfl (op_nilck_fclo rfl (Opd.tmp _ _ rfl)) ?_
  first | refine Run.pure (dd := some 25) rfl rfl (op_fld_ptr (by decide) rfl (Opd.tmp _ _ rfl)) ?_ | refine Run.pure (dd := some 25) rfl rfl (op_fld_fz (by decide) rfl (Opd.tmp _ _ rfl) tR) ?_
  first | refine Run.load (dd := some 26) rfl rfl (op_load1_flat rfl (Opd.tmp _ _ rfl) tH rfl) ?_ | refine Run.pure (dd := some 26) rfl rfl (op_load1_fz rfl (Opd.tmp _ _ rfl) rfl) ?_ | refine Run.load (dd := some 26) rfl rfl (op_load1_refs rfl (Opd.tmp _ _ rfl) tH rfl) ?_
  first | refine Run.pure (dd := some 27) rfl rfl (op_move rfl (Opd.tmp _ _ rfl)) ?_ | refine Run.pure (dd := some 27) rfl rfl (op_junk (.inl rfl)) ?_
  first | refine Run.pure (dd := some 28) rfl rfl (op_idx_sl0 _ rfl (Opd.tmp _ _ rfl) (Opd.tmp _ _ rfl) tD) ?_ | refine Run.pure (dd := some 28) rfl rfl (op_idx_fz _ rfl (Opd.tmp _ _ rfl) (Opd.tmp _ _ rfl) tF) ?_
  first | refine Run.load (dd := some 29) rfl rfl (op_load1_flat rfl (Opd.tmp _ _ rfl) tH rfl) ?_ | refine Run.pure (dd := some 29) rfl rfl (op_load1_fz rfl (Opd.tmp _ _ rfl) rfl) ?_ | refine Run.load (dd := some 29) rfl rfl (op_load1_refs rfl (Opd.tmp _ _ rfl) tH rfl) ?_
  first | refine Run.pure (dd := some 30) rfl rfl (op_idx_sl0 _ rfl (Opd.tmp _ _ rfl) (Opd.tmp _ _ rfl) tD) ?_ | refine Run.pure (dd := some 30) rfl rfl (op_idx_fz _ rfl (Opd.tmp _ _ rfl) (Opd.tmp _ _ rfl) tF) ?_
  refine Run.effW (dd := none) rfl rfl (op_store_flat rfl (Opd.tmp _ _ rfl) (Opd.tmp _ _ rfl) tC rfl rfl ri tS) (by first | exact ext_call | exact tE) ?_
  first | refine Run.pure (dd := some 31) rfl rfl (op_idx_sl0 _ rfl (Opd.tmp _ _ rfl) (Opd.tmp _ _ rfl) tD) ?_ | refine Run.pure (dd := some 31) rfl rfl (op_idx_fz _ rfl (Opd.tmp _ _ rfl) (Opd.tmp _ _ rfl) tF) ?_
  refine Run.effW (dd := none) rfl rfl (op_store_flat rfl (Opd.tmp _ _ rfl) (Opd.tmp _ _ rfl) tC rfl rfl s1 tS) (by first | exact ext_call | exact tE) ?_
  refine Run.nil (FinD.mk (by kernel_rfl) ?_)
  refine nK2 ?_
  refine nK2 ?_
  refine s_draw mixed ?_
  first | refine Run.pure (dd := some 32) rfl rfl (op_move rfl (Opd.tmp _ _ rfl)) ?_ | refine Run.pure (dd := some 32) rfl rfl (op_junk (.inl rfl)) ?_
  first | refine Run.pure (dd := some 33) rfl rfl (op_nilck_ptr rfl (Opd.tmp _ _ rfl)) ?_ | refine Run.pure (dd := some 33) rfl rfl (op_nilck_fz rfl (Opd.tmp _ _ rfl)) ?_ | refine Run.pure (dd := some 33) rfl rfl (op_nilck_clo rfl (Opd.tmp _ _ rfl)) ?_ | refine Run.pure (dd := some 33) rfl rfl (op_nilck_fclo rfl (Opd.tmp _ _ rfl)) ?_
  first | refine Run.pure (dd := some 34) rfl rfl (op_fld_ptr (by decide) rfl (Opd.tmp _ _ rfl)) ?_ | refine Run.pure (dd := some 34) rfl rfl (op_fld_fz (by decide) rfl (Opd.tmp _ _ rfl) tR) ?_
  first | refine Run.load (dd := some 35) rfl rfl (op_load1_flat rfl (Opd.tmp _ _ rfl) tH rfl) ?_ | refine Run.pure (dd := some 35) rfl rfl (op_load1_fz rfl (Opd.tmp _ _ rfl) rfl) ?_ | refine Run.load (dd := some 35) rfl rfl (op_load1_refs rfl (Opd.tmp _ _ rfl) tH rfl) ?_
  first | refine Run.pure (dd := some 36) rfl rfl (op_move rfl (Opd.tmp _ _ rfl)) ?_ | refine Run.pure (dd := some 36) rfl rfl (op_junk (.inl rfl)) ?_
  first | refine Run.pure (dd := some 37) rfl rfl (op_nilck_ptr rfl (Opd.tmp _ _ rfl)) ?_ | refine Run.pure (dd := some 37) rfl rfl (op_nilck_fz rfl (Opd.tmp _ _ rfl)) ?_ | refine Run.pure (dd := some 37) rfl rfl (op_nilck_clo rfl (Opd.tmp _ _ rfl)) ?_ | refine Run.pure (dd := some 37) rfl rfl (op_nilck_fclo rfl (Opd.tmp _ _ rfl)) ?_
  first | refine Run.pure (dd := some 38) rfl rfl (op_fld_ptr (by decide) rfl (Opd.tmp _ _ rfl)) ?_ | refine Run.pure (dd := some 38) rfl rfl (op_fld_fz (by decide) rfl (Opd.tmp _ _ rfl) tR) ?_
  first | refine Run.load (dd := some 39) rfl rfl (op_load1_flat rfl (Opd.tmp _ _ rfl) tH rfl) ?_ | refine Run.pure (dd := some 39) rfl rfl (op_load1_fz rfl (Opd.tmp _ _ rfl) rfl) ?_ | refine Run.load (dd := some 39) rfl rfl (op_load1_refs rfl (Opd.tmp _ _ rfl) tH rfl) ?_
  first | refine Run.pure (dd := some 40) rfl rfl (op_move rfl (Opd.tmp _ _ rfl)) ?_ | refine Run.pure (dd := some 40) rfl rfl (op_junk (.inl rfl)) ?_
  refine Run.pure (dd := some 41) rfl rfl (op_idx_sl0 i rfl (Opd.tmp _ _ rfl) (Opd.tmp _ _ rfl) tD) ?_
  refine Run.load (dd := some 42) rfl rfl (op_load1_flat rfl (Opd.tmp _ _ rfl) (by intro _; exact ⟨rfl, s2⟩) rfl) ?_
  first | refine Run.pure (dd := some 43) rfl rfl (op_move rfl (Opd.tmp _ _ rfl)) ?_ | refine Run.pure (dd := some 43) rfl rfl (op_junk (.inl rfl)) ?_
  first | refine Run.pure (dd := some 44) rfl rfl (op_nilck_ptr rfl (Opd.tmp _ _ rfl)) ?_ | refine Run.pure (dd := some 44) rfl rfl (op_nilck_fz rfl (Opd.tmp _ _ rfl)) ?_ | refine Run.pure (dd := some 44) rfl rfl (op_nilck_clo rfl (Opd.tmp _ _ rfl)) ?_ | refine Run.pure (dd := some 44) rfl rfl (op_nilck_fclo rfl (Opd.tmp _ _ rfl)) ?_
  first | refine Run.pure (dd := some 45) rfl rfl (op_fld_ptr (by decide) rfl (Opd.tmp _ _ rfl)) ?_ | refine Run.pure (dd := some 45) rfl rfl (op_fld_fz (by decide) rfl (Opd.tmp _ _ rfl) tR) ?_
  first | refine Run.load (dd := some 46) rfl rfl (op_load1_flat rfl (Opd.tmp _ _ rfl) tH rfl) ?_ | refine Run.pure (dd := some 46) rfl rfl (op_load1_fz rfl (Opd.tmp _ _ rfl) rfl) ?_ | refine Run.load (dd := some 46) rfl rfl (op_load1_refs rfl (Opd.tmp _ _ rfl) tH rfl) ?_
  first | refine Run.pure (dd := some 47) rfl rfl (op_move rfl (Opd.tmp _ _ rfl)) ?_ | refine Run.pure (dd := some 47) rfl rfl (op_junk (.inl rfl)) ?_
  first | refine Run.pure (dd := some 48) rfl rfl (op_nilck_ptr rfl (Opd.tmp _ _ rfl)) ?_ | refine Run.pure (dd := some 48) rfl rfl (op_nilck_fz rfl (Opd.tmp _ _ rfl)) ?_ | refine Run.pure (dd := some 48) rfl rfl (op_nilck_clo rfl (Opd.tmp _ _ rfl)) ?_ | refine Run.pure (dd := some 48) rfl rfl (op_nilck_fclo rfl (Opd.tmp _ _ rfl)) ?_
  first | refine Run.pure (dd := some 49) rfl rfl (op_fld_ptr (by decide) rfl (Opd.tmp _ _ rfl)) ?_ | refine Run.pure (dd := some 49) rfl rfl (op_fld_fz (by decide) rfl (Opd.tmp _ _ rfl) tR) ?_
  first | refine Run.load (dd := some 50) rfl rfl (op_load1_flat rfl (Opd.tmp _ _ rfl) tH rfl) ?_ | refine Run.pure (dd := some 50) rfl rfl (op_load1_fz rfl (Opd.tmp _ _ rfl) rfl) ?_ | refine Run.load (dd := some 50) rfl rfl (op_load1_refs rfl (Opd.tmp _ _ rfl) tH rfl) ?_
  first | refine Run.pure (dd := some 51) rfl rfl (op_move rfl (Opd.tmp _ _ rfl)) ?_ | refine Run.pure (dd := some 51) rfl rfl (op_junk (.inl rfl)) ?_
  refine Run.pure (dd := some 52) rfl rfl (op_idx_sl0 j rfl (Opd.tmp _ _ rfl) (Opd.tmp _ _ rfl) tD) ?_
  refine Run.load (dd := some 53) rfl rfl (op_load1_flat rfl (Opd.tmp _ _ rfl) (by intro _; exact ⟨rfl, s3⟩) rfl) ?_
  first | refine Run.pure (dd := some 54) rfl rfl (op_move rfl (Opd.tmp _ _ rfl)) ?_ | refine Run.pure (dd := some 54) rfl rfl (op_junk (.inl rfl)) ?_
  first | refine Run.pure (dd := some 55) rfl rfl (op_move rfl (Opd.tmp _ _ rfl)) ?_ | refine Run.pure (dd := some 55) rfl rfl (op_junk (.inl rfl)) ?_
  first | refine Run.pure (dd := some 56) rfl rfl (op_idx_sl0 _ rfl (Opd.tmp _ _ rfl) (Opd.tmp _ _ rfl) tD) ?_ | refine Run.pure (dd := some 56) rfl rfl (op_idx_fz _ rfl (Opd.tmp _ _ rfl) (Opd.tmp _ _ rfl) tF) ?_
  refine Run.effW (dd := none) rfl rfl (op_store_flat rfl (Opd.tmp _ _ rfl) (Opd.tmp _ _ rfl) tC rfl rfl rw_ tS) (by first | exact ext_call | exact tE) ?_
  first | refine Run.pure (dd := some 57) rfl rfl (op_idx_sl0 _ rfl (Opd.tmp _ _ rfl) (Opd.tmp _ _ rfl) tD) ?_ | refine Run.pure (dd := some 57) rfl rfl (op_idx_fz _ rfl (Opd.tmp _ _ rfl) (Opd.tmp _ _ rfl) tF) ?_
  refine Run.effW (dd := none) rfl rfl (op_store_flat rfl (Opd.tmp _ _ rfl) (Opd.tmp _ _ rfl) tC rfl rfl s4 (Sp.whole _ _ (by rw [l5]; rfl))) (by first | exact ext_call | exact tE) ?_
  refine Run.nil (FinD.mk (by kernel_rfl) ?_)
  refine Next.weak [0, 1, 2, 3] [] (by rfl) (keepsN hC _ rfl) (G' := []) (H' := HH ⟨(h.it.set i w).set j v, (h.pl.set w i).set v j, h.ky⟩) trivial (by exact ⟨ent_same rfl rfl (by simp only [List.length_set]; rfl) tL, ⟨ent_same rfl rfl (flEq rfl (by first | (rw [List.map_set, List.map_set]; done) | (rw [List.map_set, List.map_set]; rfl))) trivial, ⟨ent_same rfl rfl (flEq rfl (by first | (rw [List.map_set, List.map_set]; done) | (rw [List.map_set, List.map_set]; rfl))) trivial, ⟨ent_same rfl rfl rfl tL, trivial⟩⟩⟩⟩) (fun _ h => by simp at h) ?_
  exact n_out0 rfl
end Go.Proofs.Ytgbfkpcigipniaa
/- A call that is lent objects and leaves them as they were. -/
namespace Go.RT
open Go
set_option linter.all false
section
variable {P : Program} {o : Oper} {g : Bool} {G : Env} {H : Hp} {nx : Nat}
theorem Lent.agree {L : List Nat} {n : Nat} {H H' Hin : Hp} (h : Lent L n H Hin) (ha : ∀ i, L.contains i = true → hlook H' i = hlook H i) : Lent L n H' Hin :=
  ⟨h.len, h.nodup, h.all, fun i o hi => by
    obtain ⟨h1, h2, h3⟩ := h.get i o hi
    exact ⟨h1, (ha _ (by simp only [List.contains_eq_mem, decide_eq_true_eq, renI, List.getD_eq_getElem?_getD]; rw [List.getElem?_eq_getElem (by rw [h.len]; exact h1)]; exact List.getElem_mem _)).trans h2, h3⟩⟩
theorem callH_same {L : List Nat} {n : Nat} {H Hin : Hp} (h : Lent L n H Hin) (hHo : ∀ x ∈ Hin, x.1 < n) (id : Nat) : hlook (callH L Hin L H) id = hlook H id := by
  have hnd := nodupB_spec h.nodup
  have hmem : ∀ i, i < n → renI L i ∈ L := fun i hi => by simp [renI, h.len, hi]
  unfold callH
  rw [List.append_assoc, hlook_append]
  split
  · rename_i hm
    obtain ⟨x, hx, rfl⟩ := List.mem_map.1 hm
    obtain ⟨y, hy, rfl⟩ := List.mem_map.1 hx
    have hlt := hHo y hy
    simp only [renE]
    rw [hlook_ren h.len hnd hHo y.1 hlt]
    obtain ⟨o2, ho2⟩ := h.all y.1 hlt
    rw [ho2, (h.get y.1 o2 ho2).2.1]; rfl
  · rename_i hm
    rw [hlook_append]
    split
    · rename_i hm2
      exfalso
      obtain ⟨x, hx, rfl⟩ := List.mem_map.1 hm2
      obtain ⟨i, hi, rfl⟩ := List.mem_map.1 hx
      obtain ⟨j, hj, he⟩ := List.getElem_of_mem hi
      have hjn : j < n := by rw [← h.len]; exact hj
      obtain ⟨o2, ho2⟩ := h.all j hjn
      refine hm (List.mem_map.2 ⟨renE L (j, some o2), List.mem_map.2 ⟨(j, some o2), ?_, rfl⟩, ?_⟩)
      · have : ∀ {A : Hp}, hlook A j = some o2 → (j, some o2) ∈ A := fun {A} hA => by
          induction A with
          | nil => cases hA
          | cons a A ih =>
            obtain ⟨k, v⟩ := a
            rw [hlook_cons] at hA
            by_cases hk : k = j
            · rw [if_pos hk] at hA; subst hk; rw [hA]; exact List.mem_cons_self ..
            · rw [if_neg hk] at hA; exact List.mem_cons_of_mem _ (ih hA)
        exact this ho2
      · simp [renE, renI, hj, he]
    · rfl
/-- A CALL THAT READS lent objects and leaves them as they were. -/
theorem op_call_read {f : FuncId} {cf : Operand} {xs : List Operand} {ts : Array TypeId} {fs cs ps args : List PV} {n : Nat} {Hin : Hp} {res : FV} (L : List Nat) (hM : g = true → Meets P f args n Hin (.fz res) Hin n) [hb : FnB P f] (ho : o.op = .call { callee := .value cf, args := xs.toArray, argTypes := ts })
    (hf : Opd G g cf (.clo f fs cs)) (hx : Opds G g xs ps) (hargs : fs ++ ps ++ cs = args.map (renP L)) (hlt : args.all (ltP n) = true) (hL : Lent L n H Hin) (hHo : Hin.all (fun x => Nat.blt x.1 n) = true) : OpL P o g G H L (.fz res) := fun H' nx' hag => by
  have hL' := hL.agree hag
  have hHo' : ∀ x ∈ Hin, x.1 < n := fun x hx => blt_of (List.all_eq_true.1 hHo x hx)
  have h := op_call (P := P) (o := o) (g := g) (G := G) (H := H') (nx := nx') (H' := callH (L ++ List.range' nx' (n - n)) Hin L H') (nx' := nx' + (n - n)) (res' := .fz res) L hM ho hf hx hargs hlt hL' (by simp [Nat.ble_eq]) hHo rfl rfl rfl
  refine ⟨fun C S m a w hm hg ha K Q hK => h.run C S m a w hm hg ha K Q fun v w' S' m' hm' hle hr => hK v w' S' m' ?_ hle hr⟩
  rw [Nat.sub_self, Nat.add_zero] at hm'
  simp only [List.range'_zero, List.append_nil] at hm'
  exact hm'.reheap2 fun id => (callH_same hL' hHo' id).symm
end
end Go.RT
namespace Go.Proofs.Ytgbfkpcigipniaa
open Go Go.RT Go.Proofs Go.Pl
set_option linter.all false
set_option maxRecDepth 20000
theorem less_i (h : Hq) (o : h.Ok) (a b : Int) (i j : Nat) (ha : a = i) (hb : b = j) (hi : i < h.it.length) (hj : j < h.it.length) : Meets Try.prog 62 [.ptr 0 3 0 0, IV .i64 a, IV .i64 b] 4 (HH h) (.fz (.lit (.bool (lessH h i j)))) (HH h) 4 := by
  subst ha; subst hb; exact less_c h o i j hi hj
theorem swap_i (h : Hq) (o : h.Ok) (a b : Int) (i j : Nat) (ha : a = i) (hb : b = j) (hi : i < h.it.length) (hj : j < h.it.length) : Meets Try.prog 63 [.ptr 0 3 0 0, IV .i64 a, IV .i64 b] 4 (HH h) (.fz (.tup [])) (HH (swapH h i j)) 4 := by
  subst ha; subst hb; exact swap_c h o i j hi hj
abbrev GS (i n : Nat) : Env := [(0, IV .i64 i), (1, IV .i64 n), (2, .clo 62 [.ptr 0 3 0 0] []), (3, .clo 63 [.ptr 0 3 0 0] [])]
theorem settle_c (h : Hq) (o : h.Ok) (i n : Nat) (hi : i < h.it.length) (hn : n = h.it.length) (hm : n ≤ 2000000) : Meets Try.prog 61 [IV .i64 i, IV .i64 n, .clo 62 [.ptr 0 3 0 0] [], .clo 63 [.ptr 0 3 0 0] []] 4 (HH h) (.fz (.tup [])) (HH (settleH h i n)) 4 := by
  refine Meets.intro Try.func61 rfl (Nat.le_of_ble_eq_true rfl) fun C hC => ?_
  simp only [List.map, argEnv, Nat.reduceAdd]
  refine nK2 ?_
  refine n_loop (ι := Hq × Nat) (fun s => (GS s.2 n, HH s.1, 4)) (fun s => Like h s.1 ∧ s.2 < h.it.length ∧ upH s.1 s.2 = upH h i) (fun s => s.2) (h, i) ⟨⟨o, rfl, rfl, rfl⟩, hi, rfl⟩ ?_ ?_
  · refine Next.weak [0, 1, 2, 3] [] (by rfl) (keepsN hC _ rfl) (by repeat (first | exact trivial | refine ⟨⟨_, rfl, .inl ⟨rfl, rfl⟩⟩, ?_⟩ | refine ⟨⟨_, rfl, .inl ⟨slEq rfl tN, rfl⟩⟩, ?_⟩ | refine ⟨⟨_, rfl, .inl ⟨ivEq tX, rfl⟩⟩, ?_⟩)) (by exact ⟨ent_same rfl rfl rfl tL, ⟨ent_same rfl rfl rfl tL, ⟨ent_same rfl rfl rfl tL, ⟨ent_same rfl rfl rfl tL, trivial⟩⟩⟩⟩) (fun _ h => by simp at h) rel_intro
  · intro ⟨h', j⟩ ⟨hl, hj, he⟩ K hK
    dsimp only at hl hj he ⊢
    have hl' := hl
    obtain ⟨o', l1, l2, l3⟩ := hl'
    refine nK2 ?_
    refine s_reg rfl ?_
    first | refine Run.pure (dd := some 9) rfl rfl (op_move rfl (Opd.tmp _ _ rfl)) ?_ | refine Run.pure (dd := some 9) rfl rfl (op_junk (.inl rfl)) ?_
    refine Run.pure (dd := some 10) rfl rfl (op_gtr rfl (Opd.tmp _ _ rfl) (Opd.const _)) ?_
    first | refine Run.pure (dd := some 11) rfl rfl (op_move rfl (Opd.tmp _ _ rfl)) ?_ | refine Run.pure (dd := some 11) rfl rfl (op_junk (.inl rfl)) ?_
    first | refine Run.pureG (dd := some 12) rfl rfl rfl tG (op_move rfl (Opd.tmp _ _ rfl)) ?_ | refine Run.pureG (dd := some 12) rfl rfl rfl tG (op_junk (.inl rfl)) ?_
    first | refine Run.pureG (dd := some 13) rfl rfl rfl tG (op_move rfl (Opd.tmp _ _ rfl)) ?_ | refine Run.pureG (dd := some 13) rfl rfl rfl tG (op_junk (.inl rfl)) ?_
    first | refine Run.pureG (dd := some 14) rfl rfl rfl tG (op_move rfl (Opd.tmp _ _ rfl)) ?_ | refine Run.pureG (dd := some 14) rfl rfl rfl tG (op_junk (.inl rfl)) ?_
    refine Run.pureG (dd := some 15) rfl rfl rfl tG (op_sub rfl (Opd.topt _ _ _ rfl tO) (Opd.const _) tI) ?_
    refine Run.pureG (dd := some 16) rfl rfl rfl tG (op_quo rfl (Opd.topt _ _ _ rfl tO) (Opd.const _) tM) ?_
    refine Run.loadG (dd := some 17) rfl rfl rfl tG (op_call_read (n := 4) [0, 1, 2, 3] (fun hg => less_i h' o' _ _ j ((j - 1) / 2) rfl (by simp at hg; omega) (by omega) (by omega)) rfl (Opd.topt _ _ _ rfl tO) (Opds.cons _ _ _ _ (Opd.topt _ _ _ rfl tO) (Opds.cons _ _ _ _ (Opd.topt _ _ _ rfl tO) Opds.nil)) rfl rfl (Lent.of rfl rfl (by exact ⟨⟨rfl, rfl, rfl, tL⟩, ⟨rfl, rfl, rfl, trivial⟩, ⟨rfl, rfl, rfl, trivial⟩, ⟨rfl, rfl, rfl, trivial⟩, trivial⟩) rfl) rfl) ?_
    refine Run.pure (dd := some 18) rfl rfl (op_pick_and rfl (Opd.tmp _ _ rfl) (Opd.topt _ _ _ rfl tO)) ?_
    refine Run.nil (FinR.mk ?_)
    refine nK2 ?_
    refine n_cond _ rfl (fun hb => ?_) (fun hb => ?_)
    · have hb2 : 0 < j ∧ lessH h' j ((j - 1) / 2) = true := by simpa using hb
      have hst := up_step hb2.1 hb2.2
      refine nK2 ?_
      refine s_reg rfl ?_
      first | refine Run.pure (dd := some 19) rfl rfl (op_move rfl (Opd.tmp _ _ rfl)) ?_ | refine Run.pure (dd := some 19) rfl rfl (op_junk (.inl rfl)) ?_
      first | refine Run.pure (dd := some 20) rfl rfl (op_move rfl (Opd.tmp _ _ rfl)) ?_ | refine Run.pure (dd := some 20) rfl rfl (op_junk (.inl rfl)) ?_
      first | refine Run.pure (dd := some 21) rfl rfl (op_move rfl (Opd.tmp _ _ rfl)) ?_ | refine Run.pure (dd := some 21) rfl rfl (op_junk (.inl rfl)) ?_
      refine Run.pure (dd := some 22) rfl rfl (op_sub rfl (Opd.tmp _ _ rfl) (Opd.const _) tI) ?_
      refine Run.pure (dd := some 23) rfl rfl (op_quo rfl (Opd.tmp _ _ rfl) (Opd.const _) tM) ?_
      refine Run.eff (dd := some 24) rfl rfl (op_call (n := 4) (n' := 4) [0, 1, 2, 3] (fun _ => swap_i h' o' _ _ j ((j - 1) / 2) rfl (by omega) (by omega) (by omega)) rfl (Opd.tmp _ _ rfl) (Opds.cons _ _ _ _ (Opd.tmp _ _ rfl) (Opds.cons _ _ _ _ (Opd.tmp _ _ rfl) Opds.nil)) rfl rfl (Lent.of rfl rfl (by exact ⟨⟨rfl, rfl, rfl, tL⟩, ⟨rfl, rfl, rfl, trivial⟩, ⟨rfl, rfl, rfl, trivial⟩, ⟨rfl, rfl, rfl, trivial⟩, trivial⟩) rfl) rfl rfl rfl rfl rfl) ?_
      refine Run.nil (FinR.mk ?_)
      refine nK2 ?_
      refine s_reg rfl ?_
      first | refine Run.pure (dd := some 25) rfl rfl (op_move rfl (Opd.tmp _ _ rfl)) ?_ | refine Run.pure (dd := some 25) rfl rfl (op_junk (.inl rfl)) ?_
      refine Run.pure (dd := some 26) rfl rfl (op_sub rfl (Opd.tmp _ _ rfl) (Opd.const _) tI) ?_
      refine Run.pure (dd := some 27) rfl rfl (op_quo rfl (Opd.tmp _ _ rfl) (Opd.const _) tM) ?_
      first | refine Run.pure (dd := some 0) rfl rfl (op_assign rfl (Opd.tmp _ _ rfl)) ?_ | refine Run.pure (dd := some 0) rfl rfl (op_junk (.inr rfl)) ?_
      refine Run.nil (FinR.mk ?_)
      refine nK2 ?_
      refine Next.weak [0, 1, 2, 3] [] (by rfl) (keepsN hC _ rfl) (by exact ⟨⟨_, rfl, .inl ⟨ivEq (by omega), rfl⟩⟩, ⟨_, rfl, .inl ⟨rfl, rfl⟩⟩, ⟨_, rfl, .inl ⟨rfl, rfl⟩⟩, ⟨_, rfl, .inl ⟨rfl, rfl⟩⟩, trivial⟩) (by exact ⟨ent_same rfl rfl rfl tL, ⟨ent_same rfl rfl rfl tL, ⟨ent_same rfl rfl rfl tL, ⟨ent_same rfl rfl rfl tL, trivial⟩⟩⟩⟩) (fun _ h => by simp at h) (hK (swapH h' j ((j - 1) / 2), (j - 1) / 2) ⟨hl.swap (by omega) (by omega), by dsimp only; omega, by dsimp only; rw [← hst]; exact he⟩ (by dsimp only; omega))
    · have hb2 : ¬ (0 < j ∧ lessH h' j ((j - 1) / 2) = true) := by simpa using hb
      have hst := up_stop hb2
      rw [hst] at he
      have hse : settleH h i n = downH h' j n := by unfold settleH; rw [← he]
      rw [hse]
      refine nK2 ?_
      refine n_loop (ι := Hq × Nat) (fun s => (GS s.2 n, HH s.1, 4)) (fun s => Like h s.1 ∧ s.2 < h.it.length ∧ downH s.1 s.2 n = downH h' j n) (fun s => n - s.2) (h', j) ⟨hl, hj, rfl⟩ ?_ ?_
      · refine Next.weak [0, 1, 2, 3] [] (by rfl) (keepsN hC _ rfl) (by repeat (first | exact trivial | refine ⟨⟨_, rfl, .inl ⟨rfl, rfl⟩⟩, ?_⟩ | refine ⟨⟨_, rfl, .inl ⟨slEq rfl tN, rfl⟩⟩, ?_⟩ | refine ⟨⟨_, rfl, .inl ⟨ivEq tX, rfl⟩⟩, ?_⟩)) (by exact ⟨ent_same rfl rfl rfl tL, ⟨ent_same rfl rfl rfl tL, ⟨ent_same rfl rfl rfl tL, ⟨ent_same rfl rfl rfl tL, trivial⟩⟩⟩⟩) (fun _ h => by simp at h) rel_intro
      · intro ⟨h2, i2⟩ ⟨hl, hj, he⟩ K2 hK
        dsimp only at hl hj he ⊢
        have hl' := hl
        obtain ⟨o2, l1, l2, l3⟩ := hl'
        refine nK2 ?_
        refine s_reg rfl ?_
        first | refine Run.pure (dd := some 28) rfl rfl (op_move rfl (Opd.tmp _ _ rfl)) ?_ | refine Run.pure (dd := some 28) rfl rfl (op_junk (.inl rfl)) ?_
        refine Run.pure (dd := some 29) rfl rfl (op_mul rfl (Opd.const _) (Opd.tmp _ _ rfl) tI) ?_
        refine Run.pure (dd := some 30) rfl rfl (op_add rfl (Opd.tmp _ _ rfl) (Opd.const _) tI) ?_
        first | refine Run.pure (dd := some 8) rfl rfl (op_assign rfl (Opd.tmp _ _ rfl)) ?_ | refine Run.pure (dd := some 8) rfl rfl (op_junk (.inr rfl)) ?_
        refine Run.nil (FinR.mk ?_)
        refine nK2 ?_
        refine s_reg rfl ?_
        first | refine Run.pure (dd := some 31) rfl rfl (op_move rfl (Opd.tmp _ _ rfl)) ?_ | refine Run.pure (dd := some 31) rfl rfl (op_junk (.inl rfl)) ?_
        refine Run.pure (dd := some 32) rfl rfl (op_add rfl (Opd.tmp _ _ rfl) (Opd.const _) tI) ?_
        first | refine Run.pure (dd := some 33) rfl rfl (op_move rfl (Opd.tmp _ _ rfl)) ?_ | refine Run.pure (dd := some 33) rfl rfl (op_junk (.inl rfl)) ?_
        refine Run.pure (dd := some 34) rfl rfl (op_lss rfl (Opd.tmp _ _ rfl) (Opd.tmp _ _ rfl)) ?_
        first | refine Run.pure (dd := some 35) rfl rfl (op_move rfl (Opd.tmp _ _ rfl)) ?_ | refine Run.pure (dd := some 35) rfl rfl (op_junk (.inl rfl)) ?_
        first | refine Run.pureG (dd := some 36) rfl rfl rfl tG (op_move rfl (Opd.tmp _ _ rfl)) ?_ | refine Run.pureG (dd := some 36) rfl rfl rfl tG (op_junk (.inl rfl)) ?_
        first | refine Run.pureG (dd := some 37) rfl rfl rfl tG (op_move rfl (Opd.tmp _ _ rfl)) ?_ | refine Run.pureG (dd := some 37) rfl rfl rfl tG (op_junk (.inl rfl)) ?_
        refine Run.pureG (dd := some 38) rfl rfl rfl tG (op_add rfl (Opd.topt _ _ _ rfl tO) (Opd.const _) tI) ?_
        first | refine Run.pureG (dd := some 39) rfl rfl rfl tG (op_move rfl (Opd.tmp _ _ rfl)) ?_ | refine Run.pureG (dd := some 39) rfl rfl rfl tG (op_junk (.inl rfl)) ?_
        refine Run.loadG (dd := some 40) rfl rfl rfl tG (op_call_read (n := 4) [0, 1, 2, 3] (fun hg => less_i h2 o2 _ _ (2 * i2 + 1 + 1) (2 * i2 + 1) (by omega) (by omega) (by simp at hg; omega) (by simp at hg; omega)) rfl (Opd.topt _ _ _ rfl tO) (Opds.cons _ _ _ _ (Opd.topt _ _ _ rfl tO) (Opds.cons _ _ _ _ (Opd.topt _ _ _ rfl tO) Opds.nil)) rfl rfl (Lent.of rfl rfl (by exact ⟨⟨rfl, rfl, rfl, tL⟩, ⟨rfl, rfl, rfl, trivial⟩, ⟨rfl, rfl, rfl, trivial⟩, ⟨rfl, rfl, rfl, trivial⟩, trivial⟩) rfl) rfl) ?_
        refine Run.pure (dd := some 41) rfl rfl (op_pick_and rfl (Opd.tmp _ _ rfl) (Opd.topt _ _ _ rfl tO)) ?_
        refine Run.nil (FinR.mk ?_)
        refine nK2 ?_
        refine n_cond _ rfl (fun hb => ?_) (fun hb => ?_)
        · have hb2 : 2 * i2 + 1 + 1 < n ∧ lessH h2 (2 * i2 + 1 + 1) (2 * i2 + 1) = true := by simp at hb; exact ⟨by omega, hb.2⟩
          have hk : kidH h2 i2 n = 2 * i2 + 1 + 1 := by unfold kidH; rw [if_pos hb2]
          refine nK2 ?_
          refine s_reg rfl ?_
          first | refine Run.pure (dd := some 42) rfl rfl (op_move rfl (Opd.tmp _ _ rfl)) ?_ | refine Run.pure (dd := some 42) rfl rfl (op_junk (.inl rfl)) ?_
          refine Run.pure (dd := some 43) rfl rfl (op_add rfl (Opd.tmp _ _ rfl) (Opd.const _) tI) ?_
          first | refine Run.pure (dd := some 8) rfl rfl (op_assign rfl (Opd.tmp _ _ rfl)) ?_ | refine Run.pure (dd := some 8) rfl rfl (op_junk (.inr rfl)) ?_
          refine Run.nil (FinR.mk ?_)
          refine nK2 ?_
          refine s_reg rfl ?_
          first | refine Run.pure (dd := some 44) rfl rfl (op_move rfl (Opd.tmp _ _ rfl)) ?_ | refine Run.pure (dd := some 44) rfl rfl (op_junk (.inl rfl)) ?_
          first | refine Run.pure (dd := some 45) rfl rfl (op_move rfl (Opd.tmp _ _ rfl)) ?_ | refine Run.pure (dd := some 45) rfl rfl (op_junk (.inl rfl)) ?_
          refine Run.pure (dd := some 46) rfl rfl (op_geq rfl (Opd.tmp _ _ rfl) (Opd.tmp _ _ rfl)) ?_
          first | refine Run.pure (dd := some 47) rfl rfl (op_move rfl (Opd.tmp _ _ rfl)) ?_ | refine Run.pure (dd := some 47) rfl rfl (op_junk (.inl rfl)) ?_
          first | refine Run.pureG (dd := some 48) rfl rfl rfl tG (op_move rfl (Opd.tmp _ _ rfl)) ?_ | refine Run.pureG (dd := some 48) rfl rfl rfl tG (op_junk (.inl rfl)) ?_
          first | refine Run.pureG (dd := some 49) rfl rfl rfl tG (op_move rfl (Opd.tmp _ _ rfl)) ?_ | refine Run.pureG (dd := some 49) rfl rfl rfl tG (op_junk (.inl rfl)) ?_
          first | refine Run.pureG (dd := some 50) rfl rfl rfl tG (op_move rfl (Opd.tmp _ _ rfl)) ?_ | refine Run.pureG (dd := some 50) rfl rfl rfl tG (op_junk (.inl rfl)) ?_
          refine Run.loadG (dd := some 51) rfl rfl rfl tG (op_call_read (n := 4) [0, 1, 2, 3] (fun hg => less_i h2 o2 _ _ (2 * i2 + 1 + 1) i2 (by omega) rfl (by simp at hg; omega) (by omega)) rfl (Opd.topt _ _ _ rfl tO) (Opds.cons _ _ _ _ (Opd.topt _ _ _ rfl tO) (Opds.cons _ _ _ _ (Opd.topt _ _ _ rfl tO) Opds.nil)) rfl rfl (Lent.of rfl rfl (by exact ⟨⟨rfl, rfl, rfl, tL⟩, ⟨rfl, rfl, rfl, trivial⟩, ⟨rfl, rfl, rfl, trivial⟩, ⟨rfl, rfl, rfl, trivial⟩, trivial⟩) rfl) rfl) ?_
          refine Run.pureG (dd := some 52) rfl rfl rfl tG (op_not rfl (Opd.topt _ _ _ rfl tO)) ?_
          refine Run.pure (dd := some 53) rfl rfl (op_pick_or rfl (Opd.tmp _ _ rfl) (Opd.topt _ _ _ rfl tO)) ?_
          refine Run.nil (FinR.mk ?_)
          refine nK2 ?_
          refine n_cond _ rfl (fun hb => ?_) (fun hb => ?_)
          · have hst := down_stop (h := h2) (i := i2) (n := n) (by rw [hk]; intro hh; simp [hh.2] at hb; omega)
            rw [hst] at he
            rw [← he]
            refine nK2 ?_
            refine Next.weak [0, 1, 2, 3] [] (by rfl) (keepsN hC _ rfl) (G' := []) (H' := HH h2) trivial (by exact ⟨ent_same rfl rfl rfl tL, ⟨ent_same rfl rfl rfl tL, ⟨ent_same rfl rfl rfl tL, ⟨ent_same rfl rfl rfl tL, trivial⟩⟩⟩⟩) (fun _ h => by simp at h) ?_
            exact n_out0 rfl
          · have hb3 : 2 * i2 + 1 + 1 < n ∧ lessH h2 (2 * i2 + 1 + 1) i2 = true := by simp at hb; exact ⟨by omega, hb.2⟩
            have hst := down_step (h := h2) (i := i2) (n := n) (by rw [hk]; exact hb3.1) (by rw [hk]; exact hb3.2)
            rw [hk] at hst
            refine nK2 ?_
            refine s_reg rfl ?_
            first | refine Run.pure (dd := some 54) rfl rfl (op_move rfl (Opd.tmp _ _ rfl)) ?_ | refine Run.pure (dd := some 54) rfl rfl (op_junk (.inl rfl)) ?_
            first | refine Run.pure (dd := some 55) rfl rfl (op_move rfl (Opd.tmp _ _ rfl)) ?_ | refine Run.pure (dd := some 55) rfl rfl (op_junk (.inl rfl)) ?_
            first | refine Run.pure (dd := some 56) rfl rfl (op_move rfl (Opd.tmp _ _ rfl)) ?_ | refine Run.pure (dd := some 56) rfl rfl (op_junk (.inl rfl)) ?_
            refine Run.eff (dd := some 57) rfl rfl (op_call (n := 4) (n' := 4) [0, 1, 2, 3] (fun _ => swap_i h2 o2 _ _ i2 (2 * i2 + 1 + 1) rfl (by omega) (by omega) (by omega)) rfl (Opd.tmp _ _ rfl) (Opds.cons _ _ _ _ (Opd.tmp _ _ rfl) (Opds.cons _ _ _ _ (Opd.tmp _ _ rfl) Opds.nil)) rfl rfl (Lent.of rfl rfl (by exact ⟨⟨rfl, rfl, rfl, tL⟩, ⟨rfl, rfl, rfl, trivial⟩, ⟨rfl, rfl, rfl, trivial⟩, ⟨rfl, rfl, rfl, trivial⟩, trivial⟩) rfl) rfl rfl rfl rfl rfl) ?_
            refine Run.nil (FinR.mk ?_)
            refine nK2 ?_
            refine s_reg rfl ?_
            first | refine Run.pure (dd := some 58) rfl rfl (op_move rfl (Opd.tmp _ _ rfl)) ?_ | refine Run.pure (dd := some 58) rfl rfl (op_junk (.inl rfl)) ?_
            first | refine Run.pure (dd := some 0) rfl rfl (op_assign rfl (Opd.tmp _ _ rfl)) ?_ | refine Run.pure (dd := some 0) rfl rfl (op_junk (.inr rfl)) ?_
            refine Run.nil (FinR.mk ?_)
            refine nK2 ?_
            refine Next.weak [0, 1, 2, 3] [] (by rfl) (keepsN hC _ rfl) (by exact ⟨⟨_, rfl, .inl ⟨ivEq (by omega), rfl⟩⟩, ⟨_, rfl, .inl ⟨rfl, rfl⟩⟩, ⟨_, rfl, .inl ⟨rfl, rfl⟩⟩, ⟨_, rfl, .inl ⟨rfl, rfl⟩⟩, trivial⟩) (by exact ⟨ent_same rfl rfl rfl tL, ⟨ent_same rfl rfl rfl tL, ⟨ent_same rfl rfl rfl tL, ⟨ent_same rfl rfl rfl tL, trivial⟩⟩⟩⟩) (fun _ h => by simp at h) (hK (swapH h2 i2 (2 * i2 + 1 + 1), 2 * i2 + 1 + 1) ⟨hl.swap (by omega) (by omega), by dsimp only; omega, by dsimp only; rw [← hst]; exact he⟩ (by dsimp only; omega))
        · have hb2 : ¬ (2 * i2 + 1 + 1 < n ∧ lessH h2 (2 * i2 + 1 + 1) (2 * i2 + 1) = true) := by
            simp at hb; intro hh; have := hb (by omega); rw [hh.2] at this; cases this
          have hk : kidH h2 i2 n = 2 * i2 + 1 := by unfold kidH; rw [if_neg hb2]
          refine nK2 ?_
          refine s_reg rfl ?_
          first | refine Run.pure (dd := some 44) rfl rfl (op_move rfl (Opd.tmp _ _ rfl)) ?_ | refine Run.pure (dd := some 44) rfl rfl (op_junk (.inl rfl)) ?_
          first | refine Run.pure (dd := some 45) rfl rfl (op_move rfl (Opd.tmp _ _ rfl)) ?_ | refine Run.pure (dd := some 45) rfl rfl (op_junk (.inl rfl)) ?_
          refine Run.pure (dd := some 46) rfl rfl (op_geq rfl (Opd.tmp _ _ rfl) (Opd.tmp _ _ rfl)) ?_
          first | refine Run.pure (dd := some 47) rfl rfl (op_move rfl (Opd.tmp _ _ rfl)) ?_ | refine Run.pure (dd := some 47) rfl rfl (op_junk (.inl rfl)) ?_
          first | refine Run.pureG (dd := some 48) rfl rfl rfl tG (op_move rfl (Opd.tmp _ _ rfl)) ?_ | refine Run.pureG (dd := some 48) rfl rfl rfl tG (op_junk (.inl rfl)) ?_
          first | refine Run.pureG (dd := some 49) rfl rfl rfl tG (op_move rfl (Opd.tmp _ _ rfl)) ?_ | refine Run.pureG (dd := some 49) rfl rfl rfl tG (op_junk (.inl rfl)) ?_
          first | refine Run.pureG (dd := some 50) rfl rfl rfl tG (op_move rfl (Opd.tmp _ _ rfl)) ?_ | refine Run.pureG (dd := some 50) rfl rfl rfl tG (op_junk (.inl rfl)) ?_
          refine Run.loadG (dd := some 51) rfl rfl rfl tG (op_call_read (n := 4) [0, 1, 2, 3] (fun hg => less_i h2 o2 _ _ (2 * i2 + 1) i2 (by omega) rfl (by simp at hg; omega) (by omega)) rfl (Opd.topt _ _ _ rfl tO) (Opds.cons _ _ _ _ (Opd.topt _ _ _ rfl tO) (Opds.cons _ _ _ _ (Opd.topt _ _ _ rfl tO) Opds.nil)) rfl rfl (Lent.of rfl rfl (by exact ⟨⟨rfl, rfl, rfl, tL⟩, ⟨rfl, rfl, rfl, trivial⟩, ⟨rfl, rfl, rfl, trivial⟩, ⟨rfl, rfl, rfl, trivial⟩, trivial⟩) rfl) rfl) ?_
          refine Run.pureG (dd := some 52) rfl rfl rfl tG (op_not rfl (Opd.topt _ _ _ rfl tO)) ?_
          refine Run.pure (dd := some 53) rfl rfl (op_pick_or rfl (Opd.tmp _ _ rfl) (Opd.topt _ _ _ rfl tO)) ?_
          refine Run.nil (FinR.mk ?_)
          refine nK2 ?_
          refine n_cond _ rfl (fun hb => ?_) (fun hb => ?_)
          · have hst := down_stop (h := h2) (i := i2) (n := n) (by rw [hk]; intro hh; simp [hh.2] at hb; omega)
            rw [hst] at he
            rw [← he]
            refine nK2 ?_
            refine Next.weak [0, 1, 2, 3] [] (by rfl) (keepsN hC _ rfl) (G' := []) (H' := HH h2) trivial (by exact ⟨ent_same rfl rfl rfl tL, ⟨ent_same rfl rfl rfl tL, ⟨ent_same rfl rfl rfl tL, ⟨ent_same rfl rfl rfl tL, trivial⟩⟩⟩⟩) (fun _ h => by simp at h) ?_
            exact n_out0 rfl
          · have hb3 : 2 * i2 + 1 < n ∧ lessH h2 (2 * i2 + 1) i2 = true := by simp at hb; exact ⟨by omega, hb.2⟩
            have hst := down_step (h := h2) (i := i2) (n := n) (by rw [hk]; exact hb3.1) (by rw [hk]; exact hb3.2)
            rw [hk] at hst
            refine nK2 ?_
            refine s_reg rfl ?_
            first | refine Run.pure (dd := some 54) rfl rfl (op_move rfl (Opd.tmp _ _ rfl)) ?_ | refine Run.pure (dd := some 54) rfl rfl (op_junk (.inl rfl)) ?_
            first | refine Run.pure (dd := some 55) rfl rfl (op_move rfl (Opd.tmp _ _ rfl)) ?_ | refine Run.pure (dd := some 55) rfl rfl (op_junk (.inl rfl)) ?_
            first | refine Run.pure (dd := some 56) rfl rfl (op_move rfl (Opd.tmp _ _ rfl)) ?_ | refine Run.pure (dd := some 56) rfl rfl (op_junk (.inl rfl)) ?_
            refine Run.eff (dd := some 57) rfl rfl (op_call (n := 4) (n' := 4) [0, 1, 2, 3] (fun _ => swap_i h2 o2 _ _ i2 (2 * i2 + 1) rfl (by omega) (by omega) (by omega)) rfl (Opd.tmp _ _ rfl) (Opds.cons _ _ _ _ (Opd.tmp _ _ rfl) (Opds.cons _ _ _ _ (Opd.tmp _ _ rfl) Opds.nil)) rfl rfl (Lent.of rfl rfl (by exact ⟨⟨rfl, rfl, rfl, tL⟩, ⟨rfl, rfl, rfl, trivial⟩, ⟨rfl, rfl, rfl, trivial⟩, ⟨rfl, rfl, rfl, trivial⟩, trivial⟩) rfl) rfl rfl rfl rfl rfl) ?_
            refine Run.nil (FinR.mk ?_)
            refine nK2 ?_
            refine s_reg rfl ?_
            first | refine Run.pure (dd := some 58) rfl rfl (op_move rfl (Opd.tmp _ _ rfl)) ?_ | refine Run.pure (dd := some 58) rfl rfl (op_junk (.inl rfl)) ?_
            first | refine Run.pure (dd := some 0) rfl rfl (op_assign rfl (Opd.tmp _ _ rfl)) ?_ | refine Run.pure (dd := some 0) rfl rfl (op_junk (.inr rfl)) ?_
            refine Run.nil (FinR.mk ?_)
            refine nK2 ?_
            refine Next.weak [0, 1, 2, 3] [] (by rfl) (keepsN hC _ rfl) (by exact ⟨⟨_, rfl, .inl ⟨ivEq (by omega), rfl⟩⟩, ⟨_, rfl, .inl ⟨rfl, rfl⟩⟩, ⟨_, rfl, .inl ⟨rfl, rfl⟩⟩, ⟨_, rfl, .inl ⟨rfl, rfl⟩⟩, trivial⟩) (by exact ⟨ent_same rfl rfl rfl tL, ⟨ent_same rfl rfl rfl tL, ⟨ent_same rfl rfl rfl tL, ⟨ent_same rfl rfl rfl tL, trivial⟩⟩⟩⟩) (fun _ h => by simp at h) (hK (swapH h2 i2 (2 * i2 + 1), 2 * i2 + 1) ⟨hl.swap (by omega) (by omega), by dsimp only; omega, by dsimp only; rw [← hst]; exact he⟩ (by dsimp only; omega))
end Go.Proofs.Ytgbfkpcigipniaa
namespace Go.Pl
open Go Go.RT
set_option linter.all false
def Hq.place (h : Hq) (v : Nat) : Int := h.pl.getD v 0
/-- items and places fit -/
structure HI (h : Hq) : Prop where
  ok : h.Ok
  at_ : ∀ v, v < h.pl.length → 0 ≤ h.place v → h.place v < h.it.length ∧ h.item (h.place v).toNat = v
  inv : ∀ i, i < h.it.length → h.place (h.item i) = i
def insH (h : Hq) (v : Nat) : Hq := if h.place v < 0 then ⟨h.it ++ [v], h.pl.set v h.it.length, h.ky⟩ else h
def putH (h : Hq) (v : Nat) (k : Int) : Hq := ⟨(insH h v).it, (insH h v).pl, (insH h v).ky.set v k⟩
def setH (h : Hq) (v : Nat) (k : Int) : Hq := settleH (putH h v k) ((putH h v k).place v).toNat (putH h v k).it.length
def cutH (h : Hq) (v : Nat) : Hq :=
  ⟨(swapH h (h.place v).toNat (h.it.length - 1)).it.take (h.it.length - 1), (swapH h (h.place v).toNat (h.it.length - 1)).pl.set v (-1), h.ky⟩
def dropH (h : Hq) (v : Nat) : Hq := if (h.place v).toNat < h.it.length - 1 then settleH (cutH h v) (h.place v).toNat (h.it.length - 1) else cutH h v
theorem getD_set {α : Type} (l : List α) (i j : Nat) (x d : α) (hi : i < l.length) : (l.set i x).getD j d = if i = j then x else l.getD j d := by
  rw [List.getD_eq_getElem?_getD, List.getElem?_set]
  by_cases h : i = j
  · subst h; simp [hi]
  · simp [h, List.getD_eq_getElem?_getD]
theorem getD_app {α : Type} (l : List α) (x d : α) (j : Nat) : (l ++ [x]).getD j d = if j = l.length then x else l.getD j d := by
  rw [List.getD_eq_getElem?_getD, List.getD_eq_getElem?_getD, List.getElem?_append]
  by_cases h : j < l.length
  · rw [if_pos h, if_neg (by omega)]
  · rw [if_neg h]
    by_cases h2 : j = l.length
    · subst h2; simp
    · rw [if_neg h2, List.getElem?_eq_none (by simp; omega), List.getElem?_eq_none (by omega)]
theorem HI.lt {h : Hq} (o : HI h) {v : Nat} (hv : v < h.pl.length) (hp : 0 ≤ h.place v) : (h.place v).toNat < h.it.length := by have := (o.at_ v hv hp).1; omega
theorem HI.ins {h : Hq} (o : HI h) {v : Nat} (hv : v < h.pl.length) : HI (insH h v) ∧ (insH h v).pl.length = h.pl.length ∧ (insH h v).ky = h.ky ∧ 0 ≤ (insH h v).place v ∧ (insH h v).it.length ≤ h.it.length + 1 := by
  unfold insH
  by_cases hp : h.place v < 0
  · rw [if_pos hp]
    have e1 : ∀ w, (⟨h.it ++ [v], h.pl.set v h.it.length, h.ky⟩ : Hq).place w = if v = w then (h.it.length : Int) else h.place w := fun w => getD_set _ _ _ _ _ hv
    have e2 : ∀ i, (⟨h.it ++ [v], h.pl.set v h.it.length, h.ky⟩ : Hq).item i = if i = h.it.length then v else h.item i := fun i => getD_app _ _ _ _
    refine ⟨⟨⟨by simpa using o.ok.len, fun w hw => ?_⟩, fun w hw hw0 => ?_, fun i hi => ?_⟩, by simp, rfl, by rw [e1, if_pos rfl]; omega, by simp⟩
    · rcases List.mem_append.1 hw with h1 | h1
      · simpa using o.ok.lt w h1
      · have : w = v := by simpa using h1
        subst this; simpa using hv
    · simp only [List.length_set] at hw
      rw [e1] at hw0 ⊢
      by_cases hvw : v = w
      · subst hvw; simp only [if_pos, List.length_append, List.length_singleton]; rw [e2]; exact ⟨by omega, by simp⟩
      · rw [if_neg hvw] at hw0 ⊢
        obtain ⟨a, b⟩ := o.at_ w hw hw0
        refine ⟨by simp; omega, ?_⟩
        rw [e2, if_neg (by omega)]; exact b
    · simp only [List.length_append, List.length_singleton] at hi
      rw [e2, e1]
      by_cases hin : i = h.it.length
      · rw [if_pos hin, if_pos rfl, hin]
      · rw [if_neg hin]
        have hi' : i < h.it.length := by omega
        have := o.inv i hi'
        by_cases hvi : v = h.item i
        · exfalso; rw [← hvi] at this; omega
        · rw [if_neg hvi]; exact this
  · rw [if_neg hp]; exact ⟨o, rfl, rfl, by omega, by omega⟩
theorem HI.put {h : Hq} (o : HI h) {v : Nat} (hv : v < h.pl.length) (k : Int) : HI (putH h v k) ∧ (putH h v k).pl.length = h.pl.length ∧ 0 ≤ (putH h v k).place v ∧ (putH h v k).it.length ≤ h.it.length + 1 := by
  obtain ⟨a, b, c, d, e⟩ := o.ins hv
  exact ⟨⟨⟨by simpa [putH] using a.ok.len, a.ok.lt⟩, a.at_, a.inv⟩, b, d, e⟩
theorem place_swap (h : Hq) {i j : Nat} (o : h.Ok) (hi : i < h.it.length) (hj : j < h.it.length) (w : Nat) : (swapH h i j).place w = if h.item i = w then (j : Int) else if h.item j = w then (i : Int) else h.place w := by
  have h1 := o.item hi
  have h2 := o.item hj
  unfold Hq.place swapH
  rw [getD_set _ _ _ _ _ (by simpa using h1)]
  by_cases e : h.item i = w
  · rw [if_pos e, if_pos e]
  · rw [if_neg e, if_neg e, getD_set _ _ _ _ _ h2]
theorem item_swap (h : Hq) {i j : Nat} (hi : i < h.it.length) (hj : j < h.it.length) (k : Nat) : (swapH h i j).item k = if j = k then h.item i else if i = k then h.item j else h.item k := by
  unfold Hq.item swapH
  rw [getD_set _ _ _ _ _ (by simpa using hj)]
  by_cases e : j = k
  · rw [if_pos e, if_pos e]; rfl
  · rw [if_neg e, if_neg e, getD_set _ _ _ _ _ hi]; rfl
theorem HI.swap {h : Hq} (o : HI h) {i j : Nat} (hi : i < h.it.length) (hj : j < h.it.length) : HI (swapH h i j) := by
  obtain ⟨l1, l2, l3⟩ := swapH_len h i j
  have ii := o.inv i hi
  have ij := o.inv j hj
  refine ⟨o.ok.swap hi hj, fun w hw hw0 => ?_, fun k hk => ?_⟩
  · rw [place_swap h o.ok hi hj] at hw0 ⊢
    rw [l1]
    by_cases e1 : h.item i = w
    · rw [if_pos e1]
      refine ⟨by omega, ?_⟩
      rw [item_swap h hi hj, if_pos (by simp)]; exact e1
    · rw [if_neg e1] at hw0 ⊢
      by_cases e2 : h.item j = w
      · rw [if_pos e2]
        refine ⟨by omega, ?_⟩
        rw [item_swap h hi hj, Int.toNat_natCast]
        by_cases e3 : j = i
        · subst e3; rw [if_pos rfl]; exact e2
        · rw [if_neg e3, if_pos rfl]; exact e2
      · rw [if_neg e2] at hw0 ⊢
        obtain ⟨a, b⟩ := o.at_ w (by rw [← l2]; exact hw) hw0
        refine ⟨a, ?_⟩
        rw [item_swap h hi hj, if_neg (fun e => e2 (by rw [e]; exact b)), if_neg (fun e => e1 (by rw [e]; exact b))]; exact b
  · rw [l1] at hk
    rw [item_swap h hi hj]
    by_cases e1 : j = k
    · rw [if_pos e1, place_swap h o.ok hi hj, if_pos rfl, e1]
    · rw [if_neg e1]
      by_cases e2 : i = k
      · rw [if_pos e2, place_swap h o.ok hi hj]
        by_cases e3 : h.item i = h.item j
        · rw [if_pos e3]; rw [e3] at ii; omega
        · rw [if_neg e3, if_pos rfl, e2]
      · rw [if_neg e2, place_swap h o.ok hi hj]
        have ik := o.inv k hk
        rw [if_neg (fun e => by rw [e] at ii; omega), if_neg (fun e => by rw [e] at ij; omega)]; exact ik
theorem HI.cut {h : Hq} (o : HI h) {v : Nat} (hv : v < h.pl.length) (hp : 0 ≤ h.place v) : HI (cutH h v) ∧ (cutH h v).it.length = h.it.length - 1 ∧ (cutH h v).pl.length = h.pl.length ∧ (cutH h v).ky = h.ky := by
  have hi := o.lt hv hp
  have hj : h.it.length - 1 < h.it.length := by omega
  obtain ⟨_, hiv⟩ := o.at_ v hv hp
  have os := o.swap hi hj
  obtain ⟨l1, l2, l3⟩ := swapH_len h (h.place v).toNat (h.it.length - 1)
  have hlast : (swapH h (h.place v).toNat (h.it.length - 1)).item (h.it.length - 1) = v := by rw [item_swap h hi hj, if_pos rfl]; exact hiv
  have hpl : (swapH h (h.place v).toNat (h.it.length - 1)).place v = (h.it.length - 1 : Nat) := by rw [← hlast]; rw [hlast]; have := os.inv (h.it.length - 1) (by rw [l1]; exact hj); rw [hlast] at this; exact this
  have e1 : ∀ w, (cutH h v).place w = if v = w then (-1 : Int) else (swapH h (h.place v).toNat (h.it.length - 1)).place w := fun w => getD_set _ _ _ _ _ (by rw [l2]; exact hv)
  have e2 : ∀ i, i < h.it.length - 1 → (cutH h v).item i = (swapH h (h.place v).toNat (h.it.length - 1)).item i := fun i hi => by
    unfold cutH Hq.item; simp only [List.getD_eq_getElem?_getD]; rw [List.getElem?_take, if_pos hi]
  have hl : (cutH h v).it.length = h.it.length - 1 := by unfold cutH; simp only [List.length_take, l1]; omega
  refine ⟨⟨⟨?_, fun w hw => ?_⟩, fun w hw hw0 => ?_, fun i hi2 => ?_⟩, hl, by unfold cutH; simp [l2], rfl⟩
  · unfold cutH; simp only [List.length_set, l2]; exact o.ok.len
  · have := os.ok.lt w (List.mem_of_mem_take hw); unfold cutH; simpa using this
  · have hw' : w < (swapH h (h.place v).toNat (h.it.length - 1)).pl.length := by unfold cutH at hw; simpa using hw
    rw [e1] at hw0 ⊢
    by_cases e : v = w
    · rw [if_pos e] at hw0; omega
    · rw [if_neg e] at hw0 ⊢
      obtain ⟨a, b⟩ := os.at_ w hw' hw0
      rw [l1] at a
      have hne : ((swapH h (h.place v).toNat (h.it.length - 1)).place w).toNat ≠ h.it.length - 1 := fun e3 => e (by rw [e3, hlast] at b; exact b)
      refine ⟨by rw [hl]; omega, ?_⟩
      rw [e2 _ (by omega)]; exact b
  · rw [hl] at hi2
    rw [e2 i hi2, e1]
    have := os.inv i (by rw [l1]; omega)
    rw [if_neg (fun e => by rw [← e, hpl] at this; omega)]; exact this
end Go.Pl
namespace Go.Pl
theorem HI.up {h : Hq} : ∀ {i : Nat}, HI h → i < h.it.length → HI (upH h i).1 ∧ (upH h i).1.it.length = h.it.length ∧ (upH h i).1.pl.length = h.pl.length ∧ (upH h i).1.ky = h.ky ∧ (upH h i).2 < h.it.length := by
  intro i
  induction i using Nat.strongRecOn generalizing h with
  | _ i ih =>
    intro o hi
    by_cases hh : 0 < i ∧ lessH h i ((i - 1) / 2) = true
    · rw [up_step hh.1 hh.2]
      have hj : (i - 1) / 2 < h.it.length := by omega
      obtain ⟨l1, l2, l3⟩ := swapH_len h i ((i - 1) / 2)
      obtain ⟨a, b, c, d, e⟩ := ih ((i - 1) / 2) (by omega) (o.swap hi hj) (by rw [l1]; exact hj)
      exact ⟨a, b.trans l1, c.trans l2, d.trans l3, by omega⟩
    · rw [up_stop hh]; exact ⟨o, rfl, rfl, rfl, hi⟩
theorem HI.down {h : Hq} : ∀ {k i n : Nat}, n - i ≤ k → HI h → i < h.it.length → n = h.it.length → HI (downH h i n) ∧ (downH h i n).it.length = h.it.length ∧ (downH h i n).pl.length = h.pl.length ∧ (downH h i n).ky = h.ky := by
  intro k
  induction k generalizing h with
  | zero => intro i n hk o hi hn; omega
  | succ k ih =>
    intro i n hk o hi hn
    by_cases hh : kidH h i n < n ∧ lessH h (kidH h i n) i = true
    · rw [down_step hh.1 hh.2]
      have hgt := kidH_gt h i n
      obtain ⟨l1, l2, l3⟩ := swapH_len h i (kidH h i n)
      obtain ⟨a, b, c, d⟩ := ih (h := swapH h i (kidH h i n)) (i := kidH h i n) (n := n) (by omega) (o.swap hi (by omega)) (by rw [l1]; omega) (by rw [l1]; exact hn)
      exact ⟨a, b.trans l1, c.trans l2, d.trans l3⟩
    · rw [down_stop hh]; exact ⟨o, rfl, rfl, rfl⟩
theorem HI.settle {h : Hq} {i : Nat} (o : HI h) (hi : i < h.it.length) : HI (settleH h i h.it.length) ∧ (settleH h i h.it.length).it.length = h.it.length ∧ (settleH h i h.it.length).pl.length = h.pl.length ∧ (settleH h i h.it.length).ky = h.ky := by
  obtain ⟨a, b, c, d, e⟩ := o.up hi
  obtain ⟨a2, b2, c2, d2⟩ := a.down (k := h.it.length - (upH h i).2) (i := (upH h i).2) (n := h.it.length) (Nat.le_refl _) (by omega) (by omega)
  exact ⟨a2, b2.trans b, c2.trans c, d2.trans d⟩
theorem HI.set {h : Hq} (o : HI h) {v : Nat} (hv : v < h.pl.length) (k : Int) : HI (setH h v k) ∧ (setH h v k).it.length = (putH h v k).it.length ∧ (setH h v k).pl.length = h.pl.length ∧ (setH h v k).ky = h.ky.set v k := by
  obtain ⟨a, b, c, d⟩ := o.put hv k
  have hi := a.lt (by rw [b]; exact hv) c
  obtain ⟨q1, q2, q3, q4⟩ := a.settle hi
  refine ⟨q1, q2, q3.trans b, q4.trans ?_⟩
  unfold putH insH; split <;> rfl
theorem HI.drop {h : Hq} (o : HI h) {v : Nat} (hv : v < h.pl.length) (hp : 0 ≤ h.place v) : HI (dropH h v) ∧ (dropH h v).it.length = h.it.length - 1 ∧ (dropH h v).pl.length = h.pl.length ∧ (dropH h v).ky = h.ky := by
  obtain ⟨a, b, c, d⟩ := o.cut hv hp
  unfold dropH
  by_cases hh : (h.place v).toNat < h.it.length - 1
  · rw [if_pos hh]
    obtain ⟨q1, q2, q3, q4⟩ := a.settle (i := (h.place v).toNat) (by rw [b]; exact hh)
    rw [b] at q1 q2 q3 q4
    exact ⟨q1, q2, q3.trans c, q4.trans d⟩
  · rw [if_neg hh]; exact ⟨a, b, c, d⟩
end Go.Pl
namespace Go.Proofs.Ytgbfkpcigipniaa
open Go Go.RT Go.Proofs Go.Pl
set_option linter.all false
set_option maxRecDepth 20000
theorem len_c (h : Hq) : Meets Try.prog 74 [.ptr 0 3 0 0] 4 (HH h) (IV .i64 h.it.length) (HH h) 4 := by
  refine Meets.intro Try.func74 rfl (Nat.le_of_ble_eq_true rfl) fun C hC => ?_
  simp only [List.map, argEnv, Nat.reduceAdd]
  refine nK2 ?_
  refine s_reg rfl ?_
  first | refine Run.pure (dd := some 2) rfl rfl (op_assign rfl (Opd.const _)) ?_ | refine Run.pure (dd := some 2) rfl rfl (op_junk (.inr rfl)) ?_
  refine Run.nil (FinR.mk ?_)
  refine nK2 ?_
  refine s_reg rfl ?_
  first | refine Run.pure (dd := some 3) rfl rfl (op_move rfl (Opd.tmp _ _ rfl)) ?_ | refine Run.pure (dd := some 3) rfl rfl (op_junk (.inl rfl)) ?_
  refine Run.pure (dd := some 4) rfl rfl (op_eqlnilp rfl (Opd.tmp _ _ rfl)) ?_
  refine Run.nil (FinR.mk ?_)
  refine nK2 ?_
  refine n_cond _ rfl (fun hb => ?_) (fun hb => ?_)
  · simp at hb
  · refine nK2 ?_
    refine s_reg rfl ?_
    first | refine Run.pure (dd := some 5) rfl rfl (op_move rfl (Opd.tmp _ _ rfl)) ?_ | refine Run.pure (dd := some 5) rfl rfl (op_junk (.inl rfl)) ?_
    first | refine Run.pure (dd := some 6) rfl rfl (op_nilck_ptr rfl (Opd.tmp _ _ rfl)) ?_ | refine Run.pure (dd := some 6) rfl rfl (op_nilck_fz rfl (Opd.tmp _ _ rfl)) ?_ | refine Run.pure (dd := some 6) rfl rfl (op_nilck_clo rfl (Opd.tmp _ _ rfl)) ?_ | refine Run.pure (dd := some 6) rfl rfl (op_nilck_fclo rfl (Opd.tmp _ _ rfl)) ?_
    first | refine Run.pure (dd := some 7) rfl rfl (op_fld_ptr (by decide) rfl (Opd.tmp _ _ rfl)) ?_ | refine Run.pure (dd := some 7) rfl rfl (op_fld_fz (by decide) rfl (Opd.tmp _ _ rfl) tR) ?_
    first | refine Run.load (dd := some 8) rfl rfl (op_load1_flat rfl (Opd.tmp _ _ rfl) tH rfl) ?_ | refine Run.pure (dd := some 8) rfl rfl (op_load1_fz rfl (Opd.tmp _ _ rfl) rfl) ?_ | refine Run.load (dd := some 8) rfl rfl (op_load1_refs rfl (Opd.tmp _ _ rfl) tH rfl) ?_
    first | refine Run.pure (dd := some 9) rfl rfl (op_len_fz rfl (by first | exact Opd.tmp _ _ rfl | exact Opd.nil _ _ (Opd.tmp _ _ rfl)) (by first | exact List.length_map _ | rfl)) ?_ | refine Run.pure (dd := some 9) rfl rfl (op_len_sl rfl (Opd.tmp _ _ rfl)) ?_
    first | refine Run.pure (dd := some 2) rfl rfl (op_assign rfl (Opd.tmp _ _ rfl)) ?_ | refine Run.pure (dd := some 2) rfl rfl (op_junk (.inr rfl)) ?_
    refine Run.nil (FinR.mk ?_)
    refine nK2 ?_
    refine Next.weak [0, 1, 2, 3] [] (by rfl) (keepsN hC _ rfl) (G' := [(2, .fz _)]) (H' := HH h) (by repeat (first | exact trivial | refine ⟨⟨_, rfl, .inl ⟨rfl, rfl⟩⟩, ?_⟩ | refine ⟨⟨_, rfl, .inl ⟨slEq rfl tN, rfl⟩⟩, ?_⟩ | refine ⟨⟨_, rfl, .inl ⟨ivEq tX, rfl⟩⟩, ?_⟩)) (by exact ⟨ent_same rfl rfl rfl tL, ⟨ent_same rfl rfl rfl tL, ⟨ent_same rfl rfl rfl tL, ⟨ent_same rfl rfl rfl tL, trivial⟩⟩⟩⟩) (fun _ h => by simp at h) ?_
    exact n_out1 rfl (by rfl) rfl rfl
theorem has_c (h : Hq) (v : Nat) (hv : v < h.pl.length) : Meets Try.prog 66 [.ptr 0 3 0 0, IV .i64 v] 4 (HH h) (BV (decide (0 ≤ h.place v))) (HH h) 4 := by
  have rv := row_of encN h.pl v 0 hv
  unfold Hq.place
  generalize h.pl.getD v 0 = p at *
  refine Meets.intro Try.func66 rfl (Nat.le_of_ble_eq_true rfl) fun C hC => ?_
  simp only [List.map, argEnv, Nat.reduceAdd]
  refine nK2 ?_
  refine s_reg rfl ?_
  first | refine Run.pure (dd := some 4) rfl rfl (op_assign rfl (Opd.const _)) ?_ | refine Run.pure (dd := some 4) rfl rfl (op_junk (.inr rfl)) ?_
  refine Run.nil (FinR.mk ?_)
  refine nK2 ?_
  refine s_reg rfl ?_
  first | refine Run.pure (dd := some 5) rfl rfl (op_move rfl (Opd.tmp _ _ rfl)) ?_ | refine Run.pure (dd := some 5) rfl rfl (op_junk (.inl rfl)) ?_
  refine Run.pure (dd := some 6) rfl rfl (op_neqnilp rfl (Opd.tmp _ _ rfl)) ?_
  first | refine Run.pure (dd := some 7) rfl rfl (op_move rfl (Opd.tmp _ _ rfl)) ?_ | refine Run.pure (dd := some 7) rfl rfl (op_junk (.inl rfl)) ?_
  first | refine Run.pureG (dd := some 8) rfl rfl rfl tG (op_move rfl (Opd.tmp _ _ rfl)) ?_ | refine Run.pureG (dd := some 8) rfl rfl rfl tG (op_junk (.inl rfl)) ?_
  refine Run.pureG (dd := some 9) rfl rfl rfl tG (op_geq rfl (Opd.topt _ _ _ rfl tO) (Opd.const _)) ?_
  refine Run.pure (dd := some 10) rfl rfl (op_pick_and rfl (Opd.tmp _ _ rfl) (Opd.topt _ _ _ rfl tO)) ?_
  first | refine Run.pure (dd := some 11) rfl rfl (op_move rfl (Opd.tmp _ _ rfl)) ?_ | refine Run.pure (dd := some 11) rfl rfl (op_junk (.inl rfl)) ?_
  first | refine Run.pureG (dd := some 12) rfl rfl rfl tG (op_move rfl (Opd.tmp _ _ rfl)) ?_ | refine Run.pureG (dd := some 12) rfl rfl rfl tG (op_junk (.inl rfl)) ?_
  first | refine Run.pureG (dd := some 13) rfl rfl rfl tG (op_move rfl (Opd.tmp _ _ rfl)) ?_ | refine Run.pureG (dd := some 13) rfl rfl rfl tG (op_junk (.inl rfl)) ?_
  first | refine Run.pureG (dd := some 14) rfl rfl rfl tG (op_nilck_ptr rfl (Opd.topt _ _ _ rfl tO)) ?_ | refine Run.pureG (dd := some 14) rfl rfl rfl tG (op_nilck_fz rfl (Opd.topt _ _ _ rfl tO)) ?_ | refine Run.pureG (dd := some 14) rfl rfl rfl tG (op_nilck_clo rfl (Opd.topt _ _ _ rfl tO)) ?_ | refine Run.pureG (dd := some 14) rfl rfl rfl tG (op_nilck_fclo rfl (Opd.topt _ _ _ rfl tO)) ?_
  first | refine Run.pureG (dd := some 15) rfl rfl rfl tG (op_fld_ptr (by decide) rfl (Opd.topt _ _ _ rfl tO)) ?_ | refine Run.pureG (dd := some 15) rfl rfl rfl tG (op_fld_fz (by decide) rfl (Opd.topt _ _ _ rfl tO) tR) ?_
  first | refine Run.loadG (dd := some 16) rfl rfl rfl tG (op_load1_flat rfl (Opd.topt _ _ _ rfl tO) tH rfl) ?_ | refine Run.pureG (dd := some 16) rfl rfl rfl tG (op_load1_fz rfl (Opd.topt _ _ _ rfl tO) rfl) ?_ | refine Run.loadG (dd := some 16) rfl rfl rfl tG (op_load1_refs rfl (Opd.topt _ _ _ rfl tO) tH rfl) ?_
  first | refine Run.pureG (dd := some 17) rfl rfl rfl tG (op_len_fz rfl (by first | exact Opd.topt _ _ _ rfl tO | exact Opd.nil _ _ (Opd.topt _ _ _ rfl tO)) (by first | exact List.length_map _ | rfl)) ?_ | refine Run.pureG (dd := some 17) rfl rfl rfl tG (op_len_sl rfl (Opd.topt _ _ _ rfl tO)) ?_
  refine Run.pureG (dd := some 18) rfl rfl rfl tG (op_lss rfl (Opd.topt _ _ _ rfl tO) (Opd.topt _ _ _ rfl tO)) ?_
  refine Run.pure (dd := some 19) rfl rfl (op_pick_and rfl (Opd.tmp _ _ rfl) (Opd.topt _ _ _ rfl tO)) ?_
  first | refine Run.pure (dd := some 20) rfl rfl (op_move rfl (Opd.tmp _ _ rfl)) ?_ | refine Run.pure (dd := some 20) rfl rfl (op_junk (.inl rfl)) ?_
  first | refine Run.pureG (dd := some 21) rfl rfl rfl tG (op_move rfl (Opd.tmp _ _ rfl)) ?_ | refine Run.pureG (dd := some 21) rfl rfl rfl tG (op_junk (.inl rfl)) ?_
  first | refine Run.pureG (dd := some 22) rfl rfl rfl tG (op_nilck_ptr rfl (Opd.topt _ _ _ rfl tO)) ?_ | refine Run.pureG (dd := some 22) rfl rfl rfl tG (op_nilck_fz rfl (Opd.topt _ _ _ rfl tO)) ?_ | refine Run.pureG (dd := some 22) rfl rfl rfl tG (op_nilck_clo rfl (Opd.topt _ _ _ rfl tO)) ?_ | refine Run.pureG (dd := some 22) rfl rfl rfl tG (op_nilck_fclo rfl (Opd.topt _ _ _ rfl tO)) ?_
  first | refine Run.pureG (dd := some 23) rfl rfl rfl tG (op_fld_ptr (by decide) rfl (Opd.topt _ _ _ rfl tO)) ?_ | refine Run.pureG (dd := some 23) rfl rfl rfl tG (op_fld_fz (by decide) rfl (Opd.topt _ _ _ rfl tO) tR) ?_
  first | refine Run.loadG (dd := some 24) rfl rfl rfl tG (op_load1_flat rfl (Opd.topt _ _ _ rfl tO) tH rfl) ?_ | refine Run.pureG (dd := some 24) rfl rfl rfl tG (op_load1_fz rfl (Opd.topt _ _ _ rfl tO) rfl) ?_ | refine Run.loadG (dd := some 24) rfl rfl rfl tG (op_load1_refs rfl (Opd.topt _ _ _ rfl tO) tH rfl) ?_
  first | refine Run.pureG (dd := some 25) rfl rfl rfl tG (op_move rfl (Opd.tmp _ _ rfl)) ?_ | refine Run.pureG (dd := some 25) rfl rfl rfl tG (op_junk (.inl rfl)) ?_
  first | refine Run.pureG (dd := some 26) rfl rfl rfl tG (op_idx_sl0 _ rfl (Opd.topt _ _ _ rfl tO) (Opd.topt _ _ _ rfl tO) tD) ?_ | refine Run.pureG (dd := some 26) rfl rfl rfl tG (op_idx_fz _ rfl (Opd.topt _ _ _ rfl tO) (Opd.topt _ _ _ rfl tO) tF) ?_
  first | refine Run.loadG (dd := some 27) rfl rfl rfl tG (op_load1_flat rfl (Opd.topt _ _ _ rfl tO) tH rfl) ?_ | refine Run.pureG (dd := some 27) rfl rfl rfl tG (op_load1_fz rfl (Opd.topt _ _ _ rfl tO) rfl) ?_ | refine Run.loadG (dd := some 27) rfl rfl rfl tG (op_load1_refs rfl (Opd.topt _ _ _ rfl tO) tH rfl) ?_
  refine Run.pureG (dd := some 28) rfl rfl rfl tG (op_geq rfl (Opd.topt _ _ _ rfl tO) (Opd.const _)) ?_
  refine Run.pure (dd := some 29) rfl rfl (op_pick_and rfl (Opd.tmp _ _ rfl) (Opd.topt _ _ _ rfl tO)) ?_
  first | refine Run.pure (dd := some 4) rfl rfl (op_assign rfl (Opd.tmp _ _ rfl)) ?_ | refine Run.pure (dd := some 4) rfl rfl (op_junk (.inr rfl)) ?_
  refine Run.nil (FinR.mk ?_)
  refine nK2 ?_
  refine Next.weak [0, 1, 2, 3] [] (by rfl) (keepsN hC _ rfl) (G' := [(4, BV (decide (0 ≤ p)))]) (H' := HH h) (by exact ⟨⟨_, rfl, .inl ⟨by simp [hv, renP], rfl⟩⟩, trivial⟩) (by exact ⟨ent_same rfl rfl rfl tL, ⟨ent_same rfl rfl rfl tL, ⟨ent_same rfl rfl rfl tL, ⟨ent_same rfl rfl rfl tL, trivial⟩⟩⟩⟩) (fun _ h => by simp at h) ?_
  exact n_out1 rfl (by rfl) rfl rfl
theorem key_c (h : Hq) (o : h.Ok) (v : Nat) (hv : v < h.pl.length) : Meets Try.prog 50 [.ptr 0 3 0 0, IV .i64 v] 4 (HH h) (.fz (.tup [If .i64 (if 0 ≤ h.place v then h.key v else 0), Bf (decide (0 ≤ h.place v))])) (HH h) 4 := by
  have hh := has_c h v hv
  have hol := o.len
  have rv := row_of encN h.ky v 0 (by omega)
  unfold Hq.key
  generalize h.ky.getD v 0 = k at *
  generalize hp : h.place v = p at *
  refine Meets.intro Try.func50 rfl (Nat.le_of_ble_eq_true rfl) fun C hC => ?_
  simp only [List.map, argEnv, Nat.reduceAdd]
  refine nK2 ?_
  refine s_reg rfl ?_
  first | refine Run.pure (dd := some 4) rfl rfl (op_assign rfl (Opd.const _)) ?_ | refine Run.pure (dd := some 4) rfl rfl (op_junk (.inr rfl)) ?_
  first | refine Run.pure (dd := some 5) rfl rfl (op_assign rfl (Opd.const _)) ?_ | refine Run.pure (dd := some 5) rfl rfl (op_junk (.inr rfl)) ?_
  refine Run.nil (FinR.mk ?_)
  refine nK2 ?_
  refine s_reg rfl ?_
  first | refine Run.pure (dd := some 6) rfl rfl (op_move rfl (Opd.tmp _ _ rfl)) ?_ | refine Run.pure (dd := some 6) rfl rfl (op_junk (.inl rfl)) ?_
  first | refine Run.pure (dd := some 7) rfl rfl (op_move rfl (Opd.tmp _ _ rfl)) ?_ | refine Run.pure (dd := some 7) rfl rfl (op_junk (.inl rfl)) ?_
  refine Run.load (dd := some 8) rfl rfl (op_call_read (n := 4) [0, 1, 2, 3] (fun _ => hh) rfl (Opd.func _) (Opds.cons _ _ _ _ (Opd.tmp _ _ rfl) (Opds.cons _ _ _ _ (Opd.tmp _ _ rfl) Opds.nil)) rfl rfl (Lent.of rfl rfl (by exact ⟨⟨rfl, rfl, rfl, tL⟩, ⟨rfl, rfl, rfl, trivial⟩, ⟨rfl, rfl, rfl, trivial⟩, ⟨rfl, rfl, rfl, trivial⟩, trivial⟩) rfl) rfl) ?_
  refine Run.pure (dd := some 9) rfl rfl (op_not rfl (Opd.tmp _ _ rfl)) ?_
  refine Run.nil (FinR.mk ?_)
  refine nK2 ?_
  refine n_cond _ rfl (fun hb => ?_) (fun hb => ?_)
  · have h2 : ¬ 0 ≤ p := by simpa using hb
    rw [if_neg h2, show decide (0 ≤ p) = false by simpa using h2]
    refine nK2 ?_
    refine s_reg rfl ?_
    first | refine Run.pure (dd := some 4) rfl rfl (op_assign rfl (Opd.const _)) ?_ | refine Run.pure (dd := some 4) rfl rfl (op_junk (.inr rfl)) ?_
    first | refine Run.pure (dd := some 5) rfl rfl (op_assign rfl (Opd.const _)) ?_ | refine Run.pure (dd := some 5) rfl rfl (op_junk (.inr rfl)) ?_
    refine Run.nil (FinR.mk ?_)
    refine nK2 ?_
    refine Next.weak [0, 1, 2, 3] [] (by rfl) (keepsN hC _ rfl) (G' := [(4, IV .i64 0), (5, BV false)]) (H' := HH h) (by repeat (first | exact trivial | refine ⟨⟨_, rfl, .inl ⟨rfl, rfl⟩⟩, ?_⟩ | refine ⟨⟨_, rfl, .inl ⟨slEq rfl tN, rfl⟩⟩, ?_⟩ | refine ⟨⟨_, rfl, .inl ⟨ivEq tX, rfl⟩⟩, ?_⟩)) (by exact ⟨ent_same rfl rfl rfl tL, ⟨ent_same rfl rfl rfl tL, ⟨ent_same rfl rfl rfl tL, ⟨ent_same rfl rfl rfl tL, trivial⟩⟩⟩⟩) (fun _ h => by simp at h) ?_
    exact n_out2 rfl (by rfl) rfl (.inl ⟨_, _, rfl, rfl, rfl⟩)
  · have h2 : 0 ≤ p := by simpa using hb
    rw [if_pos h2, show decide (0 ≤ p) = true by simpa using h2]
    refine nK2 ?_
    refine s_reg rfl ?_
    first | refine Run.pure (dd := some 10) rfl rfl (op_move rfl (Opd.tmp _ _ rfl)) ?_ | refine Run.pure (dd := some 10) rfl rfl (op_junk (.inl rfl)) ?_
    first | refine Run.pure (dd := some 11) rfl rfl (op_nilck_ptr rfl (Opd.tmp _ _ rfl)) ?_ | refine Run.pure (dd := some 11) rfl rfl (op_nilck_fz rfl (Opd.tmp _ _ rfl)) ?_ | refine Run.pure (dd := some 11) rfl rfl (op_nilck_clo rfl (Opd.tmp _ _ rfl)) ?_ | refine Run.pure (dd := some 11) rfl rfl (op_nilck_fclo rfl (Opd.tmp _ _ rfl)) ?_
    first | refine Run.pure (dd := some 12) rfl rfl (op_fld_ptr (by decide) rfl (Opd.tmp _ _ rfl)) ?_ | refine Run.pure (dd := some 12) rfl rfl (op_fld_fz (by decide) rfl (Opd.tmp _ _ rfl) tR) ?_
    first | refine Run.load (dd := some 13) rfl rfl (op_load1_flat rfl (Opd.tmp _ _ rfl) tH rfl) ?_ | refine Run.pure (dd := some 13) rfl rfl (op_load1_fz rfl (Opd.tmp _ _ rfl) rfl) ?_ | refine Run.load (dd := some 13) rfl rfl (op_load1_refs rfl (Opd.tmp _ _ rfl) tH rfl) ?_
    first | refine Run.pure (dd := some 14) rfl rfl (op_move rfl (Opd.tmp _ _ rfl)) ?_ | refine Run.pure (dd := some 14) rfl rfl (op_junk (.inl rfl)) ?_
    first | refine Run.pure (dd := some 15) rfl rfl (op_idx_sl0 _ rfl (Opd.tmp _ _ rfl) (Opd.tmp _ _ rfl) tD) ?_ | refine Run.pure (dd := some 15) rfl rfl (op_idx_fz _ rfl (Opd.tmp _ _ rfl) (Opd.tmp _ _ rfl) tF) ?_
    first | refine Run.load (dd := some 16) rfl rfl (op_load1_flat rfl (Opd.tmp _ _ rfl) tH rfl) ?_ | refine Run.pure (dd := some 16) rfl rfl (op_load1_fz rfl (Opd.tmp _ _ rfl) rfl) ?_ | refine Run.load (dd := some 16) rfl rfl (op_load1_refs rfl (Opd.tmp _ _ rfl) tH rfl) ?_
    first | refine Run.pure (dd := some 4) rfl rfl (op_assign rfl (Opd.tmp _ _ rfl)) ?_ | refine Run.pure (dd := some 4) rfl rfl (op_junk (.inr rfl)) ?_
    first | refine Run.pure (dd := some 5) rfl rfl (op_assign rfl (Opd.const _)) ?_ | refine Run.pure (dd := some 5) rfl rfl (op_junk (.inr rfl)) ?_
    refine Run.nil (FinR.mk ?_)
    refine nK2 ?_
    refine Next.weak [0, 1, 2, 3] [] (by rfl) (keepsN hC _ rfl) (G' := [(4, IV .i64 k), (5, BV true)]) (H' := HH h) (by repeat (first | exact trivial | refine ⟨⟨_, rfl, .inl ⟨rfl, rfl⟩⟩, ?_⟩ | refine ⟨⟨_, rfl, .inl ⟨slEq rfl tN, rfl⟩⟩, ?_⟩ | refine ⟨⟨_, rfl, .inl ⟨ivEq tX, rfl⟩⟩, ?_⟩)) (by exact ⟨ent_same rfl rfl rfl tL, ⟨ent_same rfl rfl rfl tL, ⟨ent_same rfl rfl rfl tL, ⟨ent_same rfl rfl rfl tL, trivial⟩⟩⟩⟩) (fun _ h => by simp at h) ?_
    exact n_out2 rfl (by rfl) rfl (.inl ⟨_, _, rfl, rfl, rfl⟩)
theorem min_c (h : Hq) (o : h.Ok) : Meets Try.prog 64 [.ptr 0 3 0 0] 4 (HH h) (.fz (.tup [If .i64 (h.item 0 : Nat), If .i64 (if h.it = [] then 0 else h.key (h.item 0)), Bf (!h.it.isEmpty)])) (HH h) 4 := by
  have hl := len_c h
  refine Meets.intro Try.func64 rfl (Nat.le_of_ble_eq_true rfl) fun C hC => ?_
  simp only [List.map, argEnv, Nat.reduceAdd]
  refine nK2 ?_
  refine s_reg rfl ?_
  first | refine Run.pure (dd := some 2) rfl rfl (op_assign rfl (Opd.const _)) ?_ | refine Run.pure (dd := some 2) rfl rfl (op_junk (.inr rfl)) ?_
  first | refine Run.pure (dd := some 3) rfl rfl (op_assign rfl (Opd.const _)) ?_ | refine Run.pure (dd := some 3) rfl rfl (op_junk (.inr rfl)) ?_
  first | refine Run.pure (dd := some 4) rfl rfl (op_assign rfl (Opd.const _)) ?_ | refine Run.pure (dd := some 4) rfl rfl (op_junk (.inr rfl)) ?_
  refine Run.nil (FinR.mk ?_)
  refine nK2 ?_
  refine s_reg rfl ?_
  first | refine Run.pure (dd := some 5) rfl rfl (op_move rfl (Opd.tmp _ _ rfl)) ?_ | refine Run.pure (dd := some 5) rfl rfl (op_junk (.inl rfl)) ?_
  refine Run.load (dd := some 6) rfl rfl (op_call_read (n := 4) [0, 1, 2, 3] (fun _ => hl) rfl (Opd.func _) (Opds.cons _ _ _ _ (Opd.tmp _ _ rfl) Opds.nil) rfl rfl (Lent.of rfl rfl (by exact ⟨⟨rfl, rfl, rfl, tL⟩, ⟨rfl, rfl, rfl, trivial⟩, ⟨rfl, rfl, rfl, trivial⟩, ⟨rfl, rfl, rfl, trivial⟩, trivial⟩) rfl) rfl) ?_
  refine Run.pure (dd := some 7) rfl rfl (op_eql rfl (Opd.tmp _ _ rfl) (Opd.const _)) ?_
  refine Run.nil (FinR.mk ?_)
  refine nK2 ?_
  refine n_cond _ rfl (fun hb => ?_) (fun hb => ?_)
  · have h2 : h.it = [] := by simpa using hb
    have e0 : h.item 0 = 0 := by unfold Hq.item; rw [h2]; rfl
    rw [if_pos h2, e0, show (!h.it.isEmpty) = false by rw [h2]; rfl]
    refine nK2 ?_
    refine s_reg rfl ?_
    first | refine Run.pure (dd := some 2) rfl rfl (op_assign rfl (Opd.const _)) ?_ | refine Run.pure (dd := some 2) rfl rfl (op_junk (.inr rfl)) ?_
    first | refine Run.pure (dd := some 3) rfl rfl (op_assign rfl (Opd.const _)) ?_ | refine Run.pure (dd := some 3) rfl rfl (op_junk (.inr rfl)) ?_
    first | refine Run.pure (dd := some 4) rfl rfl (op_assign rfl (Opd.const _)) ?_ | refine Run.pure (dd := some 4) rfl rfl (op_junk (.inr rfl)) ?_
    refine Run.nil (FinR.mk ?_)
    refine nK2 ?_
    refine Next.weak [0, 1, 2, 3] [] (by rfl) (keepsN hC _ rfl) (G' := [(2, IV .i64 0), (3, IV .i64 0), (4, BV false)]) (H' := HH h) (by repeat (first | exact trivial | refine ⟨⟨_, rfl, .inl ⟨rfl, rfl⟩⟩, ?_⟩ | refine ⟨⟨_, rfl, .inl ⟨slEq rfl tN, rfl⟩⟩, ?_⟩ | refine ⟨⟨_, rfl, .inl ⟨ivEq tX, rfl⟩⟩, ?_⟩)) (by exact ⟨ent_same rfl rfl rfl tL, ⟨ent_same rfl rfl rfl tL, ⟨ent_same rfl rfl rfl tL, ⟨ent_same rfl rfl rfl tL, trivial⟩⟩⟩⟩) (fun _ h => by simp at h) ?_
    exact n_out3 rfl (by rfl) rfl rfl (.inl ⟨_, _, _, rfl, rfl, rfl, rfl⟩)
  · have h2 : 0 < h.it.length := Nat.pos_of_ne_zero fun e => by simp [e] at hb
    have hne : h.it ≠ [] := fun e => by rw [e] at h2; exact absurd h2 (by decide)
    have hv := o.item h2
    have hol := o.len
    have r0 := row_of encT h.it 0 0 h2
    rw [if_neg hne, show (!h.it.isEmpty) = true by cases hq : h.it <;> simp_all]
    unfold Hq.item at hv ⊢
    generalize h.it.getD 0 0 = v at *
    have rv := row_of encN h.ky v 0 (by omega)
    unfold Hq.key
    generalize h.ky.getD v 0 = k at *
    refine nK2 ?_
    refine s_draw mixed ?_
    first | refine Run.pure (dd := some 8) rfl rfl (op_move rfl (Opd.tmp _ _ rfl)) ?_ | refine Run.pure (dd := some 8) rfl rfl (op_junk (.inl rfl)) ?_
    first | refine Run.pure (dd := some 9) rfl rfl (op_nilck_ptr rfl (Opd.tmp _ _ rfl)) ?_ | refine Run.pure (dd := some 9) rfl rfl (op_nilck_fz rfl (Opd.tmp _ _ rfl)) ?_ | refine Run.pure (dd := some 9) rfl rfl (op_nilck_clo rfl (Opd.tmp _ _ rfl)) ?_ | refine Run.pure (dd := some 9) rfl rfl (op_nilck_fclo rfl (Opd.tmp _ _ rfl)) ?_
    first | refine Run.pure (dd := some 10) rfl rfl (op_fld_ptr (by decide) rfl (Opd.tmp _ _ rfl)) ?_ | refine Run.pure (dd := some 10) rfl rfl (op_fld_fz (by decide) rfl (Opd.tmp _ _ rfl) tR) ?_
    first | refine Run.load (dd := some 11) rfl rfl (op_load1_flat rfl (Opd.tmp _ _ rfl) tH rfl) ?_ | refine Run.pure (dd := some 11) rfl rfl (op_load1_fz rfl (Opd.tmp _ _ rfl) rfl) ?_ | refine Run.load (dd := some 11) rfl rfl (op_load1_refs rfl (Opd.tmp _ _ rfl) tH rfl) ?_
    refine Run.pure (dd := some 12) rfl rfl (op_idx_sl0 0 rfl (Opd.tmp _ _ rfl) (Opd.const _) (by intro _; exact ⟨rfl, h2⟩)) ?_
    first | refine Run.load (dd := some 13) rfl rfl (op_load1_flat rfl (Opd.tmp _ _ rfl) tH rfl) ?_ | refine Run.pure (dd := some 13) rfl rfl (op_load1_fz rfl (Opd.tmp _ _ rfl) rfl) ?_ | refine Run.load (dd := some 13) rfl rfl (op_load1_refs rfl (Opd.tmp _ _ rfl) tH rfl) ?_
    first | refine Run.pure (dd := some 14) rfl rfl (op_move rfl (Opd.tmp _ _ rfl)) ?_ | refine Run.pure (dd := some 14) rfl rfl (op_junk (.inl rfl)) ?_
    first | refine Run.pure (dd := some 15) rfl rfl (op_nilck_ptr rfl (Opd.tmp _ _ rfl)) ?_ | refine Run.pure (dd := some 15) rfl rfl (op_nilck_fz rfl (Opd.tmp _ _ rfl)) ?_ | refine Run.pure (dd := some 15) rfl rfl (op_nilck_clo rfl (Opd.tmp _ _ rfl)) ?_ | refine Run.pure (dd := some 15) rfl rfl (op_nilck_fclo rfl (Opd.tmp _ _ rfl)) ?_
    first | refine Run.pure (dd := some 16) rfl rfl (op_fld_ptr (by decide) rfl (Opd.tmp _ _ rfl)) ?_ | refine Run.pure (dd := some 16) rfl rfl (op_fld_fz (by decide) rfl (Opd.tmp _ _ rfl) tR) ?_
    first | refine Run.load (dd := some 17) rfl rfl (op_load1_flat rfl (Opd.tmp _ _ rfl) tH rfl) ?_ | refine Run.pure (dd := some 17) rfl rfl (op_load1_fz rfl (Opd.tmp _ _ rfl) rfl) ?_ | refine Run.load (dd := some 17) rfl rfl (op_load1_refs rfl (Opd.tmp _ _ rfl) tH rfl) ?_
    first | refine Run.pure (dd := some 18) rfl rfl (op_move rfl (Opd.tmp _ _ rfl)) ?_ | refine Run.pure (dd := some 18) rfl rfl (op_junk (.inl rfl)) ?_
    first | refine Run.pure (dd := some 19) rfl rfl (op_nilck_ptr rfl (Opd.tmp _ _ rfl)) ?_ | refine Run.pure (dd := some 19) rfl rfl (op_nilck_fz rfl (Opd.tmp _ _ rfl)) ?_ | refine Run.pure (dd := some 19) rfl rfl (op_nilck_clo rfl (Opd.tmp _ _ rfl)) ?_ | refine Run.pure (dd := some 19) rfl rfl (op_nilck_fclo rfl (Opd.tmp _ _ rfl)) ?_
    first | refine Run.pure (dd := some 20) rfl rfl (op_fld_ptr (by decide) rfl (Opd.tmp _ _ rfl)) ?_ | refine Run.pure (dd := some 20) rfl rfl (op_fld_fz (by decide) rfl (Opd.tmp _ _ rfl) tR) ?_
    first | refine Run.load (dd := some 21) rfl rfl (op_load1_flat rfl (Opd.tmp _ _ rfl) tH rfl) ?_ | refine Run.pure (dd := some 21) rfl rfl (op_load1_fz rfl (Opd.tmp _ _ rfl) rfl) ?_ | refine Run.load (dd := some 21) rfl rfl (op_load1_refs rfl (Opd.tmp _ _ rfl) tH rfl) ?_
    refine Run.pure (dd := some 22) rfl rfl (op_idx_sl0 0 rfl (Opd.tmp _ _ rfl) (Opd.const _) (by intro _; exact ⟨rfl, h2⟩)) ?_
    first | refine Run.load (dd := some 23) rfl rfl (op_load1_flat rfl (Opd.tmp _ _ rfl) tH rfl) ?_ | refine Run.pure (dd := some 23) rfl rfl (op_load1_fz rfl (Opd.tmp _ _ rfl) rfl) ?_ | refine Run.load (dd := some 23) rfl rfl (op_load1_refs rfl (Opd.tmp _ _ rfl) tH rfl) ?_
    first | refine Run.pure (dd := some 24) rfl rfl (op_idx_sl0 _ rfl (Opd.tmp _ _ rfl) (Opd.tmp _ _ rfl) tD) ?_ | refine Run.pure (dd := some 24) rfl rfl (op_idx_fz _ rfl (Opd.tmp _ _ rfl) (Opd.tmp _ _ rfl) tF) ?_
    first | refine Run.load (dd := some 25) rfl rfl (op_load1_flat rfl (Opd.tmp _ _ rfl) tH rfl) ?_ | refine Run.pure (dd := some 25) rfl rfl (op_load1_fz rfl (Opd.tmp _ _ rfl) rfl) ?_ | refine Run.load (dd := some 25) rfl rfl (op_load1_refs rfl (Opd.tmp _ _ rfl) tH rfl) ?_
    first | refine Run.pure (dd := some 2) rfl rfl (op_assign rfl (Opd.tmp _ _ rfl)) ?_ | refine Run.pure (dd := some 2) rfl rfl (op_junk (.inr rfl)) ?_
    first | refine Run.pure (dd := some 3) rfl rfl (op_assign rfl (Opd.tmp _ _ rfl)) ?_ | refine Run.pure (dd := some 3) rfl rfl (op_junk (.inr rfl)) ?_
    first | refine Run.pure (dd := some 4) rfl rfl (op_assign rfl (Opd.const _)) ?_ | refine Run.pure (dd := some 4) rfl rfl (op_junk (.inr rfl)) ?_
    refine Run.nil (FinD.mk (by kernel_rfl) ?_)
    refine nK2 ?_
    refine Next.weak [0, 1, 2, 3] [] (by rfl) (keepsN hC _ rfl) (G' := [(2, IV .i64 v), (3, IV .i64 k), (4, BV true)]) (H' := HH h) (by repeat (first | exact trivial | refine ⟨⟨_, rfl, .inl ⟨rfl, rfl⟩⟩, ?_⟩ | refine ⟨⟨_, rfl, .inl ⟨slEq rfl tN, rfl⟩⟩, ?_⟩ | refine ⟨⟨_, rfl, .inl ⟨ivEq tX, rfl⟩⟩, ?_⟩)) (by exact ⟨ent_same rfl rfl rfl tL, ⟨ent_same rfl rfl rfl tL, ⟨ent_same rfl rfl rfl tL, ⟨ent_same rfl rfl rfl tL, trivial⟩⟩⟩⟩) (fun _ h => by simp at h) ?_
    exact n_out3 rfl (by rfl) rfl rfl (.inl ⟨_, _, _, rfl, rfl, rfl, rfl⟩)
end Go.Proofs.Ytgbfkpcigipniaa
namespace Go.Proofs.Ytgbfkpcigipniaa
open Go Go.RT Go.Proofs Go.Pl
set_option linter.all false
set_option maxRecDepth 20000
abbrev HX (h : Hq) : Hp := [(0, some (.refs 3 [[.sl 4 1 0 h.it.length, .sl 2 1 0 h.pl.length, .sl 3 1 0 h.ky.length]])), (4, OT h.it), (2, OI h.pl), (3, OI h.ky)]
theorem settle_i (h : Hq) (o : HI h) (a b : Int) (i : Nat) (ha : a = i) (hb : b = h.it.length) (hi : i < h.it.length) (hm : h.it.length ≤ 2000000) : Meets Try.prog 61 [IV .i64 a, IV .i64 b, .clo 62 [.ptr 0 3 0 0] [], .clo 63 [.ptr 0 3 0 0] []] 4 (HH h) (.fz (.tup [])) (HH (settleH h i h.it.length)) 4 := by
  subst ha; subst hb; exact settle_c h o.ok i h.it.length hi rfl hm
theorem set_c (h : Hq) (o : HI h) (v : Nat) (k : Int) (hv : v < h.pl.length) (hm : h.it.length ≤ 1999999) : Meets Try.prog 48 [.ptr 0 3 0 0, IV .i64 v, IV .i64 k] 4 (HH h) (BV true) (HX (setH h v k)) 5 := by
  have rv := row_of encN h.pl v 0 hv
  have hol := o.ok.len
  obtain ⟨op, pl2, hp0, hp1⟩ := o.put hv k
  have hlt := op.lt (v := v) (by rw [pl2]; exact hv) hp0
  obtain ⟨_, e1, e2, e3⟩ := o.set hv k
  have hst := fun a b ha hb => settle_i (putH h v k) op a b ((putH h v k).place v).toNat ha hb hlt (by omega)
  have hse : settleH (putH h v k) ((putH h v k).place v).toNat (putH h v k).it.length = setH h v k := rfl
  rw [hse] at hst
  have rvp := row_of encN (putH h v k).pl v 0 (by rw [pl2]; exact hv)
  have rvk := row_of encN h.ky v 0 (by omega)
  have hpd : h.pl.getD v 0 = h.place v := rfl
  have hpd2 : (putH h v k).pl.getD v 0 = (putH h v k).place v := rfl
  rw [hpd] at rv
  rw [hpd2] at rvp
  refine Meets.intro Try.func48 rfl (Nat.le_of_ble_eq_true rfl) fun C hC => ?_
  simp only [List.map, argEnv, Nat.reduceAdd]
  refine nK2 ?_
  refine s_reg rfl ?_
  first | refine Run.pure (dd := some 6) rfl rfl (op_assign rfl (Opd.const _)) ?_ | refine Run.pure (dd := some 6) rfl rfl (op_junk (.inr rfl)) ?_
  refine Run.nil (FinR.mk ?_)
  refine nK2 ?_
  refine s_reg rfl ?_
  first | refine Run.pure (dd := some 7) rfl rfl (op_move rfl (Opd.tmp _ _ rfl)) ?_ | refine Run.pure (dd := some 7) rfl rfl (op_junk (.inl rfl)) ?_
  refine Run.pure (dd := some 8) rfl rfl (op_eqlnilp rfl (Opd.tmp _ _ rfl)) ?_
  first | refine Run.pure (dd := some 9) rfl rfl (op_move rfl (Opd.tmp _ _ rfl)) ?_ | refine Run.pure (dd := some 9) rfl rfl (op_junk (.inl rfl)) ?_
  first | refine Run.pureG (dd := some 10) rfl rfl rfl tG (op_move rfl (Opd.tmp _ _ rfl)) ?_ | refine Run.pureG (dd := some 10) rfl rfl rfl tG (op_junk (.inl rfl)) ?_
  refine Run.pureG (dd := some 11) rfl rfl rfl tG (op_lss rfl (Opd.topt _ _ _ rfl tO) (Opd.const _)) ?_
  refine Run.pure (dd := some 12) rfl rfl (op_pick_or rfl (Opd.tmp _ _ rfl) (Opd.topt _ _ _ rfl tO)) ?_
  first | refine Run.pure (dd := some 13) rfl rfl (op_move rfl (Opd.tmp _ _ rfl)) ?_ | refine Run.pure (dd := some 13) rfl rfl (op_junk (.inl rfl)) ?_
  first | refine Run.pureG (dd := some 14) rfl rfl rfl tG (op_move rfl (Opd.tmp _ _ rfl)) ?_ | refine Run.pureG (dd := some 14) rfl rfl rfl tG (op_junk (.inl rfl)) ?_
  first | refine Run.pureG (dd := some 15) rfl rfl rfl tG (op_move rfl (Opd.tmp _ _ rfl)) ?_ | refine Run.pureG (dd := some 15) rfl rfl rfl tG (op_junk (.inl rfl)) ?_
  first | refine Run.pureG (dd := some 16) rfl rfl rfl tG (op_nilck_ptr rfl (Opd.topt _ _ _ rfl tO)) ?_ | refine Run.pureG (dd := some 16) rfl rfl rfl tG (op_nilck_fz rfl (Opd.topt _ _ _ rfl tO)) ?_ | refine Run.pureG (dd := some 16) rfl rfl rfl tG (op_nilck_clo rfl (Opd.topt _ _ _ rfl tO)) ?_ | refine Run.pureG (dd := some 16) rfl rfl rfl tG (op_nilck_fclo rfl (Opd.topt _ _ _ rfl tO)) ?_
  first | refine Run.pureG (dd := some 17) rfl rfl rfl tG (op_fld_ptr (by decide) rfl (Opd.topt _ _ _ rfl tO)) ?_ | refine Run.pureG (dd := some 17) rfl rfl rfl tG (op_fld_fz (by decide) rfl (Opd.topt _ _ _ rfl tO) tR) ?_
  first | refine Run.loadG (dd := some 18) rfl rfl rfl tG (op_load1_flat rfl (Opd.topt _ _ _ rfl tO) tH rfl) ?_ | refine Run.pureG (dd := some 18) rfl rfl rfl tG (op_load1_fz rfl (Opd.topt _ _ _ rfl tO) rfl) ?_ | refine Run.loadG (dd := some 18) rfl rfl rfl tG (op_load1_refs rfl (Opd.topt _ _ _ rfl tO) tH rfl) ?_
  first | refine Run.pureG (dd := some 19) rfl rfl rfl tG (op_len_fz rfl (by first | exact Opd.topt _ _ _ rfl tO | exact Opd.nil _ _ (Opd.topt _ _ _ rfl tO)) (by first | exact List.length_map _ | rfl)) ?_ | refine Run.pureG (dd := some 19) rfl rfl rfl tG (op_len_sl rfl (Opd.topt _ _ _ rfl tO)) ?_
  refine Run.pureG (dd := some 20) rfl rfl rfl tG (op_geq rfl (Opd.topt _ _ _ rfl tO) (Opd.topt _ _ _ rfl tO)) ?_
  refine Run.pure (dd := some 21) rfl rfl (op_pick_or rfl (Opd.tmp _ _ rfl) (Opd.topt _ _ _ rfl tO)) ?_
  refine Run.nil (FinR.mk ?_)
  refine nK2 ?_
  refine n_cond _ rfl (fun hb => ?_) (fun hb => ?_)
  · exfalso; simp at hb; omega
  · refine nK2 ?_
    refine s_reg rfl ?_
    first | refine Run.pure (dd := some 22) rfl rfl (op_move rfl (Opd.tmp _ _ rfl)) ?_ | refine Run.pure (dd := some 22) rfl rfl (op_junk (.inl rfl)) ?_
    first | refine Run.pure (dd := some 23) rfl rfl (op_nilck_ptr rfl (Opd.tmp _ _ rfl)) ?_ | refine Run.pure (dd := some 23) rfl rfl (op_nilck_fz rfl (Opd.tmp _ _ rfl)) ?_ | refine Run.pure (dd := some 23) rfl rfl (op_nilck_clo rfl (Opd.tmp _ _ rfl)) ?_ | refine Run.pure (dd := some 23) rfl rfl (op_nilck_fclo rfl (Opd.tmp _ _ rfl)) ?_
    first | refine Run.pure (dd := some 24) rfl rfl (op_fld_ptr (by decide) rfl (Opd.tmp _ _ rfl)) ?_ | refine Run.pure (dd := some 24) rfl rfl (op_fld_fz (by decide) rfl (Opd.tmp _ _ rfl) tR) ?_
    first | refine Run.load (dd := some 25) rfl rfl (op_load1_flat rfl (Opd.tmp _ _ rfl) tH rfl) ?_ | refine Run.pure (dd := some 25) rfl rfl (op_load1_fz rfl (Opd.tmp _ _ rfl) rfl) ?_ | refine Run.load (dd := some 25) rfl rfl (op_load1_refs rfl (Opd.tmp _ _ rfl) tH rfl) ?_
    first | refine Run.pure (dd := some 26) rfl rfl (op_move rfl (Opd.tmp _ _ rfl)) ?_ | refine Run.pure (dd := some 26) rfl rfl (op_junk (.inl rfl)) ?_
    first | refine Run.pure (dd := some 27) rfl rfl (op_idx_sl0 _ rfl (Opd.tmp _ _ rfl) (Opd.tmp _ _ rfl) tD) ?_ | refine Run.pure (dd := some 27) rfl rfl (op_idx_fz _ rfl (Opd.tmp _ _ rfl) (Opd.tmp _ _ rfl) tF) ?_
    first | refine Run.load (dd := some 28) rfl rfl (op_load1_flat rfl (Opd.tmp _ _ rfl) tH rfl) ?_ | refine Run.pure (dd := some 28) rfl rfl (op_load1_fz rfl (Opd.tmp _ _ rfl) rfl) ?_ | refine Run.load (dd := some 28) rfl rfl (op_load1_refs rfl (Opd.tmp _ _ rfl) tH rfl) ?_
    refine Run.pure (dd := some 29) rfl rfl (op_lss rfl (Opd.tmp _ _ rfl) (Opd.const _)) ?_
    refine Run.nil (FinR.mk ?_)
    refine nK2 ?_
    refine n_cond _ rfl (fun hb => ?_) (fun hb => ?_)
    · have hneg : h.place v < 0 := by simpa using hb
      have hpu : putH h v k = ⟨h.it ++ [v], h.pl.set v h.it.length, h.ky.set v k⟩ := by unfold putH insH; rw [if_pos hneg]
      have e4 : (putH h v k).it.length = h.it.length + 1 := by rw [hpu]; simp
      have q1 : (putH h v k).it = h.it ++ [v] := by rw [hpu]
      have q2 : (putH h v k).pl = h.pl.set v h.it.length := by rw [hpu]
      have q3 : (putH h v k).ky = h.ky.set v k := by rw [hpu]
      refine nK2 ?_
      refine s_draw mixed ?_
      first | refine Run.pure (dd := some 30) rfl rfl (op_move rfl (Opd.tmp _ _ rfl)) ?_ | refine Run.pure (dd := some 30) rfl rfl (op_junk (.inl rfl)) ?_
      first | refine Run.pure (dd := some 31) rfl rfl (op_nilck_ptr rfl (Opd.tmp _ _ rfl)) ?_ | refine Run.pure (dd := some 31) rfl rfl (op_nilck_fz rfl (Opd.tmp _ _ rfl)) ?_ | refine Run.pure (dd := some 31) rfl rfl (op_nilck_clo rfl (Opd.tmp _ _ rfl)) ?_ | refine Run.pure (dd := some 31) rfl rfl (op_nilck_fclo rfl (Opd.tmp _ _ rfl)) ?_
      first | refine Run.pure (dd := some 32) rfl rfl (op_fld_ptr (by decide) rfl (Opd.tmp _ _ rfl)) ?_ | refine Run.pure (dd := some 32) rfl rfl (op_fld_fz (by decide) rfl (Opd.tmp _ _ rfl) tR) ?_
      first | refine Run.load (dd := some 33) rfl rfl (op_load1_flat rfl (Opd.tmp _ _ rfl) tH rfl) ?_ | refine Run.pure (dd := some 33) rfl rfl (op_load1_fz rfl (Opd.tmp _ _ rfl) rfl) ?_ | refine Run.load (dd := some 33) rfl rfl (op_load1_refs rfl (Opd.tmp _ _ rfl) tH rfl) ?_
      first | refine Run.pure (dd := some 34) rfl rfl (op_move rfl (Opd.tmp _ _ rfl)) ?_ | refine Run.pure (dd := some 34) rfl rfl (op_junk (.inl rfl)) ?_
      first | refine Run.pure (dd := some 35) rfl rfl (op_move rfl (Opd.tmp _ _ rfl)) ?_ | refine Run.pure (dd := some 35) rfl rfl (op_junk (.inl rfl)) ?_
      first | refine Run.pure (dd := some 36) rfl rfl (op_nilck_ptr rfl (Opd.tmp _ _ rfl)) ?_ | refine Run.pure (dd := some 36) rfl rfl (op_nilck_fz rfl (Opd.tmp _ _ rfl)) ?_ | refine Run.pure (dd := some 36) rfl rfl (op_nilck_clo rfl (Opd.tmp _ _ rfl)) ?_ | refine Run.pure (dd := some 36) rfl rfl (op_nilck_fclo rfl (Opd.tmp _ _ rfl)) ?_
      first | refine Run.pure (dd := some 37) rfl rfl (op_fld_ptr (by decide) rfl (Opd.tmp _ _ rfl)) ?_ | refine Run.pure (dd := some 37) rfl rfl (op_fld_fz (by decide) rfl (Opd.tmp _ _ rfl) tR) ?_
      first | refine Run.load (dd := some 38) rfl rfl (op_load1_flat rfl (Opd.tmp _ _ rfl) tH rfl) ?_ | refine Run.pure (dd := some 38) rfl rfl (op_load1_fz rfl (Opd.tmp _ _ rfl) rfl) ?_ | refine Run.load (dd := some 38) rfl rfl (op_load1_refs rfl (Opd.tmp _ _ rfl) tH rfl) ?_
      first | refine Run.pure (dd := some 39) rfl rfl (op_len_fz rfl (by first | exact Opd.tmp _ _ rfl | exact Opd.nil _ _ (Opd.tmp _ _ rfl)) (by first | exact List.length_map _ | rfl)) ?_ | refine Run.pure (dd := some 39) rfl rfl (op_len_sl rfl (Opd.tmp _ _ rfl)) ?_
      first | refine Run.pure (dd := some 40) rfl rfl (op_idx_sl0 _ rfl (Opd.tmp _ _ rfl) (Opd.tmp _ _ rfl) tD) ?_ | refine Run.pure (dd := some 40) rfl rfl (op_idx_fz _ rfl (Opd.tmp _ _ rfl) (Opd.tmp _ _ rfl) tF) ?_
      first | refine Run.effW (dd := none) rfl rfl (op_store_flat rfl (Opd.tmp _ _ rfl) (Opd.tmp _ _ rfl) tC rfl rfl (by first | rfl | assumption) tS) (by first | exact ext_call | exact tE) ?_ | refine Run.effW (dd := none) rfl rfl (op_store_refs rfl (Opd.tmp _ _ rfl) (Opd.tmp _ _ rfl) tP rfl rfl rfl tS) (by first | exact ext_call | exact tE) ?_
      refine Run.nil (FinD.mk (by kernel_rfl) ?_)
      refine nK2 ?_
      refine s_reg rfl ?_
      first | refine Run.pure (dd := some 41) rfl rfl (op_move rfl (Opd.tmp _ _ rfl)) ?_ | refine Run.pure (dd := some 41) rfl rfl (op_junk (.inl rfl)) ?_
      first | refine Run.pure (dd := some 42) rfl rfl (op_move rfl (Opd.tmp _ _ rfl)) ?_ | refine Run.pure (dd := some 42) rfl rfl (op_junk (.inl rfl)) ?_
      first | refine Run.pure (dd := some 43) rfl rfl (op_nilck_ptr rfl (Opd.tmp _ _ rfl)) ?_ | refine Run.pure (dd := some 43) rfl rfl (op_nilck_fz rfl (Opd.tmp _ _ rfl)) ?_ | refine Run.pure (dd := some 43) rfl rfl (op_nilck_clo rfl (Opd.tmp _ _ rfl)) ?_ | refine Run.pure (dd := some 43) rfl rfl (op_nilck_fclo rfl (Opd.tmp _ _ rfl)) ?_
      first | refine Run.pure (dd := some 44) rfl rfl (op_fld_ptr (by decide) rfl (Opd.tmp _ _ rfl)) ?_ | refine Run.pure (dd := some 44) rfl rfl (op_fld_fz (by decide) rfl (Opd.tmp _ _ rfl) tR) ?_
      first | refine Run.load (dd := some 45) rfl rfl (op_load1_flat rfl (Opd.tmp _ _ rfl) tH rfl) ?_ | refine Run.pure (dd := some 45) rfl rfl (op_load1_fz rfl (Opd.tmp _ _ rfl) rfl) ?_ | refine Run.load (dd := some 45) rfl rfl (op_load1_refs rfl (Opd.tmp _ _ rfl) tH rfl) ?_
      first | refine Run.pure (dd := some 46) rfl rfl (op_move rfl (Opd.tmp _ _ rfl)) ?_ | refine Run.pure (dd := some 46) rfl rfl (op_junk (.inl rfl)) ?_
      refine Run.pure (dd := some 47) rfl rfl (op_buildSlice_fz rfl (RowsF.cons _ _ _ _ _ _ (Opd.tmp _ _ rfl) tC (by rfl) (RowsF.nil _)) rfl rfl) ?_
      first | refine Run.eff (dd := some 48) rfl rfl (op_append_own0 rfl (Opd.tmp _ _ rfl) (Opd.tmp _ _ rfl) rfl (by first | rfl | simp) rfl (by first | rfl | simp) rfl rfl tB tB) ?_ | refine Run.eff (dd := some 48) rfl rfl (op_append rfl (Opd.tmp _ _ rfl) (by first | exact Opd.tmp _ _ rfl | exact Opd.nil _ _ (Opd.tmp _ _ rfl)) rfl (by first | rfl | simp) rfl rfl tB tB) ?_
      first | refine Run.pure (dd := some 49) rfl rfl (op_nilck_ptr rfl (Opd.tmp _ _ rfl)) ?_ | refine Run.pure (dd := some 49) rfl rfl (op_nilck_fz rfl (Opd.tmp _ _ rfl)) ?_ | refine Run.pure (dd := some 49) rfl rfl (op_nilck_clo rfl (Opd.tmp _ _ rfl)) ?_ | refine Run.pure (dd := some 49) rfl rfl (op_nilck_fclo rfl (Opd.tmp _ _ rfl)) ?_
      first | refine Run.pure (dd := some 50) rfl rfl (op_fld_ptr (by decide) rfl (Opd.tmp _ _ rfl)) ?_ | refine Run.pure (dd := some 50) rfl rfl (op_fld_fz (by decide) rfl (Opd.tmp _ _ rfl) tR) ?_
      first | refine Run.eff (dd := none) rfl rfl (op_store_flat rfl (Opd.tmp _ _ rfl) (Opd.tmp _ _ rfl) tC rfl rfl (by first | rfl | assumption) tS) ?_ | refine Run.eff (dd := none) rfl rfl (op_store_refs rfl (Opd.tmp _ _ rfl) (Opd.tmp _ _ rfl) tP rfl rfl rfl tS) ?_
      refine Run.nil (FinR.mk ?_)
      refine nK2 ?_
      refine s_reg rfl ?_
      first | refine Run.pure (dd := some 51) rfl rfl (op_move rfl (Opd.tmp _ _ rfl)) ?_ | refine Run.pure (dd := some 51) rfl rfl (op_junk (.inl rfl)) ?_
      first | refine Run.pure (dd := some 52) rfl rfl (op_nilck_ptr rfl (Opd.tmp _ _ rfl)) ?_ | refine Run.pure (dd := some 52) rfl rfl (op_nilck_fz rfl (Opd.tmp _ _ rfl)) ?_ | refine Run.pure (dd := some 52) rfl rfl (op_nilck_clo rfl (Opd.tmp _ _ rfl)) ?_ | refine Run.pure (dd := some 52) rfl rfl (op_nilck_fclo rfl (Opd.tmp _ _ rfl)) ?_
      first | refine Run.pure (dd := some 53) rfl rfl (op_fld_ptr (by decide) rfl (Opd.tmp _ _ rfl)) ?_ | refine Run.pure (dd := some 53) rfl rfl (op_fld_fz (by decide) rfl (Opd.tmp _ _ rfl) tR) ?_
      first | refine Run.load (dd := some 54) rfl rfl (op_load1_flat rfl (Opd.tmp _ _ rfl) tH rfl) ?_ | refine Run.pure (dd := some 54) rfl rfl (op_load1_fz rfl (Opd.tmp _ _ rfl) rfl) ?_ | refine Run.load (dd := some 54) rfl rfl (op_load1_refs rfl (Opd.tmp _ _ rfl) tH rfl) ?_
      first | refine Run.pure (dd := some 55) rfl rfl (op_move rfl (Opd.tmp _ _ rfl)) ?_ | refine Run.pure (dd := some 55) rfl rfl (op_junk (.inl rfl)) ?_
      first | refine Run.pure (dd := some 56) rfl rfl (op_move rfl (Opd.tmp _ _ rfl)) ?_ | refine Run.pure (dd := some 56) rfl rfl (op_junk (.inl rfl)) ?_
      first | refine Run.pure (dd := some 57) rfl rfl (op_idx_sl0 _ rfl (Opd.tmp _ _ rfl) (Opd.tmp _ _ rfl) tD) ?_ | refine Run.pure (dd := some 57) rfl rfl (op_idx_fz _ rfl (Opd.tmp _ _ rfl) (Opd.tmp _ _ rfl) tF) ?_
      first | refine Run.eff (dd := none) rfl rfl (op_store_flat rfl (Opd.tmp _ _ rfl) (Opd.tmp _ _ rfl) tC rfl rfl (by first | rfl | assumption) tS) ?_ | refine Run.eff (dd := none) rfl rfl (op_store_refs rfl (Opd.tmp _ _ rfl) (Opd.tmp _ _ rfl) tP rfl rfl rfl tS) ?_
      refine Run.nil (FinR.mk ?_)
      refine nK2 ?_
      generalize putH h v k = p at *
      refine Next.weak [0, 1, 2, 3, 4] [] (by rfl) (keepsN hC _ rfl) (G' := [(0, .ptr 0 3 0 0), (1, IV .i64 v)]) (H' := HX p) (by repeat (first | exact trivial | refine ⟨⟨_, rfl, .inl ⟨rfl, rfl⟩⟩, ?_⟩ | refine ⟨⟨_, rfl, .inl ⟨slEq rfl tN, rfl⟩⟩, ?_⟩ | refine ⟨⟨_, rfl, .inl ⟨ivEq tX, rfl⟩⟩, ?_⟩)) (by exact ⟨ent_same rfl rfl (by rw [q1, q2, q3]; simp only [List.length_append, List.length_set, List.length_singleton]; rfl) tL, ⟨ent_same rfl rfl (flEq rfl (by rw [q1, List.map_append]; rfl)) trivial, ⟨ent_same rfl rfl (flEq rfl (by rw [q2, List.map_set]; rfl)) trivial, ⟨ent_same rfl rfl (flEq rfl (by rw [q3, List.map_set]; rfl)) trivial, trivial⟩⟩⟩⟩) (fun _ h => by simp at h) ?_
      generalize hpp : p.place v = pv at *
      refine nK2 ?_
      refine s_draw mixed ?_
      first | refine Run.pure (dd := some 58) rfl rfl (op_move rfl (Opd.tmp _ _ rfl)) ?_ | refine Run.pure (dd := some 58) rfl rfl (op_junk (.inl rfl)) ?_
      first | refine Run.pure (dd := some 59) rfl rfl (op_nilck_ptr rfl (Opd.tmp _ _ rfl)) ?_ | refine Run.pure (dd := some 59) rfl rfl (op_nilck_fz rfl (Opd.tmp _ _ rfl)) ?_ | refine Run.pure (dd := some 59) rfl rfl (op_nilck_clo rfl (Opd.tmp _ _ rfl)) ?_ | refine Run.pure (dd := some 59) rfl rfl (op_nilck_fclo rfl (Opd.tmp _ _ rfl)) ?_
      first | refine Run.pure (dd := some 60) rfl rfl (op_fld_ptr (by decide) rfl (Opd.tmp _ _ rfl)) ?_ | refine Run.pure (dd := some 60) rfl rfl (op_fld_fz (by decide) rfl (Opd.tmp _ _ rfl) tR) ?_
      first | refine Run.load (dd := some 61) rfl rfl (op_load1_flat rfl (Opd.tmp _ _ rfl) tH rfl) ?_ | refine Run.pure (dd := some 61) rfl rfl (op_load1_fz rfl (Opd.tmp _ _ rfl) rfl) ?_ | refine Run.load (dd := some 61) rfl rfl (op_load1_refs rfl (Opd.tmp _ _ rfl) tH rfl) ?_
      first | refine Run.pure (dd := some 62) rfl rfl (op_move rfl (Opd.tmp _ _ rfl)) ?_ | refine Run.pure (dd := some 62) rfl rfl (op_junk (.inl rfl)) ?_
      refine Run.pure (dd := some 63) rfl rfl (op_idx_sl0 v rfl (Opd.tmp _ _ rfl) (Opd.tmp _ _ rfl) (by intro _; exact ⟨rfl, by omega⟩)) ?_
      first | refine Run.load (dd := some 64) rfl rfl (op_load1_flat rfl (Opd.tmp _ _ rfl) tH rfl) ?_ | refine Run.pure (dd := some 64) rfl rfl (op_load1_fz rfl (Opd.tmp _ _ rfl) rfl) ?_ | refine Run.load (dd := some 64) rfl rfl (op_load1_refs rfl (Opd.tmp _ _ rfl) tH rfl) ?_
      first | refine Run.pure (dd := some 65) rfl rfl (op_move rfl (Opd.tmp _ _ rfl)) ?_ | refine Run.pure (dd := some 65) rfl rfl (op_junk (.inl rfl)) ?_
      first | refine Run.pure (dd := some 66) rfl rfl (op_nilck_ptr rfl (Opd.tmp _ _ rfl)) ?_ | refine Run.pure (dd := some 66) rfl rfl (op_nilck_fz rfl (Opd.tmp _ _ rfl)) ?_ | refine Run.pure (dd := some 66) rfl rfl (op_nilck_clo rfl (Opd.tmp _ _ rfl)) ?_ | refine Run.pure (dd := some 66) rfl rfl (op_nilck_fclo rfl (Opd.tmp _ _ rfl)) ?_
      first | refine Run.pure (dd := some 67) rfl rfl (op_fld_ptr (by decide) rfl (Opd.tmp _ _ rfl)) ?_ | refine Run.pure (dd := some 67) rfl rfl (op_fld_fz (by decide) rfl (Opd.tmp _ _ rfl) tR) ?_
      first | refine Run.load (dd := some 68) rfl rfl (op_load1_flat rfl (Opd.tmp _ _ rfl) tH rfl) ?_ | refine Run.pure (dd := some 68) rfl rfl (op_load1_fz rfl (Opd.tmp _ _ rfl) rfl) ?_ | refine Run.load (dd := some 68) rfl rfl (op_load1_refs rfl (Opd.tmp _ _ rfl) tH rfl) ?_
      first | refine Run.pure (dd := some 69) rfl rfl (op_len_fz rfl (by first | exact Opd.tmp _ _ rfl | exact Opd.nil _ _ (Opd.tmp _ _ rfl)) (by first | exact List.length_map _ | rfl)) ?_ | refine Run.pure (dd := some 69) rfl rfl (op_len_sl rfl (Opd.tmp _ _ rfl)) ?_
      first | refine Run.pure (dd := some 70) rfl rfl (op_move rfl (Opd.tmp _ _ rfl)) ?_ | refine Run.pure (dd := some 70) rfl rfl (op_junk (.inl rfl)) ?_
      refine Run.pure (dd := some 71) rfl rfl (op_makeFunc rfl (Opds.cons _ _ _ _ (Opd.tmp _ _ rfl) Opds.nil) Opds.nil) ?_
      first | refine Run.pure (dd := some 72) rfl rfl (op_move rfl (Opd.tmp _ _ rfl)) ?_ | refine Run.pure (dd := some 72) rfl rfl (op_junk (.inl rfl)) ?_
      refine Run.pure (dd := some 73) rfl rfl (op_makeFunc rfl (Opds.cons _ _ _ _ (Opd.tmp _ _ rfl) Opds.nil) Opds.nil) ?_
      refine Run.effW (dd := some 74) rfl rfl (op_call (n := 4) (n' := 4) [0, 4, 2, 3] (fun _ => hst _ _ (by omega) rfl) rfl (Opd.func _) (Opds.cons _ _ _ _ (Opd.tmp _ _ rfl) (Opds.cons _ _ _ _ (Opd.tmp _ _ rfl) (Opds.cons _ _ _ _ (Opd.tmp _ _ rfl) (Opds.cons _ _ _ _ (Opd.tmp _ _ rfl) Opds.nil)))) rfl rfl (Lent.of rfl rfl (by exact ⟨⟨rfl, rfl, rfl, tL⟩, ⟨rfl, rfl, rfl, trivial⟩, ⟨rfl, rfl, rfl, trivial⟩, ⟨rfl, rfl, rfl, trivial⟩, trivial⟩) rfl) rfl rfl rfl rfl rfl) (by first | exact ext_call | exact tE) ?_
      refine Run.nil (FinD.mk (by kernel_rfl) ?_)
      refine nK2 ?_
      refine s_reg rfl ?_
      first | refine Run.pure (dd := some 6) rfl rfl (op_assign rfl (Opd.const _)) ?_ | refine Run.pure (dd := some 6) rfl rfl (op_junk (.inr rfl)) ?_
      refine Run.nil (FinR.mk ?_)
      refine nK2 ?_
      refine Next.weak [0, 1, 2, 3, 4] [] (by rfl) (keepsN hC _ rfl) (G' := [(6, BV true)]) (H' := HX (setH h v k)) (by repeat (first | exact trivial | refine ⟨⟨_, rfl, .inl ⟨rfl, rfl⟩⟩, ?_⟩ | refine ⟨⟨_, rfl, .inl ⟨slEq rfl tN, rfl⟩⟩, ?_⟩ | refine ⟨⟨_, rfl, .inl ⟨ivEq tX, rfl⟩⟩, ?_⟩)) (by exact ⟨ent_same rfl rfl rfl tL, ⟨ent_same rfl rfl rfl tL, ⟨ent_same rfl rfl rfl tL, ⟨ent_same rfl rfl rfl tL, trivial⟩⟩⟩⟩) (fun _ h => by simp at h) ?_
      exact n_out1 rfl (by rfl) rfl rfl
    · have hneg : ¬ h.place v < 0 := by simpa using hb
      have hpu : putH h v k = ⟨h.it, h.pl, h.ky.set v k⟩ := by unfold putH insH; rw [if_neg hneg]
      have q1 : (putH h v k).it = h.it := by rw [hpu]
      have q2 : (putH h v k).pl = h.pl := by rw [hpu]
      have q3 : (putH h v k).ky = h.ky.set v k := by rw [hpu]
      refine nK2 ?_
      refine s_reg rfl ?_
      first | refine Run.pure (dd := some 51) rfl rfl (op_move rfl (Opd.tmp _ _ rfl)) ?_ | refine Run.pure (dd := some 51) rfl rfl (op_junk (.inl rfl)) ?_
      first | refine Run.pure (dd := some 52) rfl rfl (op_nilck_ptr rfl (Opd.tmp _ _ rfl)) ?_ | refine Run.pure (dd := some 52) rfl rfl (op_nilck_fz rfl (Opd.tmp _ _ rfl)) ?_ | refine Run.pure (dd := some 52) rfl rfl (op_nilck_clo rfl (Opd.tmp _ _ rfl)) ?_ | refine Run.pure (dd := some 52) rfl rfl (op_nilck_fclo rfl (Opd.tmp _ _ rfl)) ?_
      first | refine Run.pure (dd := some 53) rfl rfl (op_fld_ptr (by decide) rfl (Opd.tmp _ _ rfl)) ?_ | refine Run.pure (dd := some 53) rfl rfl (op_fld_fz (by decide) rfl (Opd.tmp _ _ rfl) tR) ?_
      first | refine Run.load (dd := some 54) rfl rfl (op_load1_flat rfl (Opd.tmp _ _ rfl) tH rfl) ?_ | refine Run.pure (dd := some 54) rfl rfl (op_load1_fz rfl (Opd.tmp _ _ rfl) rfl) ?_ | refine Run.load (dd := some 54) rfl rfl (op_load1_refs rfl (Opd.tmp _ _ rfl) tH rfl) ?_
      first | refine Run.pure (dd := some 55) rfl rfl (op_move rfl (Opd.tmp _ _ rfl)) ?_ | refine Run.pure (dd := some 55) rfl rfl (op_junk (.inl rfl)) ?_
      first | refine Run.pure (dd := some 56) rfl rfl (op_move rfl (Opd.tmp _ _ rfl)) ?_ | refine Run.pure (dd := some 56) rfl rfl (op_junk (.inl rfl)) ?_
      first | refine Run.pure (dd := some 57) rfl rfl (op_idx_sl0 _ rfl (Opd.tmp _ _ rfl) (Opd.tmp _ _ rfl) tD) ?_ | refine Run.pure (dd := some 57) rfl rfl (op_idx_fz _ rfl (Opd.tmp _ _ rfl) (Opd.tmp _ _ rfl) tF) ?_
      first | refine Run.eff (dd := none) rfl rfl (op_store_flat rfl (Opd.tmp _ _ rfl) (Opd.tmp _ _ rfl) tC rfl rfl (by first | rfl | assumption) tS) ?_ | refine Run.eff (dd := none) rfl rfl (op_store_refs rfl (Opd.tmp _ _ rfl) (Opd.tmp _ _ rfl) tP rfl rfl rfl tS) ?_
      refine Run.nil (FinR.mk ?_)
      refine nK2 ?_
      refine Next.retagCell 0 0 0 rfl rfl rfl rfl rfl ?_
      generalize putH h v k = p at *
      refine Next.weak [0, 1, 2, 3, 4] [] (by rfl) (keepsN hC _ rfl) (G' := [(0, .ptr 0 3 0 0), (1, IV .i64 v)]) (H' := HX p) (by repeat (first | exact trivial | refine ⟨⟨_, rfl, .inl ⟨rfl, rfl⟩⟩, ?_⟩ | refine ⟨⟨_, rfl, .inl ⟨slEq rfl tN, rfl⟩⟩, ?_⟩ | refine ⟨⟨_, rfl, .inl ⟨ivEq tX, rfl⟩⟩, ?_⟩)) (by exact ⟨ent_same rfl rfl (by rw [q1, q2, q3]; simp only [List.length_set]; rfl) tL, ⟨ent_same rfl rfl (flEq rfl (by rw [q1])) trivial, ⟨ent_same rfl rfl (flEq rfl (by rw [q2])) trivial, ⟨ent_same rfl rfl (flEq rfl (by rw [q3, List.map_set]; rfl)) trivial, trivial⟩⟩⟩⟩) (fun _ h => by simp at h) ?_
      generalize hpp : p.place v = pv at *
      refine nK2 ?_
      refine s_draw mixed ?_
      first | refine Run.pure (dd := some 58) rfl rfl (op_move rfl (Opd.tmp _ _ rfl)) ?_ | refine Run.pure (dd := some 58) rfl rfl (op_junk (.inl rfl)) ?_
      first | refine Run.pure (dd := some 59) rfl rfl (op_nilck_ptr rfl (Opd.tmp _ _ rfl)) ?_ | refine Run.pure (dd := some 59) rfl rfl (op_nilck_fz rfl (Opd.tmp _ _ rfl)) ?_ | refine Run.pure (dd := some 59) rfl rfl (op_nilck_clo rfl (Opd.tmp _ _ rfl)) ?_ | refine Run.pure (dd := some 59) rfl rfl (op_nilck_fclo rfl (Opd.tmp _ _ rfl)) ?_
      first | refine Run.pure (dd := some 60) rfl rfl (op_fld_ptr (by decide) rfl (Opd.tmp _ _ rfl)) ?_ | refine Run.pure (dd := some 60) rfl rfl (op_fld_fz (by decide) rfl (Opd.tmp _ _ rfl) tR) ?_
      first | refine Run.load (dd := some 61) rfl rfl (op_load1_flat rfl (Opd.tmp _ _ rfl) tH rfl) ?_ | refine Run.pure (dd := some 61) rfl rfl (op_load1_fz rfl (Opd.tmp _ _ rfl) rfl) ?_ | refine Run.load (dd := some 61) rfl rfl (op_load1_refs rfl (Opd.tmp _ _ rfl) tH rfl) ?_
      first | refine Run.pure (dd := some 62) rfl rfl (op_move rfl (Opd.tmp _ _ rfl)) ?_ | refine Run.pure (dd := some 62) rfl rfl (op_junk (.inl rfl)) ?_
      refine Run.pure (dd := some 63) rfl rfl (op_idx_sl0 v rfl (Opd.tmp _ _ rfl) (Opd.tmp _ _ rfl) (by intro _; exact ⟨rfl, by omega⟩)) ?_
      first | refine Run.load (dd := some 64) rfl rfl (op_load1_flat rfl (Opd.tmp _ _ rfl) tH rfl) ?_ | refine Run.pure (dd := some 64) rfl rfl (op_load1_fz rfl (Opd.tmp _ _ rfl) rfl) ?_ | refine Run.load (dd := some 64) rfl rfl (op_load1_refs rfl (Opd.tmp _ _ rfl) tH rfl) ?_
      first | refine Run.pure (dd := some 65) rfl rfl (op_move rfl (Opd.tmp _ _ rfl)) ?_ | refine Run.pure (dd := some 65) rfl rfl (op_junk (.inl rfl)) ?_
      first | refine Run.pure (dd := some 66) rfl rfl (op_nilck_ptr rfl (Opd.tmp _ _ rfl)) ?_ | refine Run.pure (dd := some 66) rfl rfl (op_nilck_fz rfl (Opd.tmp _ _ rfl)) ?_ | refine Run.pure (dd := some 66) rfl rfl (op_nilck_clo rfl (Opd.tmp _ _ rfl)) ?_ | refine Run.pure (dd := some 66) rfl rfl (op_nilck_fclo rfl (Opd.tmp _ _ rfl)) ?_
      first | refine Run.pure (dd := some 67) rfl rfl (op_fld_ptr (by decide) rfl (Opd.tmp _ _ rfl)) ?_ | refine Run.pure (dd := some 67) rfl rfl (op_fld_fz (by decide) rfl (Opd.tmp _ _ rfl) tR) ?_
      first | refine Run.load (dd := some 68) rfl rfl (op_load1_flat rfl (Opd.tmp _ _ rfl) tH rfl) ?_ | refine Run.pure (dd := some 68) rfl rfl (op_load1_fz rfl (Opd.tmp _ _ rfl) rfl) ?_ | refine Run.load (dd := some 68) rfl rfl (op_load1_refs rfl (Opd.tmp _ _ rfl) tH rfl) ?_
      first | refine Run.pure (dd := some 69) rfl rfl (op_len_fz rfl (by first | exact Opd.tmp _ _ rfl | exact Opd.nil _ _ (Opd.tmp _ _ rfl)) (by first | exact List.length_map _ | rfl)) ?_ | refine Run.pure (dd := some 69) rfl rfl (op_len_sl rfl (Opd.tmp _ _ rfl)) ?_
      first | refine Run.pure (dd := some 70) rfl rfl (op_move rfl (Opd.tmp _ _ rfl)) ?_ | refine Run.pure (dd := some 70) rfl rfl (op_junk (.inl rfl)) ?_
      refine Run.pure (dd := some 71) rfl rfl (op_makeFunc rfl (Opds.cons _ _ _ _ (Opd.tmp _ _ rfl) Opds.nil) Opds.nil) ?_
      first | refine Run.pure (dd := some 72) rfl rfl (op_move rfl (Opd.tmp _ _ rfl)) ?_ | refine Run.pure (dd := some 72) rfl rfl (op_junk (.inl rfl)) ?_
      refine Run.pure (dd := some 73) rfl rfl (op_makeFunc rfl (Opds.cons _ _ _ _ (Opd.tmp _ _ rfl) Opds.nil) Opds.nil) ?_
      refine Run.effW (dd := some 74) rfl rfl (op_call (n := 4) (n' := 4) [0, 4, 2, 3] (fun _ => hst _ _ (by omega) rfl) rfl (Opd.func _) (Opds.cons _ _ _ _ (Opd.tmp _ _ rfl) (Opds.cons _ _ _ _ (Opd.tmp _ _ rfl) (Opds.cons _ _ _ _ (Opd.tmp _ _ rfl) (Opds.cons _ _ _ _ (Opd.tmp _ _ rfl) Opds.nil)))) rfl rfl (Lent.of rfl rfl (by exact ⟨⟨rfl, rfl, rfl, tL⟩, ⟨rfl, rfl, rfl, trivial⟩, ⟨rfl, rfl, rfl, trivial⟩, ⟨rfl, rfl, rfl, trivial⟩, trivial⟩) rfl) rfl rfl rfl rfl rfl) (by first | exact ext_call | exact tE) ?_
      refine Run.nil (FinD.mk (by kernel_rfl) ?_)
      refine nK2 ?_
      refine s_reg rfl ?_
      first | refine Run.pure (dd := some 6) rfl rfl (op_assign rfl (Opd.const _)) ?_ | refine Run.pure (dd := some 6) rfl rfl (op_junk (.inr rfl)) ?_
      refine Run.nil (FinR.mk ?_)
      refine nK2 ?_
      refine Next.weak [0, 1, 2, 3, 4] [] (by rfl) (keepsN hC _ rfl) (G' := [(6, BV true)]) (H' := HX (setH h v k)) (by repeat (first | exact trivial | refine ⟨⟨_, rfl, .inl ⟨rfl, rfl⟩⟩, ?_⟩ | refine ⟨⟨_, rfl, .inl ⟨slEq rfl tN, rfl⟩⟩, ?_⟩ | refine ⟨⟨_, rfl, .inl ⟨ivEq tX, rfl⟩⟩, ?_⟩)) (by exact ⟨ent_same rfl rfl rfl tL, ⟨ent_same rfl rfl rfl tL, ⟨ent_same rfl rfl rfl tL, ⟨ent_same rfl rfl rfl tL, trivial⟩⟩⟩⟩) (fun _ h => by simp at h) ?_
      exact n_out1 rfl (by rfl) rfl rfl
end Go.Proofs.Ytgbfkpcigipniaa
namespace Go.Proofs.Ytgbfkpcigipniaa
open Go Go.RT Go.Proofs Go.Pl
set_option linter.all false
set_option maxRecDepth 20000
theorem drop_c (h : Hq) (o : HI h) (v : Nat) (hv : v < h.pl.length) (hp : 0 ≤ h.place v) (hm : h.it.length ≤ 1999999) : Meets Try.prog 65 [.ptr 0 3 0 0, IV .i64 v] 4 (HH h) (BV true) (HX (dropH h v)) 5 := by
  have hh := has_c h v hv
  have rv := row_of encN h.pl v 0 hv
  have hpd : h.pl.getD v 0 = h.place v := rfl
  rw [hpd] at rv
  have hlt := o.lt hv hp
  have hsw := fun a b ha hb => swap_i h o.ok a b (h.place v).toNat (h.it.length - 1) ha hb hlt (by omega)
  obtain ⟨s1, s2, s3⟩ := swapH_len h (h.place v).toNat (h.it.length - 1)
  obtain ⟨oc, c1, c2, c3⟩ := o.cut hv hp
  have hst : (h.place v).toNat < h.it.length - 1 → ∀ a b, a = ((h.place v).toNat : Int) → b = ((h.it.length - 1 : Nat) : Int) → Meets Try.prog 61 [IV .i64 a, IV .i64 b, .clo 62 [.ptr 0 3 0 0] [], .clo 63 [.ptr 0 3 0 0] []] 4 (HH (cutH h v)) (.fz (.tup [])) (HH (settleH (cutH h v) (h.place v).toNat (h.it.length - 1))) 4 := fun hh a b ha hb => by
    have := settle_i (cutH h v) oc a b (h.place v).toNat ha (by rw [c1]; exact hb) (by rw [c1]; exact hh) (by omega)
    rwa [c1] at this
  have hd1 : (h.place v).toNat < h.it.length - 1 → dropH h v = settleH (cutH h v) (h.place v).toNat (h.it.length - 1) := fun hh => by unfold dropH; rw [if_pos hh]
  have hd2 : ¬ (h.place v).toNat < h.it.length - 1 → dropH h v = cutH h v := fun hh => by unfold dropH; rw [if_neg hh]
  have q1 : (cutH h v).it = (swapH h (h.place v).toNat (h.it.length - 1)).it.take (h.it.length - 1) := rfl
  have q2 : (cutH h v).pl = (swapH h (h.place v).toNat (h.it.length - 1)).pl.set v (-1) := rfl
  have q3 : (cutH h v).ky = (swapH h (h.place v).toNat (h.it.length - 1)).ky := rfl
  generalize swapH h (h.place v).toNat (h.it.length - 1) = sw at *
  generalize cutH h v = ct at *
  have rsv := row_of encN sw.pl v 0 (by omega)
  refine Meets.intro Try.func65 rfl (Nat.le_of_ble_eq_true rfl) fun C hC => ?_
  simp only [List.map, argEnv, Nat.reduceAdd]
  refine nK2 ?_
  refine s_reg rfl ?_
  first | refine Run.pure (dd := some 4) rfl rfl (op_assign rfl (Opd.const _)) ?_ | refine Run.pure (dd := some 4) rfl rfl (op_junk (.inr rfl)) ?_
  refine Run.nil (FinR.mk ?_)
  refine nK2 ?_
  refine s_reg rfl ?_
  first | refine Run.pure (dd := some 7) rfl rfl (op_move rfl (Opd.tmp _ _ rfl)) ?_ | refine Run.pure (dd := some 7) rfl rfl (op_junk (.inl rfl)) ?_
  first | refine Run.pure (dd := some 8) rfl rfl (op_move rfl (Opd.tmp _ _ rfl)) ?_ | refine Run.pure (dd := some 8) rfl rfl (op_junk (.inl rfl)) ?_
  refine Run.load (dd := some 9) rfl rfl (op_call_read (n := 4) [0, 1, 2, 3] (fun _ => hh) rfl (Opd.func _) (Opds.cons _ _ _ _ (Opd.tmp _ _ rfl) (Opds.cons _ _ _ _ (Opd.tmp _ _ rfl) Opds.nil)) rfl rfl (Lent.of rfl rfl (by exact ⟨⟨rfl, rfl, rfl, tL⟩, ⟨rfl, rfl, rfl, trivial⟩, ⟨rfl, rfl, rfl, trivial⟩, ⟨rfl, rfl, rfl, trivial⟩, trivial⟩) rfl) rfl) ?_
  refine Run.pure (dd := some 10) rfl rfl (op_not rfl (Opd.tmp _ _ rfl)) ?_
  refine Run.nil (FinR.mk ?_)
  refine nK2 ?_
  refine n_cond _ rfl (fun hb => ?_) (fun hb => ?_)
  · exfalso; simp at hb; omega
  · refine nK2 ?_
    refine s_draw mixed ?_
    first | refine Run.pure (dd := some 11) rfl rfl (op_move rfl (Opd.tmp _ _ rfl)) ?_ | refine Run.pure (dd := some 11) rfl rfl (op_junk (.inl rfl)) ?_
    first | refine Run.pure (dd := some 12) rfl rfl (op_nilck_ptr rfl (Opd.tmp _ _ rfl)) ?_ | refine Run.pure (dd := some 12) rfl rfl (op_nilck_fz rfl (Opd.tmp _ _ rfl)) ?_ | refine Run.pure (dd := some 12) rfl rfl (op_nilck_clo rfl (Opd.tmp _ _ rfl)) ?_ | refine Run.pure (dd := some 12) rfl rfl (op_nilck_fclo rfl (Opd.tmp _ _ rfl)) ?_
    first | refine Run.pure (dd := some 13) rfl rfl (op_fld_ptr (by decide) rfl (Opd.tmp _ _ rfl)) ?_ | refine Run.pure (dd := some 13) rfl rfl (op_fld_fz (by decide) rfl (Opd.tmp _ _ rfl) tR) ?_
    first | refine Run.load (dd := some 14) rfl rfl (op_load1_flat rfl (Opd.tmp _ _ rfl) tH rfl) ?_ | refine Run.pure (dd := some 14) rfl rfl (op_load1_fz rfl (Opd.tmp _ _ rfl) rfl) ?_ | refine Run.load (dd := some 14) rfl rfl (op_load1_refs rfl (Opd.tmp _ _ rfl) tH rfl) ?_
    first | refine Run.pure (dd := some 15) rfl rfl (op_move rfl (Opd.tmp _ _ rfl)) ?_ | refine Run.pure (dd := some 15) rfl rfl (op_junk (.inl rfl)) ?_
    first | refine Run.pure (dd := some 16) rfl rfl (op_idx_sl0 _ rfl (Opd.tmp _ _ rfl) (Opd.tmp _ _ rfl) tD) ?_ | refine Run.pure (dd := some 16) rfl rfl (op_idx_fz _ rfl (Opd.tmp _ _ rfl) (Opd.tmp _ _ rfl) tF) ?_
    first | refine Run.load (dd := some 17) rfl rfl (op_load1_flat rfl (Opd.tmp _ _ rfl) tH rfl) ?_ | refine Run.pure (dd := some 17) rfl rfl (op_load1_fz rfl (Opd.tmp _ _ rfl) rfl) ?_ | refine Run.load (dd := some 17) rfl rfl (op_load1_refs rfl (Opd.tmp _ _ rfl) tH rfl) ?_
    first | refine Run.pure (dd := some 18) rfl rfl (op_move rfl (Opd.tmp _ _ rfl)) ?_ | refine Run.pure (dd := some 18) rfl rfl (op_junk (.inl rfl)) ?_
    first | refine Run.pure (dd := some 19) rfl rfl (op_nilck_ptr rfl (Opd.tmp _ _ rfl)) ?_ | refine Run.pure (dd := some 19) rfl rfl (op_nilck_fz rfl (Opd.tmp _ _ rfl)) ?_ | refine Run.pure (dd := some 19) rfl rfl (op_nilck_clo rfl (Opd.tmp _ _ rfl)) ?_ | refine Run.pure (dd := some 19) rfl rfl (op_nilck_fclo rfl (Opd.tmp _ _ rfl)) ?_
    first | refine Run.pure (dd := some 20) rfl rfl (op_fld_ptr (by decide) rfl (Opd.tmp _ _ rfl)) ?_ | refine Run.pure (dd := some 20) rfl rfl (op_fld_fz (by decide) rfl (Opd.tmp _ _ rfl) tR) ?_
    first | refine Run.load (dd := some 21) rfl rfl (op_load1_flat rfl (Opd.tmp _ _ rfl) tH rfl) ?_ | refine Run.pure (dd := some 21) rfl rfl (op_load1_fz rfl (Opd.tmp _ _ rfl) rfl) ?_ | refine Run.load (dd := some 21) rfl rfl (op_load1_refs rfl (Opd.tmp _ _ rfl) tH rfl) ?_
    first | refine Run.pure (dd := some 22) rfl rfl (op_len_fz rfl (by first | exact Opd.tmp _ _ rfl | exact Opd.nil _ _ (Opd.tmp _ _ rfl)) (by first | exact List.length_map _ | rfl)) ?_ | refine Run.pure (dd := some 22) rfl rfl (op_len_sl rfl (Opd.tmp _ _ rfl)) ?_
    refine Run.pure (dd := some 23) rfl rfl (op_sub rfl (Opd.tmp _ _ rfl) (Opd.const _) tI) ?_
    first | refine Run.pure (dd := some 5) rfl rfl (op_assign rfl (Opd.tmp _ _ rfl)) ?_ | refine Run.pure (dd := some 5) rfl rfl (op_junk (.inr rfl)) ?_
    first | refine Run.pure (dd := some 6) rfl rfl (op_assign rfl (Opd.tmp _ _ rfl)) ?_ | refine Run.pure (dd := some 6) rfl rfl (op_junk (.inr rfl)) ?_
    refine Run.nil (FinD.mk (by kernel_rfl) ?_)
    refine nK2 ?_
    refine s_reg rfl ?_
    first | refine Run.pure (dd := some 24) rfl rfl (op_move rfl (Opd.tmp _ _ rfl)) ?_ | refine Run.pure (dd := some 24) rfl rfl (op_junk (.inl rfl)) ?_
    first | refine Run.pure (dd := some 25) rfl rfl (op_move rfl (Opd.tmp _ _ rfl)) ?_ | refine Run.pure (dd := some 25) rfl rfl (op_junk (.inl rfl)) ?_
    first | refine Run.pure (dd := some 26) rfl rfl (op_move rfl (Opd.tmp _ _ rfl)) ?_ | refine Run.pure (dd := some 26) rfl rfl (op_junk (.inl rfl)) ?_
    refine Run.eff (dd := some 27) rfl rfl (op_call (n := 4) (n' := 4) [0, 1, 2, 3] (fun _ => hsw _ _ (by omega) (by omega)) rfl (Opd.func _) (Opds.cons _ _ _ _ (Opd.tmp _ _ rfl) (Opds.cons _ _ _ _ (Opd.tmp _ _ rfl) (Opds.cons _ _ _ _ (Opd.tmp _ _ rfl) Opds.nil))) rfl rfl (Lent.of rfl rfl (by exact ⟨⟨rfl, rfl, rfl, tL⟩, ⟨rfl, rfl, rfl, trivial⟩, ⟨rfl, rfl, rfl, trivial⟩, ⟨rfl, rfl, rfl, trivial⟩, trivial⟩) rfl) rfl rfl rfl rfl rfl) ?_
    refine Run.nil (FinR.mk ?_)
    refine nK2 ?_
    refine s_reg rfl ?_
    first | refine Run.pure (dd := some 28) rfl rfl (op_move rfl (Opd.tmp _ _ rfl)) ?_ | refine Run.pure (dd := some 28) rfl rfl (op_junk (.inl rfl)) ?_
    first | refine Run.pure (dd := some 29) rfl rfl (op_move rfl (Opd.tmp _ _ rfl)) ?_ | refine Run.pure (dd := some 29) rfl rfl (op_junk (.inl rfl)) ?_
    first | refine Run.pure (dd := some 30) rfl rfl (op_nilck_ptr rfl (Opd.tmp _ _ rfl)) ?_ | refine Run.pure (dd := some 30) rfl rfl (op_nilck_fz rfl (Opd.tmp _ _ rfl)) ?_ | refine Run.pure (dd := some 30) rfl rfl (op_nilck_clo rfl (Opd.tmp _ _ rfl)) ?_ | refine Run.pure (dd := some 30) rfl rfl (op_nilck_fclo rfl (Opd.tmp _ _ rfl)) ?_
    first | refine Run.pure (dd := some 31) rfl rfl (op_fld_ptr (by decide) rfl (Opd.tmp _ _ rfl)) ?_ | refine Run.pure (dd := some 31) rfl rfl (op_fld_fz (by decide) rfl (Opd.tmp _ _ rfl) tR) ?_
    first | refine Run.load (dd := some 32) rfl rfl (op_load1_flat rfl (Opd.tmp _ _ rfl) tH rfl) ?_ | refine Run.pure (dd := some 32) rfl rfl (op_load1_fz rfl (Opd.tmp _ _ rfl) rfl) ?_ | refine Run.load (dd := some 32) rfl rfl (op_load1_refs rfl (Opd.tmp _ _ rfl) tH rfl) ?_
    first | refine Run.pure (dd := some 33) rfl rfl (op_move rfl (Opd.tmp _ _ rfl)) ?_ | refine Run.pure (dd := some 33) rfl rfl (op_junk (.inl rfl)) ?_
    refine Run.eff (dd := some 34) rfl rfl (op_slice_sl (h := h.it.length - 1) rfl (Opd.tmp _ _ rfl) (Bnd.yes _ _ _ _ _ (Opd.tmp _ _ rfl) (by intro _; omega)) (by intro _; omega) rfl (by rw [List.length_map])) ?_
    first | refine Run.pure (dd := some 35) rfl rfl (op_nilck_ptr rfl (Opd.tmp _ _ rfl)) ?_ | refine Run.pure (dd := some 35) rfl rfl (op_nilck_fz rfl (Opd.tmp _ _ rfl)) ?_ | refine Run.pure (dd := some 35) rfl rfl (op_nilck_clo rfl (Opd.tmp _ _ rfl)) ?_ | refine Run.pure (dd := some 35) rfl rfl (op_nilck_fclo rfl (Opd.tmp _ _ rfl)) ?_
    first | refine Run.pure (dd := some 36) rfl rfl (op_fld_ptr (by decide) rfl (Opd.tmp _ _ rfl)) ?_ | refine Run.pure (dd := some 36) rfl rfl (op_fld_fz (by decide) rfl (Opd.tmp _ _ rfl) tR) ?_
    first | refine Run.eff (dd := none) rfl rfl (op_store_flat rfl (Opd.tmp _ _ rfl) (Opd.tmp _ _ rfl) tC rfl rfl (by first | rfl | assumption) tS) ?_ | refine Run.eff (dd := none) rfl rfl (op_store_refs rfl (Opd.tmp _ _ rfl) (Opd.tmp _ _ rfl) tP rfl rfl rfl tS) ?_
    refine Run.nil (FinR.mk ?_)
    refine nK2 ?_
    refine s_reg rfl ?_
    first | refine Run.pure (dd := some 37) rfl rfl (op_move rfl (Opd.tmp _ _ rfl)) ?_ | refine Run.pure (dd := some 37) rfl rfl (op_junk (.inl rfl)) ?_
    first | refine Run.pure (dd := some 38) rfl rfl (op_nilck_ptr rfl (Opd.tmp _ _ rfl)) ?_ | refine Run.pure (dd := some 38) rfl rfl (op_nilck_fz rfl (Opd.tmp _ _ rfl)) ?_ | refine Run.pure (dd := some 38) rfl rfl (op_nilck_clo rfl (Opd.tmp _ _ rfl)) ?_ | refine Run.pure (dd := some 38) rfl rfl (op_nilck_fclo rfl (Opd.tmp _ _ rfl)) ?_
    first | refine Run.pure (dd := some 39) rfl rfl (op_fld_ptr (by decide) rfl (Opd.tmp _ _ rfl)) ?_ | refine Run.pure (dd := some 39) rfl rfl (op_fld_fz (by decide) rfl (Opd.tmp _ _ rfl) tR) ?_
    first | refine Run.load (dd := some 40) rfl rfl (op_load1_flat rfl (Opd.tmp _ _ rfl) tH rfl) ?_ | refine Run.pure (dd := some 40) rfl rfl (op_load1_fz rfl (Opd.tmp _ _ rfl) rfl) ?_ | refine Run.load (dd := some 40) rfl rfl (op_load1_refs rfl (Opd.tmp _ _ rfl) tH rfl) ?_
    first | refine Run.pure (dd := some 41) rfl rfl (op_move rfl (Opd.tmp _ _ rfl)) ?_ | refine Run.pure (dd := some 41) rfl rfl (op_junk (.inl rfl)) ?_
    refine Run.pure (dd := some 42) rfl rfl (op_idx_sl0 v rfl (Opd.tmp _ _ rfl) (Opd.tmp _ _ rfl) (by intro _; exact ⟨rfl, by omega⟩)) ?_
    first | refine Run.eff (dd := none) rfl rfl (op_store_flat rfl (Opd.tmp _ _ rfl) (Opd.const _) tC rfl rfl (by first | rfl | assumption) tS) ?_ | refine Run.eff (dd := none) rfl rfl (op_store_refs rfl (Opd.tmp _ _ rfl) (Opd.const _) tP rfl rfl rfl tS) ?_
    refine Run.nil (FinR.mk ?_)
    refine nK2 ?_
    refine s_reg rfl ?_
    first | refine Run.pure (dd := some 43) rfl rfl (op_move rfl (Opd.tmp _ _ rfl)) ?_ | refine Run.pure (dd := some 43) rfl rfl (op_junk (.inl rfl)) ?_
    first | refine Run.pure (dd := some 44) rfl rfl (op_move rfl (Opd.tmp _ _ rfl)) ?_ | refine Run.pure (dd := some 44) rfl rfl (op_junk (.inl rfl)) ?_
    refine Run.pure (dd := some 45) rfl rfl (op_lss rfl (Opd.tmp _ _ rfl) (Opd.tmp _ _ rfl)) ?_
    refine Run.nil (FinR.mk ?_)
    refine nK2 ?_
    refine Next.weak [0, 1, 2, 3, 4] [] (by rfl) (keepsN hC _ rfl) (G' := [(0, .ptr 0 3 0 0), (5, IV .i64 (h.place v)), (6, IV .i64 ((h.it.length : Int) - 1)), (45, BV (decide (h.place v < (h.it.length : Int) - 1)))]) (H' := HX ct) (by repeat (first | exact trivial | refine ⟨⟨_, rfl, .inl ⟨rfl, rfl⟩⟩, ?_⟩ | refine ⟨⟨_, rfl, .inl ⟨slEq rfl tN, rfl⟩⟩, ?_⟩ | refine ⟨⟨_, rfl, .inl ⟨ivEq tX, rfl⟩⟩, ?_⟩)) (by exact ⟨ent_same rfl rfl (by rw [c1, q2, q3]; simp only [List.length_set]; rfl) tL, ⟨ent_same rfl rfl (flEq rfl (by rw [q1, List.map_take])) trivial, ⟨ent_same rfl rfl (flEq rfl (by rw [q2, List.map_set]; rfl)) trivial, ⟨ent_same rfl rfl (flEq rfl (by rw [q3])) trivial, trivial⟩⟩⟩⟩) (fun _ h => by simp at h) ?_
    refine nK2 ?_
    refine n_cond _ rfl (fun hb => ?_) (fun hb => ?_)
    · have hlt2 : (h.place v).toNat < h.it.length - 1 := by simp at hb; omega
      rw [hd1 hlt2]
      refine nK2 ?_
      refine s_reg rfl ?_
      first | refine Run.pure (dd := some 46) rfl rfl (op_move rfl (Opd.tmp _ _ rfl)) ?_ | refine Run.pure (dd := some 46) rfl rfl (op_junk (.inl rfl)) ?_
      first | refine Run.pure (dd := some 47) rfl rfl (op_move rfl (Opd.tmp _ _ rfl)) ?_ | refine Run.pure (dd := some 47) rfl rfl (op_junk (.inl rfl)) ?_
      first | refine Run.pure (dd := some 48) rfl rfl (op_move rfl (Opd.tmp _ _ rfl)) ?_ | refine Run.pure (dd := some 48) rfl rfl (op_junk (.inl rfl)) ?_
      refine Run.pure (dd := some 49) rfl rfl (op_makeFunc rfl (Opds.cons _ _ _ _ (Opd.tmp _ _ rfl) Opds.nil) Opds.nil) ?_
      first | refine Run.pure (dd := some 50) rfl rfl (op_move rfl (Opd.tmp _ _ rfl)) ?_ | refine Run.pure (dd := some 50) rfl rfl (op_junk (.inl rfl)) ?_
      refine Run.pure (dd := some 51) rfl rfl (op_makeFunc rfl (Opds.cons _ _ _ _ (Opd.tmp _ _ rfl) Opds.nil) Opds.nil) ?_
      refine Run.eff (dd := some 52) rfl rfl (op_call (n := 4) (n' := 4) [0, 4, 2, 3] (fun _ => hst hlt2 _ _ (by omega) (by omega)) rfl (Opd.func _) (Opds.cons _ _ _ _ (Opd.tmp _ _ rfl) (Opds.cons _ _ _ _ (Opd.tmp _ _ rfl) (Opds.cons _ _ _ _ (Opd.tmp _ _ rfl) (Opds.cons _ _ _ _ (Opd.tmp _ _ rfl) Opds.nil)))) rfl rfl (Lent.of rfl rfl (by exact ⟨⟨rfl, rfl, rfl, tL⟩, ⟨rfl, rfl, rfl, trivial⟩, ⟨rfl, rfl, rfl, trivial⟩, ⟨rfl, rfl, rfl, trivial⟩, trivial⟩) rfl) rfl rfl rfl rfl rfl) ?_
      refine Run.nil (FinR.mk ?_)
      refine nK2 ?_
      refine s_reg rfl ?_
      first | refine Run.pure (dd := some 4) rfl rfl (op_assign rfl (Opd.const _)) ?_ | refine Run.pure (dd := some 4) rfl rfl (op_junk (.inr rfl)) ?_
      refine Run.nil (FinR.mk ?_)
      refine nK2 ?_
      refine Next.weak [0, 1, 2, 3, 4] [] (by rfl) (keepsN hC _ rfl) (G' := [(4, BV true)]) (H' := HX (settleH ct (h.place v).toNat (h.it.length - 1))) (by repeat (first | exact trivial | refine ⟨⟨_, rfl, .inl ⟨rfl, rfl⟩⟩, ?_⟩ | refine ⟨⟨_, rfl, .inl ⟨slEq rfl tN, rfl⟩⟩, ?_⟩ | refine ⟨⟨_, rfl, .inl ⟨ivEq tX, rfl⟩⟩, ?_⟩)) (by exact ⟨ent_same rfl rfl rfl tL, ⟨ent_same rfl rfl rfl tL, ⟨ent_same rfl rfl rfl tL, ⟨ent_same rfl rfl rfl tL, trivial⟩⟩⟩⟩) (fun _ h => by simp at h) ?_
      exact n_out1 rfl (by rfl) rfl rfl
    · have hlt2 : ¬ (h.place v).toNat < h.it.length - 1 := by simp at hb; omega
      rw [hd2 hlt2]
      refine nK2 ?_
      refine s_reg rfl ?_
      first | refine Run.pure (dd := some 4) rfl rfl (op_assign rfl (Opd.const _)) ?_ | refine Run.pure (dd := some 4) rfl rfl (op_junk (.inr rfl)) ?_
      refine Run.nil (FinR.mk ?_)
      refine nK2 ?_
      refine Next.weak [0, 1, 2, 3, 4] [] (by rfl) (keepsN hC _ rfl) (G' := [(4, BV true)]) (H' := HX ct) (by repeat (first | exact trivial | refine ⟨⟨_, rfl, .inl ⟨rfl, rfl⟩⟩, ?_⟩ | refine ⟨⟨_, rfl, .inl ⟨slEq rfl tN, rfl⟩⟩, ?_⟩ | refine ⟨⟨_, rfl, .inl ⟨ivEq tX, rfl⟩⟩, ?_⟩)) (by exact ⟨ent_same rfl rfl rfl tL, ⟨ent_same rfl rfl rfl tL, ⟨ent_same rfl rfl rfl tL, ⟨ent_same rfl rfl rfl tL, trivial⟩⟩⟩⟩) (fun _ h => by simp at h) ?_
      exact n_out1 rfl (by rfl) rfl rfl
end Go.Proofs.Ytgbfkpcigipniaa
namespace Go.Proofs.Ytgbfkpcigipniaa
open Go Go.RT Go.Proofs Go.Pl
set_option linter.all false
set_option maxRecDepth 20000
theorem pop_none (h : Hq) (o : HI h) (he : h.it = []) : Meets Try.prog 49 [.ptr 0 3 0 0] 4 (HH h) (.fz (.tup [If .i64 0, If .i64 0, Bf false])) (HH h) 4 := by
  have hmn := min_c h o.ok
  rw [if_pos he, show h.item 0 = 0 by unfold Hq.item; rw [he]; rfl, show (!h.it.isEmpty) = false by rw [he]; rfl, show ((0 : Nat) : Int) = 0 from rfl] at hmn
  refine Meets.intro Try.func49 rfl (Nat.le_of_ble_eq_true rfl) fun C hC => ?_
  simp only [List.map, argEnv, Nat.reduceAdd]
  refine nK2 ?_
  refine s_reg rfl ?_
  first | refine Run.pure (dd := some 2) rfl rfl (op_assign rfl (Opd.const _)) ?_ | refine Run.pure (dd := some 2) rfl rfl (op_junk (.inr rfl)) ?_
  first | refine Run.pure (dd := some 3) rfl rfl (op_assign rfl (Opd.const _)) ?_ | refine Run.pure (dd := some 3) rfl rfl (op_junk (.inr rfl)) ?_
  first | refine Run.pure (dd := some 4) rfl rfl (op_assign rfl (Opd.const _)) ?_ | refine Run.pure (dd := some 4) rfl rfl (op_junk (.inr rfl)) ?_
  refine Run.nil (FinR.mk ?_)
  refine nK2 ?_
  refine s_reg rfl ?_
  first | refine Run.pure (dd := some 6) rfl rfl (op_move rfl (Opd.tmp _ _ rfl)) ?_ | refine Run.pure (dd := some 6) rfl rfl (op_junk (.inl rfl)) ?_
  refine Run.load (dd := some 7) rfl rfl (op_call_read (n := 4) [0, 1, 2, 3] (fun _ => hmn) rfl (Opd.func _) (Opds.cons _ _ _ _ (Opd.tmp _ _ rfl) Opds.nil) rfl rfl (Lent.of rfl rfl (by exact ⟨⟨rfl, rfl, rfl, tL⟩, ⟨rfl, rfl, rfl, trivial⟩, ⟨rfl, rfl, rfl, trivial⟩, ⟨rfl, rfl, rfl, trivial⟩, trivial⟩) rfl) rfl) ?_
  first | refine Run.pure (dd := some 5) rfl rfl (op_move rfl (Opd.tmp _ _ rfl)) ?_ | refine Run.pure (dd := some 5) rfl rfl (op_junk (.inl rfl)) ?_
  first | refine Run.pure (dd := some 8) rfl rfl (op_extract_fz rfl (Opd.tmp _ _ rfl) rfl) ?_ | refine Run.pure (dd := some 8) rfl rfl (op_extract rfl (Opd.tmp _ _ rfl) rfl) ?_
  first | refine Run.pure (dd := some 9) rfl rfl (op_extract_fz rfl (Opd.tmp _ _ rfl) rfl) ?_ | refine Run.pure (dd := some 9) rfl rfl (op_extract rfl (Opd.tmp _ _ rfl) rfl) ?_
  first | refine Run.pure (dd := some 10) rfl rfl (op_extract_fz rfl (Opd.tmp _ _ rfl) rfl) ?_ | refine Run.pure (dd := some 10) rfl rfl (op_extract rfl (Opd.tmp _ _ rfl) rfl) ?_
  first | refine Run.pure (dd := some 2) rfl rfl (op_assign rfl (Opd.tmp _ _ rfl)) ?_ | refine Run.pure (dd := some 2) rfl rfl (op_junk (.inr rfl)) ?_
  first | refine Run.pure (dd := some 3) rfl rfl (op_assign rfl (Opd.tmp _ _ rfl)) ?_ | refine Run.pure (dd := some 3) rfl rfl (op_junk (.inr rfl)) ?_
  first | refine Run.pure (dd := some 4) rfl rfl (op_assign rfl (Opd.tmp _ _ rfl)) ?_ | refine Run.pure (dd := some 4) rfl rfl (op_junk (.inr rfl)) ?_
  refine Run.nil (FinR.mk ?_)
  refine nK2 ?_
  refine s_reg rfl ?_
  first | refine Run.pure (dd := some 11) rfl rfl (op_move rfl (Opd.tmp _ _ rfl)) ?_ | refine Run.pure (dd := some 11) rfl rfl (op_junk (.inl rfl)) ?_
  refine Run.nil (FinR.mk ?_)
  refine nK2 ?_
  refine n_cond _ rfl (fun hb => ?_) (fun hb => ?_)
  · exfalso; simp at hb
  · refine nK2 ?_
    refine s_reg rfl ?_
    first | refine Run.pure (dd := some 15) rfl rfl (op_move rfl (Opd.tmp _ _ rfl)) ?_ | refine Run.pure (dd := some 15) rfl rfl (op_junk (.inl rfl)) ?_
    first | refine Run.pure (dd := some 16) rfl rfl (op_move rfl (Opd.tmp _ _ rfl)) ?_ | refine Run.pure (dd := some 16) rfl rfl (op_junk (.inl rfl)) ?_
    first | refine Run.pure (dd := some 17) rfl rfl (op_move rfl (Opd.tmp _ _ rfl)) ?_ | refine Run.pure (dd := some 17) rfl rfl (op_junk (.inl rfl)) ?_
    first | refine Run.pure (dd := some 2) rfl rfl (op_assign rfl (Opd.tmp _ _ rfl)) ?_ | refine Run.pure (dd := some 2) rfl rfl (op_junk (.inr rfl)) ?_
    first | refine Run.pure (dd := some 3) rfl rfl (op_assign rfl (Opd.tmp _ _ rfl)) ?_ | refine Run.pure (dd := some 3) rfl rfl (op_junk (.inr rfl)) ?_
    first | refine Run.pure (dd := some 4) rfl rfl (op_assign rfl (Opd.tmp _ _ rfl)) ?_ | refine Run.pure (dd := some 4) rfl rfl (op_junk (.inr rfl)) ?_
    refine Run.nil (FinR.mk ?_)
    refine nK2 ?_
    refine Next.weak [0, 1, 2, 3] [] (by rfl) (keepsN hC _ rfl) (G' := [(2, IV .i64 0), (3, IV .i64 0), (4, BV false)]) (H' := HH h) (by repeat (first | exact trivial | refine ⟨⟨_, rfl, .inl ⟨rfl, rfl⟩⟩, ?_⟩ | refine ⟨⟨_, rfl, .inl ⟨slEq rfl tN, rfl⟩⟩, ?_⟩ | refine ⟨⟨_, rfl, .inl ⟨ivEq tX, rfl⟩⟩, ?_⟩)) (by exact ⟨ent_same rfl rfl rfl tL, ⟨ent_same rfl rfl rfl tL, ⟨ent_same rfl rfl rfl tL, ⟨ent_same rfl rfl rfl tL, trivial⟩⟩⟩⟩) (fun _ h => by simp at h) ?_
    exact n_out3 rfl (by rfl) rfl rfl (.inl ⟨_, _, _, rfl, rfl, rfl, rfl⟩)
theorem pop_some (h : Hq) (o : HI h) (hne : 0 < h.it.length) (hm : h.it.length ≤ 1999999) : Meets Try.prog 49 [.ptr 0 3 0 0] 4 (HH h) (.fz (.tup [If .i64 (h.item 0 : Nat), If .i64 (h.key (h.item 0)), Bf true])) (HX (dropH h (h.item 0))) 5 := by
  have hmn := min_c h o.ok
  rw [if_neg (fun e => by rw [e] at hne; exact absurd hne (by decide)), show (!h.it.isEmpty) = true by cases hq : h.it <;> simp_all] at hmn
  have hd := drop_c h o (h.item 0) (o.ok.item hne) (by rw [o.inv 0 hne]; decide) hm
  generalize h.item 0 = v at *
  generalize h.key v = k at *
  generalize dropH h v = h' at *
  refine Meets.intro Try.func49 rfl (Nat.le_of_ble_eq_true rfl) fun C hC => ?_
  simp only [List.map, argEnv, Nat.reduceAdd]
  refine nK2 ?_
  refine s_reg rfl ?_
  first | refine Run.pure (dd := some 2) rfl rfl (op_assign rfl (Opd.const _)) ?_ | refine Run.pure (dd := some 2) rfl rfl (op_junk (.inr rfl)) ?_
  first | refine Run.pure (dd := some 3) rfl rfl (op_assign rfl (Opd.const _)) ?_ | refine Run.pure (dd := some 3) rfl rfl (op_junk (.inr rfl)) ?_
  first | refine Run.pure (dd := some 4) rfl rfl (op_assign rfl (Opd.const _)) ?_ | refine Run.pure (dd := some 4) rfl rfl (op_junk (.inr rfl)) ?_
  refine Run.nil (FinR.mk ?_)
  refine nK2 ?_
  refine s_reg rfl ?_
  first | refine Run.pure (dd := some 6) rfl rfl (op_move rfl (Opd.tmp _ _ rfl)) ?_ | refine Run.pure (dd := some 6) rfl rfl (op_junk (.inl rfl)) ?_
  refine Run.load (dd := some 7) rfl rfl (op_call_read (n := 4) [0, 1, 2, 3] (fun _ => hmn) rfl (Opd.func _) (Opds.cons _ _ _ _ (Opd.tmp _ _ rfl) Opds.nil) rfl rfl (Lent.of rfl rfl (by exact ⟨⟨rfl, rfl, rfl, tL⟩, ⟨rfl, rfl, rfl, trivial⟩, ⟨rfl, rfl, rfl, trivial⟩, ⟨rfl, rfl, rfl, trivial⟩, trivial⟩) rfl) rfl) ?_
  first | refine Run.pure (dd := some 5) rfl rfl (op_move rfl (Opd.tmp _ _ rfl)) ?_ | refine Run.pure (dd := some 5) rfl rfl (op_junk (.inl rfl)) ?_
  first | refine Run.pure (dd := some 8) rfl rfl (op_extract_fz rfl (Opd.tmp _ _ rfl) rfl) ?_ | refine Run.pure (dd := some 8) rfl rfl (op_extract rfl (Opd.tmp _ _ rfl) rfl) ?_
  first | refine Run.pure (dd := some 9) rfl rfl (op_extract_fz rfl (Opd.tmp _ _ rfl) rfl) ?_ | refine Run.pure (dd := some 9) rfl rfl (op_extract rfl (Opd.tmp _ _ rfl) rfl) ?_
  first | refine Run.pure (dd := some 10) rfl rfl (op_extract_fz rfl (Opd.tmp _ _ rfl) rfl) ?_ | refine Run.pure (dd := some 10) rfl rfl (op_extract rfl (Opd.tmp _ _ rfl) rfl) ?_
  first | refine Run.pure (dd := some 2) rfl rfl (op_assign rfl (Opd.tmp _ _ rfl)) ?_ | refine Run.pure (dd := some 2) rfl rfl (op_junk (.inr rfl)) ?_
  first | refine Run.pure (dd := some 3) rfl rfl (op_assign rfl (Opd.tmp _ _ rfl)) ?_ | refine Run.pure (dd := some 3) rfl rfl (op_junk (.inr rfl)) ?_
  first | refine Run.pure (dd := some 4) rfl rfl (op_assign rfl (Opd.tmp _ _ rfl)) ?_ | refine Run.pure (dd := some 4) rfl rfl (op_junk (.inr rfl)) ?_
  refine Run.nil (FinR.mk ?_)
  refine nK2 ?_
  refine s_reg rfl ?_
  first | refine Run.pure (dd := some 11) rfl rfl (op_move rfl (Opd.tmp _ _ rfl)) ?_ | refine Run.pure (dd := some 11) rfl rfl (op_junk (.inl rfl)) ?_
  refine Run.nil (FinR.mk ?_)
  refine nK2 ?_
  refine n_cond _ rfl (fun hb => ?_) (fun hb => ?_)
  · refine nK2 ?_
    refine s_reg rfl ?_
    first | refine Run.pure (dd := some 12) rfl rfl (op_move rfl (Opd.tmp _ _ rfl)) ?_ | refine Run.pure (dd := some 12) rfl rfl (op_junk (.inl rfl)) ?_
    first | refine Run.pure (dd := some 13) rfl rfl (op_move rfl (Opd.tmp _ _ rfl)) ?_ | refine Run.pure (dd := some 13) rfl rfl (op_junk (.inl rfl)) ?_
    refine Run.eff (dd := some 14) rfl rfl (op_call (n := 4) (n' := 5) [0, 1, 2, 3] (fun _ => hd) rfl (Opd.func _) (Opds.cons _ _ _ _ (Opd.tmp _ _ rfl) (Opds.cons _ _ _ _ (Opd.tmp _ _ rfl) Opds.nil)) rfl rfl (Lent.of rfl rfl (by exact ⟨⟨rfl, rfl, rfl, tL⟩, ⟨rfl, rfl, rfl, trivial⟩, ⟨rfl, rfl, rfl, trivial⟩, ⟨rfl, rfl, rfl, trivial⟩, trivial⟩) rfl) rfl rfl rfl rfl rfl) ?_
    refine Run.nil (FinR.mk ?_)
    refine nK2 ?_
    refine s_reg rfl ?_
    first | refine Run.pure (dd := some 15) rfl rfl (op_move rfl (Opd.tmp _ _ rfl)) ?_ | refine Run.pure (dd := some 15) rfl rfl (op_junk (.inl rfl)) ?_
    first | refine Run.pure (dd := some 16) rfl rfl (op_move rfl (Opd.tmp _ _ rfl)) ?_ | refine Run.pure (dd := some 16) rfl rfl (op_junk (.inl rfl)) ?_
    first | refine Run.pure (dd := some 17) rfl rfl (op_move rfl (Opd.tmp _ _ rfl)) ?_ | refine Run.pure (dd := some 17) rfl rfl (op_junk (.inl rfl)) ?_
    first | refine Run.pure (dd := some 2) rfl rfl (op_assign rfl (Opd.tmp _ _ rfl)) ?_ | refine Run.pure (dd := some 2) rfl rfl (op_junk (.inr rfl)) ?_
    first | refine Run.pure (dd := some 3) rfl rfl (op_assign rfl (Opd.tmp _ _ rfl)) ?_ | refine Run.pure (dd := some 3) rfl rfl (op_junk (.inr rfl)) ?_
    first | refine Run.pure (dd := some 4) rfl rfl (op_assign rfl (Opd.tmp _ _ rfl)) ?_ | refine Run.pure (dd := some 4) rfl rfl (op_junk (.inr rfl)) ?_
    refine Run.nil (FinR.mk ?_)
    refine nK2 ?_
    refine Next.weak [0, 1, 2, 3, 4] [] (by rfl) (keepsN hC _ rfl) (G' := [(2, IV .i64 v), (3, IV .i64 k), (4, BV true)]) (H' := HX h') (by repeat (first | exact trivial | refine ⟨⟨_, rfl, .inl ⟨rfl, rfl⟩⟩, ?_⟩ | refine ⟨⟨_, rfl, .inl ⟨slEq rfl tN, rfl⟩⟩, ?_⟩ | refine ⟨⟨_, rfl, .inl ⟨ivEq tX, rfl⟩⟩, ?_⟩)) (by exact ⟨ent_same rfl rfl rfl tL, ⟨ent_same rfl rfl rfl tL, ⟨ent_same rfl rfl rfl tL, ⟨ent_same rfl rfl rfl tL, trivial⟩⟩⟩⟩) (fun _ h => by simp at h) ?_
    exact n_out3 rfl (by rfl) rfl rfl (.inl ⟨_, _, _, rfl, rfl, rfl, rfl⟩)
  · exfalso; simp at hb
end Go.Proofs.Ytgbfkpcigipniaa
/- The engine, part 30: a region that draws, order by order. -/
namespace Go.RT
section
variable {P : Program} {ops : Array Oper} {N : Nat} {C : Cx} {Q : Exit → Act → World → Prop} {X : Array Bool} {G : Env} {H : Hp} {nx : Nat}
/-- from any point of a region that draws -/
def AnyN (P : Program) (ops : Array Oper) (N : Nat) (C : Cx) (Q : Exit → Act → World → Prop) (X : Array Bool) (G : Env) (H : Hp) (nx : Nat) : Prop :=
  ∀ fuel a w, (X.toList.filter (!·)).length ≤ fuel → Rel C N G H nx a w → wpAny P .any ops Q fuel X a w
def StepN (P : Program) (ops : Array Oper) (N : Nat) (C : Cx) (Q : Exit → Act → World → Prop) (X : Array Bool) (G : Env) (H : Hp) (nx : Nat) (i : Nat) : Prop :=
  ∃ o, ops[i]? = some o ∧ o.guard = none ∧ (match o.dst with | some d => Nat.blt d N | none => true) = true ∧ Nat.blt ((X.setIfInBounds i true).toList.filter (!·)).length (X.toList.filter (!·)).length = true ∧
    ∃ p H1 nx1, OpS P o true G H nx p H1 nx1 ∧ AnyN P ops N C Q (X.setIfInBounds i true) (gput G o.dst p) H1 nx1
theorem AnyN.nil (hr : Region.ready .any ops X = []) (h : Next C N G H nx (Q .normal)) : AnyN P ops N C Q X G H nx := fun fuel a w _ hR => by
  cases fuel with
  | zero => exact ⟨hr, h a w hR⟩
  | succ fuel => exact ⟨fun _ => h a w hR, fun i hi => by rw [hr] at hi; cases hi⟩
theorem AnyN.step {L : List Nat} (hr : Region.ready .any ops X = L) (hne : L ≠ []) (h : ∀ i ∈ L, StepN P ops N C Q X G H nx i) : AnyN P ops N C Q X G H nx := fun fuel a w hf hR => by
  cases fuel with
  | zero =>
    exfalso
    cases L with
    | nil => exact hne rfl
    | cons i L =>
      obtain ⟨o, _, _, _, h4, _⟩ := h i (by simp)
      have := Nat.le_of_ble_eq_true h4
      omega
  | succ fuel =>
    refine ⟨fun e => absurd (hr.symm.trans e) hne, fun i hi => ?_⟩
    obtain ⟨o, h1, h2, h3, h4, p, H1, nx1, h5, h6⟩ := h i (by rw [← hr]; exact hi)
    have h4' := Nat.le_of_ble_eq_true h4
    obtain ⟨S, m, hm, hsl⟩ := hR.mem
    unfold wpOp
    simp only [h1]
    rw [if_pos (by simp [Region.wanted, h2])]
    refine .inl (h5.run C S m a w hm rfl (fun t q _ hq => hsl t q hq) _ _ fun v w' S' m' hm' hle hv => ?_)
    refine h6 fuel _ _ (by omega) ⟨by rw [put_defers]; exact hR.defers, by rw [put_size]; exact hR.size, S', m', hm', fun t q hq => ?_⟩
    rw [look_gput] at hq
    by_cases hd : o.dst = some t
    · rw [if_pos hd] at hq; cases hq
      rw [hd]
      have hlt : t < N := by rw [hd] at h3; exact Nat.le_of_ble_eq_true h3
      exact ⟨v, put_self (by rw [hR.size]; exact hlt), hv⟩
    · rw [if_neg hd] at hq
      obtain ⟨u, hu, hr2⟩ := hsl t q hq
      exact ⟨u, (put_at hd).trans hu, hr2.mono hle⟩
theorem StepN.mk {i : Nat} {o : Oper} {p : PV} {H1 : Hp} {nx1 : Nat} (h1 : ops[i]? = some o) (h5 : OpS P o true G H nx p H1 nx1) (h2 : o.guard = none) (h3 : (match o.dst with | some d => Nat.blt d N | none => true) = true) (h4 : Nat.blt ((X.setIfInBounds i true).toList.filter (!·)).length (X.toList.filter (!·)).length = true)
    (h6 : AnyN P ops N C Q (X.setIfInBounds i true) (gput G o.dst p) H1 nx1) : StepN P ops N C Q X G H nx i := ⟨o, h1, h2, h3, h4, p, H1, nx1, h5, h6⟩
theorem AnyN.one (i : Nat) (hr : Region.ready .any ops X = [i]) (h : StepN P ops N C Q X G H nx i) : AnyN P ops N C Q X G H nx := .step hr (by simp) fun j hj => by simp at hj; subst hj; exact h
theorem AnyN.two (i j : Nat) (hr : Region.ready .any ops X = [i, j]) (h : StepN P ops N C Q X G H nx i) (h2 : StepN P ops N C Q X G H nx j) : AnyN P ops N C Q X G H nx := .step hr (by simp) fun k hk => by
  simp at hk; rcases hk with rfl | rfl
  · exact h
  · exact h2
theorem draw_tree {id : Nat} {l : List Oper} (hm : P.follows .mixedOrders = true) (h : AnyN P l.toArray N C Q (Array.replicate l.toArray.size false) G H nx) : Next C N G H nx ((Code.region id l.toArray true).wp P Q) := by
  intro a w hR
  obtain ⟨S, m, hmem, hslots⟩ := hR.mem
  have hle : Le S m w S m { w with drawn := w.drawn + 1 } := ⟨fun _ h => h, fun _ _ => rfl, fun _ _ h => h, fun _ _ h => h⟩
  exact wp_region_any hm (h _ _ _ (by simp) ⟨hR.defers, hR.size, S, m, hmem.drew, fun t q hq => (hslots t q hq).mono hle⟩)
theorem draw_tree2 {id : Nat} {l : List Oper} (G1 : Env) (H1 : Hp) (nx1 : Nat) (hm : P.follows .mixedOrders = true) (h : Next C N G1 H1 nx1 (Q .normal) → AnyN P l.toArray N C Q (Array.replicate l.toArray.size false) G H nx) (hK : Next C N G1 H1 nx1 (Q .normal)) : Next C N G H nx ((Code.region id l.toArray true).wp P Q) := draw_tree hm (h hK)
end
end Go.RT
namespace Go.Pl
open Go Go.RT
set_option linter.all false
/- heap order -/
def Hq.kk (h : Hq) (i : Nat) : Int × Nat := (h.key (h.item i), h.item i)
def le2 (a b : Int × Nat) : Prop := a.1 < b.1 ∨ a.1 = b.1 ∧ a.2 ≤ b.2
theorem le2_trans {a b c : Int × Nat} (h : le2 a b) (g : le2 b c) : le2 a c := by unfold le2 at *; omega
theorem le2_refl (a : Int × Nat) : le2 a a := by unfold le2; omega
theorem le2_total {a b : Int × Nat} (h : ¬ le2 a b) : le2 b a := by unfold le2 at *; omega
theorem lessH_iff (h : Hq) (i j : Nat) : lessH h i j = true ↔ ¬ le2 (h.kk j) (h.kk i) := by
  simp only [lessH, le2, Hq.kk, Bool.or_eq_true, Bool.and_eq_true, decide_eq_true_eq]; omega
def HOrd (h : Hq) (n : Nat) : Prop := ∀ j, 0 < j → j < n → le2 (h.kk ((j - 1) / 2)) (h.kk j)
structure UpI (h : Hq) (i n : Nat) : Prop where
  a : ∀ j, 0 < j → j < n → j ≠ i → (j - 1) / 2 ≠ i → le2 (h.kk ((j - 1) / 2)) (h.kk j)
  b : ∀ j, 0 < j → j < n → (j - 1) / 2 = i → 0 < i → le2 (h.kk ((i - 1) / 2)) (h.kk j)
structure DnI (h : Hq) (i n : Nat) : Prop where
  a : ∀ j, 0 < j → j < n → (j - 1) / 2 ≠ i → le2 (h.kk ((j - 1) / 2)) (h.kk j)
  b : ∀ j, 0 < j → j < n → (j - 1) / 2 = i → 0 < i → le2 (h.kk ((i - 1) / 2)) (h.kk j)
theorem kk_swap (h : Hq) {i j : Nat} (hi : i < h.it.length) (hj : j < h.it.length) (k : Nat) : (swapH h i j).kk k = if j = k then h.kk i else if i = k then h.kk j else h.kk k := by
  have e : ∀ v, (swapH h i j).key v = h.key v := fun v => rfl
  unfold Hq.kk
  rw [item_swap h hi hj]
  by_cases e1 : j = k
  · rw [if_pos e1, if_pos e1, e]
  · rw [if_neg e1, if_neg e1]
    by_cases e2 : i = k
    · rw [if_pos e2, if_pos e2, e]
    · rw [if_neg e2, if_neg e2, e]
theorem UpI.dn {h : Hq} {i n : Nat} (u : UpI h i n) (hp : 0 < i → le2 (h.kk ((i - 1) / 2)) (h.kk i)) : DnI h i n :=
  ⟨fun j h0 h1 h2 => by
    by_cases e : j = i
    · subst e; exact hp h0
    · exact u.a j h0 h1 e h2, u.b⟩
theorem UpI.step {h : Hq} {i n : Nat} (u : UpI h i n) (hn : n = h.it.length) (h0 : 0 < i) (hi : i < n) : UpI (swapH h i ((i - 1) / 2)) ((i - 1) / 2) n := by
  have hpi : (i - 1) / 2 < i := by omega
  generalize hp : (i - 1) / 2 = p at *
  have kk := kk_swap h (i := i) (j := p) (by omega) (by omega)
  have up : ∀ j, 0 < j → j < n → j ≠ i → (j - 1) / 2 ≠ i → le2 (h.kk ((j - 1) / 2)) (h.kk j) := u.a
  refine ⟨fun j j0 jn hjp hpp => ?_, fun j j0 jn hpp p0 => ?_⟩
  · have hji : j ≠ i := fun e => hpp (by rw [e]; exact hp)
    rw [kk ((j - 1) / 2), kk j, if_neg (show ¬ p = (j - 1) / 2 from fun e => hpp e.symm), if_neg (show ¬ p = j from fun e => hjp e.symm), if_neg (show ¬ i = j from fun e => hji e.symm)]
    by_cases e : i = (j - 1) / 2
    · rw [if_pos e]
      have := u.b j j0 jn e.symm h0
      rw [hp] at this; exact this
    · rw [if_neg e]; exact up j j0 jn hji (fun e2 => e e2.symm)
  · have q : le2 (h.kk ((p - 1) / 2)) (h.kk p) := up p p0 (by omega) (by omega) (by omega)
    rw [kk, kk, if_neg (by omega), if_neg (by omega), if_neg (by omega)]
    by_cases e : i = j
    · rw [if_pos e]; exact q
    · rw [if_neg e]
      refine le2_trans q ?_
      have := up j j0 jn (fun e2 => e e2.symm) (by omega)
      rw [hpp] at this; exact this
theorem HI.upOrd {h : Hq} : ∀ {i n : Nat}, HI h → n = h.it.length → i < n → UpI h i n → DnI (upH h i).1 (upH h i).2 n := by
  intro i
  induction i using Nat.strongRecOn generalizing h with
  | _ i ih =>
    intro n o hn hi u
    by_cases hh : 0 < i ∧ lessH h i ((i - 1) / 2) = true
    · rw [up_step hh.1 hh.2]
      have hj : (i - 1) / 2 < h.it.length := by omega
      exact ih ((i - 1) / 2) (by omega) (o.swap (by omega) hj) (by rw [(swapH_len _ _ _).1]; exact hn) (by omega) (u.step hn hh.1 hi)
    · rw [up_stop hh]
      exact u.dn fun h0 => Classical.byContradiction fun e => hh ⟨h0, (lessH_iff _ _ _).2 e⟩
theorem kid_le (h : Hq) {i n j : Nat} (hk : kidH h i n < n) (j0 : 0 < j) (jn : j < n) (hp : (j - 1) / 2 = i) : le2 (h.kk (kidH h i n)) (h.kk j) := by
  have hj : j = 2 * i + 1 ∨ j = 2 * i + 1 + 1 := by omega
  unfold kidH at *
  split at hk
  · next hc =>
    rw [if_pos hc]
    rcases hj with rfl | rfl
    · exact le2_total ((lessH_iff _ _ _).1 hc.2)
    · exact le2_refl _
  · next hc =>
    rw [if_neg hc]
    rcases hj with rfl | rfl
    · exact le2_refl _
    · exact Classical.byContradiction fun e => hc ⟨jn, (lessH_iff _ _ _).2 e⟩
theorem kid_par (h : Hq) (i n : Nat) : (kidH h i n - 1) / 2 = i := by unfold kidH; split <;> omega
theorem DnI.step {h : Hq} {i n : Nat} (u : DnI h i n) (hn : n = h.it.length) (hi : i < n) (hk : kidH h i n < n) (hl : lessH h (kidH h i n) i = true) : DnI (swapH h i (kidH h i n)) (kidH h i n) n := by
  have hkp := kid_par h i n
  have hgt := kidH_gt h i n
  have hkl := fun j j0 jn hp => kid_le h (i := i) (n := n) (j := j) hk j0 jn hp
  have hl2 := le2_total ((lessH_iff _ _ _).1 hl)
  generalize kidH h i n = k at *
  have kk := kk_swap h (i := i) (j := k) (by omega) (by omega)
  refine ⟨fun j j0 jn hpk => ?_, fun j j0 jn hpp k0 => ?_⟩
  · rw [kk, kk, if_neg (fun e => hpk e.symm)]
    by_cases e1 : k = j
    · subst e1
      rw [if_pos rfl, if_pos hkp.symm]; exact hl2
    · rw [if_neg e1]
      by_cases e2 : i = j
      · subst e2
        rw [if_pos rfl, if_neg (by omega)]
        exact u.b k (by omega) hk hkp j0
      · rw [if_neg e2]
        by_cases e3 : i = (j - 1) / 2
        · rw [if_pos e3]; exact hkl j j0 jn e3.symm
        · rw [if_neg e3]; exact u.a j j0 jn (fun e => e3 e.symm)
  · rw [hkp, kk, kk, if_neg (by omega), if_pos rfl, if_neg (by omega), if_neg (by omega)]
    have := u.a j j0 jn (by omega)
    rw [hpp] at this; exact this
theorem HI.dnOrd {h : Hq} : ∀ {k i n : Nat}, n - i ≤ k → HI h → i < h.it.length → n = h.it.length → DnI h i n → HOrd (downH h i n) n := by
  intro k
  induction k generalizing h with
  | zero => intro i n hk o hi hn; omega
  | succ k ih =>
    intro i n hk o hi hn u
    by_cases hh : kidH h i n < n ∧ lessH h (kidH h i n) i = true
    · rw [down_step hh.1 hh.2]
      have hgt := kidH_gt h i n
      exact ih (by omega) (o.swap hi (by omega)) (by rw [(swapH_len _ _ _).1]; omega) (by rw [(swapH_len _ _ _).1]; exact hn) (u.step hn (by omega) hh.1 hh.2)
    · rw [down_stop hh]
      intro j j0 jn
      by_cases e : (j - 1) / 2 = i
      · rw [e]
        by_cases hk2 : kidH h i n < n
        · exact le2_trans (Classical.byContradiction fun e2 => hh ⟨hk2, (lessH_iff _ _ _).2 e2⟩) (kid_le h hk2 j0 jn e)
        · exfalso
          apply hk2
          unfold kidH; split
          · next hc => exact hc.1
          · omega
      · exact u.a j j0 jn e
theorem HI.settleOrd {h : Hq} {i : Nat} (o : HI h) (hi : i < h.it.length) (u : UpI h i h.it.length) : HOrd (settleH h i h.it.length) h.it.length := by
  obtain ⟨a, b, c, d, e⟩ := o.up hi
  exact a.dnOrd (k := h.it.length - (upH h i).2) (Nat.le_refl _) (by omega) b.symm (o.upOrd rfl hi u)
/- which items are in it -/
theorem HI.in_swap {h : Hq} (o : HI h) {i j : Nat} (hi : i < h.it.length) (hj : j < h.it.length) (w : Nat) : 0 ≤ (swapH h i j).place w ↔ 0 ≤ h.place w := by
  have ii := o.inv i hi
  have ij := o.inv j hj
  rw [place_swap h o.ok hi hj]
  by_cases e1 : h.item i = w
  · rw [if_pos e1, ← e1, ii]; omega
  · rw [if_neg e1]
    by_cases e2 : h.item j = w
    · rw [if_pos e2, ← e2, ij]; omega
    · rw [if_neg e2]
theorem HI.in_up {h : Hq} : ∀ {i : Nat}, HI h → i < h.it.length → ∀ w, 0 ≤ (upH h i).1.place w ↔ 0 ≤ h.place w := by
  intro i
  induction i using Nat.strongRecOn generalizing h with
  | _ i ih =>
    intro o hi w
    by_cases hh : 0 < i ∧ lessH h i ((i - 1) / 2) = true
    · rw [up_step hh.1 hh.2]
      have hj : (i - 1) / 2 < h.it.length := by omega
      exact (ih ((i - 1) / 2) (by omega) (o.swap hi hj) (by rw [(swapH_len _ _ _).1]; exact hj) w).trans (o.in_swap hi hj w)
    · rw [up_stop hh]
theorem HI.in_down {h : Hq} : ∀ {k i n : Nat}, n - i ≤ k → HI h → i < h.it.length → n = h.it.length → ∀ w, 0 ≤ (downH h i n).place w ↔ 0 ≤ h.place w := by
  intro k
  induction k generalizing h with
  | zero => intro i n hk o hi hn; omega
  | succ k ih =>
    intro i n hk o hi hn w
    by_cases hh : kidH h i n < n ∧ lessH h (kidH h i n) i = true
    · rw [down_step hh.1 hh.2]
      have hgt := kidH_gt h i n
      exact (ih (by omega) (o.swap hi (by omega)) (by rw [(swapH_len _ _ _).1]; omega) (by rw [(swapH_len _ _ _).1]; exact hn) w).trans (o.in_swap hi (by omega) w)
    · rw [down_stop hh]
theorem HI.in_settle {h : Hq} {i : Nat} (o : HI h) (hi : i < h.it.length) (w : Nat) : 0 ≤ (settleH h i h.it.length).place w ↔ 0 ≤ h.place w := by
  obtain ⟨a, b, c, d, e⟩ := o.up hi
  exact (a.in_down (k := h.it.length - (upH h i).2) (Nat.le_refl _) (by omega) b.symm w).trans (o.in_up hi w)
theorem put_new {h : Hq} {v : Nat} (k : Int) (hp : h.place v < 0) : putH h v k = ⟨h.it ++ [v], h.pl.set v h.it.length, h.ky.set v k⟩ := by unfold putH insH; rw [if_pos hp]
theorem put_old {h : Hq} {v : Nat} (k : Int) (hp : ¬ h.place v < 0) : putH h v k = ⟨h.it, h.pl, h.ky.set v k⟩ := by unfold putH insH; rw [if_neg hp]
structure HG (h : Hq) : Prop where
  hi : HI h
  ord : HOrd h h.it.length
theorem HG.set {h : Hq} (o : HG h) {v : Nat} (hv : v < h.pl.length) (k : Int) : HG (setH h v k) ∧ (setH h v k).pl.length = h.pl.length ∧ (setH h v k).ky = h.ky.set v k ∧ ∀ w, 0 ≤ (setH h v k).place w ↔ w = v ∨ 0 ≤ h.place w := by
  obtain ⟨a, b, c, d⟩ := o.hi.put hv k
  obtain ⟨q1, q2, q3, q4⟩ := o.hi.set hv k
  have hi := a.lt (by rw [b]; exact hv) c
  have hol := o.hi.ok.len
  have hkey : ∀ w, (putH h v k).key w = if v = w then k else h.key w := fun w => by
    have e : (putH h v k).ky = h.ky.set v k := by unfold putH insH; split <;> rfl
    unfold Hq.key; rw [e, getD_set _ _ _ _ _ (by omega)]
  have hu : UpI (putH h v k) ((putH h v k).place v).toNat (putH h v k).it.length := by
    by_cases hp : h.place v < 0
    · have e1 : (putH h v k).it = h.it ++ [v] := by rw [put_new k hp]
      have e2 : (putH h v k).place v = h.it.length := by rw [put_new k hp]; unfold Hq.place; simp only; rw [getD_set _ _ _ _ _ hv, if_pos rfl]
      have e3 : ∀ i, i < h.it.length → (putH h v k).kk i = h.kk i := fun i hi2 => by
        have e4 : (putH h v k).item i = h.item i := by unfold Hq.item; rw [e1, getD_app, if_neg (by omega)]
        have := o.hi.inv i hi2
        unfold Hq.kk; rw [e4, hkey, if_neg (fun e => by rw [← e] at this; omega)]
      rw [e2, e1, Int.toNat_natCast]
      refine ⟨fun j j0 jn h1 h2 => ?_, fun j j0 jn h1 h2 => ?_⟩
      · simp at jn
        rw [e3 _ (by omega), e3 _ (by omega)]; exact o.ord j j0 (by omega)
      · simp at jn; omega
    · have e1 : (putH h v k).it = h.it := by rw [put_old k hp]
      have e2 : (putH h v k).place v = h.place v := by rw [put_old k hp]; rfl
      have hlt := o.hi.lt hv (by omega)
      obtain ⟨_, hiv⟩ := o.hi.at_ v hv (by omega)
      have e3 : ∀ i, i < h.it.length → i ≠ (h.place v).toNat → (putH h v k).kk i = h.kk i := fun i hi2 hne => by
        have e4 : (putH h v k).item i = h.item i := by unfold Hq.item; rw [e1]
        have := o.hi.inv i hi2
        unfold Hq.kk; rw [e4, hkey, if_neg (fun e => by rw [← e] at this; omega)]
      rw [e2, e1]
      refine ⟨fun j j0 jn h1 h2 => ?_, fun j j0 jn h1 h2 => ?_⟩
      · rw [e3 _ (by omega) h2, e3 _ jn h1]; exact o.ord j j0 jn
      · rw [e3 _ (by omega) (by omega), e3 _ jn (by omega)]
        refine le2_trans (o.ord _ h2 hlt) ?_
        have := o.ord j j0 jn
        rw [h1] at this; exact this
  refine ⟨⟨q1, ?_⟩, q3, q4, fun w => ?_⟩
  · rw [q2]; exact a.settleOrd hi hu
  · refine (a.in_settle hi w).trans ?_
    by_cases hp : h.place v < 0
    · rw [put_new k hp]; unfold Hq.place; simp only
      rw [getD_set _ _ _ _ _ hv]
      by_cases e : v = w
      · rw [if_pos e]; constructor
        · intro _; exact .inl e.symm
        · intro _; omega
      · rw [if_neg e]; constructor
        · intro h1; exact .inr h1
        · rintro (h1 | h1)
          · exact absurd h1.symm e
          · exact h1
    · rw [put_old k hp]; constructor
      · intro h1; exact .inr h1
      · rintro (rfl | h1)
        · show 0 ≤ h.place w; omega
        · exact h1
theorem HG.drop {h : Hq} (o : HG h) {v : Nat} (hv : v < h.pl.length) (hp : 0 ≤ h.place v) : HG (dropH h v) ∧ (dropH h v).it.length = h.it.length - 1 ∧ (dropH h v).pl.length = h.pl.length ∧ (dropH h v).ky = h.ky ∧ ∀ w, 0 ≤ (dropH h v).place w ↔ w ≠ v ∧ 0 ≤ h.place w := by
  obtain ⟨a, b, c, d⟩ := o.hi.cut hv hp
  obtain ⟨q1, q2, q3, q4⟩ := o.hi.drop hv hp
  have hlt := o.hi.lt hv hp
  have hlast : h.it.length - 1 < h.it.length := by omega
  have hsw := o.hi.swap hlt hlast
  have e2 : ∀ i, i < h.it.length - 1 → (cutH h v).kk i = if (h.place v).toNat = i then h.kk (h.it.length - 1) else h.kk i := fun i hi => by
    have e3 : (cutH h v).kk i = (swapH h (h.place v).toNat (h.it.length - 1)).kk i := by
      unfold Hq.kk Hq.item cutH Hq.key; simp only [List.getD_eq_getElem?_getD]; rw [List.getElem?_take, if_pos hi]; rfl
    rw [e3, kk_swap h hlt hlast, if_neg (by omega)]
  have hin : ∀ w, 0 ≤ (cutH h v).place w ↔ w ≠ v ∧ 0 ≤ h.place w := fun w => by
    have e1 : (cutH h v).place w = if v = w then (-1 : Int) else (swapH h (h.place v).toNat (h.it.length - 1)).place w := getD_set _ _ _ _ _ (by rw [(swapH_len _ _ _).2.1]; exact hv)
    rw [e1]
    by_cases e : v = w
    · rw [if_pos e]; constructor
      · intro h1; omega
      · intro h1; exact absurd e.symm h1.1
    · rw [if_neg e, o.hi.in_swap hlt hlast]
      exact ⟨fun h1 => ⟨fun e2 => e e2.symm, h1⟩, fun h1 => h1.2⟩
  by_cases hh : (h.place v).toNat < h.it.length - 1
  · have hd : dropH h v = settleH (cutH h v) (h.place v).toNat (h.it.length - 1) := by unfold dropH; rw [if_pos hh]
    have hu : UpI (cutH h v) (h.place v).toNat (cutH h v).it.length := by
      rw [b]
      refine ⟨fun j j0 jn h1 h2 => ?_, fun j j0 jn h1 h2 => ?_⟩
      · rw [e2 _ (by omega), e2 _ jn, if_neg (fun e => h2 e.symm), if_neg (fun e => h1 e.symm)]; exact o.ord j j0 (by omega)
      · rw [e2 _ (by omega), e2 _ jn, if_neg (by omega), if_neg (by omega)]
        refine le2_trans (o.ord _ h2 hlt) ?_
        have := o.ord j j0 (by omega)
        rw [h1] at this; exact this
    refine ⟨⟨q1, ?_⟩, q2, q3, q4, fun w => ?_⟩
    · rw [q2, hd]
      have := a.settleOrd (by rw [b]; exact hh) hu
      rwa [b] at this
    · rw [hd]
      have := a.in_settle (i := (h.place v).toNat) (by rw [b]; exact hh) w
      rw [b] at this
      exact this.trans (hin w)
  · have hd : dropH h v = cutH h v := by unfold dropH; rw [if_neg hh]
    refine ⟨⟨q1, ?_⟩, q2, q3, q4, fun w => by rw [hd]; exact hin w⟩
    rw [q2, hd]
    intro j j0 jn
    rw [e2 _ (by omega), e2 _ jn, if_neg (by omega), if_neg (by omega)]; exact o.ord j j0 (by omega)
theorem HG.min {h : Hq} (o : HG h) {w : Nat} (hw : w < h.pl.length) (hp : 0 ≤ h.place w) : le2 (h.kk 0) (h.key w, w) := by
  obtain ⟨_, b⟩ := o.hi.at_ w hw hp
  have hlt := o.hi.lt hw hp
  have : ∀ j, j < h.it.length → le2 (h.kk 0) (h.kk j) := by
    intro j
    induction j using Nat.strongRecOn with
    | _ j ih =>
      intro hj
      by_cases e : j = 0
      · subst e; exact le2_refl _
      · exact le2_trans (ih ((j - 1) / 2) (by omega) (by omega)) (o.ord j (by omega) hj)
  have q := this _ hlt
  unfold Hq.kk at q ⊢
  rw [b] at q; exact q
end Go.Pl
