/- A part of the proof: A24, GP8, A25, AP4, AP5, AP6, AP7, AP8, A26, A27, A28, RT38, A29, A30, LA. -/
import Derived.Test.YtdhkioocjgpocaaZD
set_option linter.all false
namespace Go.Proofs.Ytdhkioocjgpocaa
open Go Go.RT Go.Proofs Go.Pl
set_option linter.all false
set_option maxRecDepth 20000
abbrev OR (a : AGr) : Option Ob := some (.flat 5 [encR a])
abbrev lenOk (n : Nat) : Prop := n ≤ 9223372036854775807
theorem counts_c (l : Lsa) (k : Int) : Pure Try.prog 30 [.agg (encA l), If .i64 k] (Bf (cntB k l)) := by
  unfold cntB
  refine Meets.intro Try.func30 rfl (Nat.le_of_ble_eq_true rfl) fun C hC => ?_
  simp only [List.map, argEnv, Nat.reduceAdd]
  refine nK ?_
  refine s_reg rfl ?_
  refine Run.eff (dd := some 2) rfl rfl (op_box_flat rfl (Opd.tmp _ _ rfl) tC rfl) ?_
  refine Run.pure (dd := some 4) rfl rfl (op_assign rfl (Opd.const _)) ?_
  refine Run.nil (FinR.mk ?_)
  refine nK ?_
  refine s_reg rfl ?_
  refine Run.pure (dd := some 5) rfl rfl (op_fld_ptr (by decide) rfl (Opd.tmp _ _ rfl)) ?_
  refine Run.pure (dd := some 6) rfl rfl (op_fld_ptr (by decide) rfl (Opd.tmp _ _ rfl)) ?_
  refine Run.load (dd := some 7) rfl rfl (op_load1_flat rfl (Opd.tmp _ _ rfl) tH rfl) ?_
  refine Run.pure (dd := some 8) rfl rfl (op_move rfl (Opd.tmp _ _ rfl)) ?_
  refine Run.pure (dd := some 9) rfl rfl (op_eql rfl (Opd.tmp _ _ rfl) (Opd.tmp _ _ rfl)) ?_
  refine Run.pure (dd := some 10) rfl rfl (op_move rfl (Opd.tmp _ _ rfl)) ?_
  refine Run.pureG (dd := some 11) rfl rfl rfl tG (op_fld_ptr (by decide) rfl (Opd.tmp _ _ rfl)) ?_
  refine Run.pureG (dd := some 12) rfl rfl rfl tG (op_fld_ptr (by decide) rfl (Opd.topt _ _ _ rfl tO)) ?_
  refine Run.loadG (dd := some 13) rfl rfl rfl tG (op_load1_flat rfl (Opd.topt _ _ _ rfl tO) tH rfl) ?_
  refine Run.pureG (dd := some 14) rfl rfl rfl tG (op_lss rfl (Opd.topt _ _ _ rfl tO) (Opd.const _)) ?_
  refine Run.pure (dd := some 15) rfl rfl (op_pick_and rfl (Opd.tmp _ _ rfl) (Opd.topt _ _ _ rfl tO)) ?_
  refine Run.pure (dd := some 4) rfl rfl (op_assign rfl (Opd.tmp _ _ rfl)) ?_
  refine Run.nil (FinR.mk ?_)
  refine nK ?_
  (first | exact s_o1 hC rfl tV | exact s_o2 hC rfl tV tV | exact s_o3 hC rfl tV tV tV | exact s_o4 hC rfl tV tV tV tV | exact s_out0 hC rfl | exact s_outO hC rfl rfl rfl)
theorem own_c (db : List Lsa) (r : Int) (hn : lenOk db.length) : Pure Try.prog 49 [VA db, If .u32 r] (.tup [.agg (encA ((ownGo r db).getD zeroA)), Bf (ownGo r db).isSome]) := by
  refine Meets.intro Try.func49 rfl (Nat.le_of_ble_eq_true rfl) fun C hC => ?_
  simp only [List.map, argEnv, Nat.reduceAdd]
  refine nK ?_
  refine s_reg rfl ?_
  refine Run.eff (dd := some 4) rfl rfl (op_alloc rfl rfl rfl rfl) ?_
  refine Run.pure (dd := some 5) rfl rfl (op_assign rfl (Opd.const _)) ?_
  refine Run.nil (FinR.mk ?_)
  refine nK ?_
  refine s_reg rfl ?_
  refine Run.pure (dd := some 6) rfl rfl (op_assign rfl (Opd.const _)) ?_
  refine Run.nil (FinR.mk ?_)
  refine nK ?_
  refine n_loop (ι := Nat) (fun i => ([(0, .fz (VA db)), (1, IV .u32 r), (4, .ptr 0 15 0 0), (6, IV .i64 i)], [(0, OA zeroA)], 1)) (fun i => i ≤ db.length ∧ ownGo r (db.drop i) = ownGo r db) (fun i => db.length - i) 0 ⟨Nat.zero_le _, rfl⟩ ?_ ?_
  · refine Next.weakS [4] [] (by rfl) (keeps0 hC _) (by repeat (first | exact trivial | refine ⟨⟨_, rfl, .inl ⟨rfl, rfl⟩⟩, ?_⟩ | refine ⟨⟨_, rfl, .inl ⟨slEq rfl tN, rfl⟩⟩, ?_⟩ | refine ⟨⟨_, rfl, .inl ⟨ivEq tX, rfl⟩⟩, ?_⟩)) (by exact ⟨⟨rfl, rfl, .fflat _ _ _ rfl tW⟩, trivial⟩) rfl (rel_intro)
  · intro i ⟨hi, hS⟩ K hK
    refine nK ?_
    refine s_reg rfl ?_
    refine Run.pure (dd := some 7) rfl rfl (op_move rfl (Opd.tmp _ _ rfl)) ?_
    refine Run.pure (dd := some 8) rfl rfl (op_move rfl (Opd.tmp _ _ rfl)) ?_
    refine Run.pure (dd := some 9) rfl rfl (op_len_fz rfl (by first | exact Opd.tmp _ _ rfl | exact Opd.nil _ _ (Opd.tmp _ _ rfl)) (by first | exact List.length_map _ | rfl)) ?_
    refine Run.pure (dd := some 10) rfl rfl (op_lss rfl (Opd.tmp _ _ rfl) (Opd.tmp _ _ rfl)) ?_
    refine Run.nil (FinR.mk ?_)
    refine nK ?_
    refine n_cond _ rfl (fun hb => ?_) (fun hb => ?_)
    · have hlt : i < db.length := by simp at hb; omega
      have hr1 := row_at' encA db i hlt
      rw [own_step hlt] at hS
      have hK1 := fun h => hK (i + 1) ⟨by omega, h⟩ (by omega)
      refine nK ?_
      refine s_reg rfl ?_
      refine Run.pure (dd := some 13) rfl rfl (op_move rfl (Opd.tmp _ _ rfl)) ?_
      refine Run.pure (dd := some 14) rfl rfl (op_move rfl (Opd.tmp _ _ rfl)) ?_
      refine Run.pure (dd := some 15) rfl rfl (op_idx_fz _ rfl (Opd.tmp _ _ rfl) (Opd.tmp _ _ rfl) tF) ?_
      refine Run.pure (dd := some 16) rfl rfl (op_loadw_fz rfl (Opd.tmp _ _ rfl) rfl) ?_
      refine Run.pure (dd := some 17) rfl rfl (op_call_pure (fun _ => counts_c _ _) rfl (Opd.func _) (Opds.cons _ _ _ _ (Opd.tmp _ _ rfl) (Opds.cons _ _ _ _ (Opd.const _) Opds.nil))) ?_
      refine Run.pure (dd := some 18) rfl rfl (op_move rfl (Opd.tmp _ _ rfl)) ?_
      refine Run.pureG (dd := some 19) rfl rfl rfl tG (op_move rfl (Opd.tmp _ _ rfl)) ?_
      refine Run.pureG (dd := some 20) rfl rfl rfl tG (op_move rfl (Opd.tmp _ _ rfl)) ?_
      refine Run.pureG (dd := some 21) rfl rfl rfl tG (op_idx_fz _ rfl (Opd.topt _ _ _ rfl tO) (Opd.topt _ _ _ rfl tO) tF) ?_
      refine Run.pureG (dd := some 22) rfl rfl rfl tG (op_fld_fz (by decide) rfl (Opd.topt _ _ _ rfl tO) tR) ?_
      refine Run.pureG (dd := some 23) rfl rfl rfl tG (op_fld_fz (by decide) rfl (Opd.topt _ _ _ rfl tO) tR) ?_
      refine Run.pureG (dd := some 24) rfl rfl rfl tG (op_load1_fz rfl (Opd.topt _ _ _ rfl tO) rfl) ?_
      refine Run.pureG (dd := some 25) rfl rfl rfl tG (op_move rfl (Opd.tmp _ _ rfl)) ?_
      refine Run.pureG (dd := some 26) rfl rfl rfl tG (op_eql rfl (Opd.topt _ _ _ rfl tO) (Opd.topt _ _ _ rfl tO)) ?_
      refine Run.pure (dd := some 27) rfl rfl (op_pick_and rfl (Opd.tmp _ _ rfl) (Opd.topt _ _ _ rfl tO)) ?_
      refine Run.nil (FinR.mk ?_)
      refine nK ?_
      refine n_cond _ rfl (fun hb => ?_) (fun hb => ?_)
      · rw [if_pos hb] at hS
        rw [← hS]
        refine nK ?_
        refine s_reg rfl ?_
        refine Run.pure (dd := some 28) rfl rfl (op_move rfl (Opd.tmp _ _ rfl)) ?_
        refine Run.pure (dd := some 29) rfl rfl (op_move rfl (Opd.tmp _ _ rfl)) ?_
        refine Run.pure (dd := some 30) rfl rfl (op_idx_fz _ rfl (Opd.tmp _ _ rfl) (Opd.tmp _ _ rfl) tF) ?_
        refine Run.pure (dd := some 31) rfl rfl (op_loadw_fz rfl (Opd.tmp _ _ rfl) rfl) ?_
        refine Run.eff (dd := none) rfl rfl (op_store_flat rfl (Opd.tmp _ _ rfl) (Opd.tmp _ _ rfl) tC rfl rfl (by first | rfl | assumption) tS) ?_
        refine Run.pure (dd := some 5) rfl rfl (op_assign rfl (Opd.const _)) ?_
        refine Run.nil (FinR.mk ?_)
        refine nK ?_
        (first | exact s_o1 hC rfl tV | exact s_o2 hC rfl tV tV | exact s_o3 hC rfl tV tV tV | exact s_o4 hC rfl tV tV tV tV | exact s_out0 hC rfl | exact s_outO hC rfl rfl rfl)
      · rw [if_neg (by rw [hb]; decide)] at hS
        refine nK ?_
        refine s_reg rfl ?_
        refine Run.pure (dd := some 11) rfl rfl (op_move rfl (Opd.tmp _ _ rfl)) ?_
        refine Run.pure (dd := some 12) rfl rfl (op_add rfl (Opd.tmp _ _ rfl) (Opd.const _) tI) ?_
        refine Run.pure (dd := some 6) rfl rfl (op_assign rfl (Opd.tmp _ _ rfl)) ?_
        refine Run.nil (FinR.mk ?_)
        refine nK ?_
        refine Next.weakS [4] [] (by rfl) (by first | exact keeps0 hC _ | exact keepsN hC _ rfl) (by repeat (first | exact trivial | refine ⟨⟨_, rfl, .inl ⟨rfl, rfl⟩⟩, ?_⟩ | refine ⟨⟨_, rfl, .inl ⟨slEq rfl tN, rfl⟩⟩, ?_⟩ | refine ⟨⟨_, rfl, .inl ⟨ivEq tX, rfl⟩⟩, ?_⟩)) (by repeat (first | exact trivial | refine ⟨ent_same rfl rfl rfl tL, ?_⟩ | refine ⟨ent_same rfl rfl (rfEq rfl tU) tL, ?_⟩ | refine ⟨ent_same rfl rfl (flEq rfl (by first | (simp; done) | (simp; omega) | (simp [encA, encH, encL, encU, encK, encV, encR]; done) | simp [maxC, minC])) trivial, ?_⟩)) rfl ((hK1 hS))
    · have hie : i = db.length := by simp at hb; omega
      rw [hie, List.drop_length] at hS
      rw [← hS]
      refine nK ?_
      refine s_reg rfl ?_
      refine Run.pure (dd := some 32) rfl rfl (op_build rfl rfl rfl (FillF.nil _)) ?_
      refine Run.eff (dd := none) rfl rfl (op_store_flat rfl (Opd.tmp _ _ rfl) (Opd.tmp _ _ rfl) tC rfl rfl (by first | rfl | assumption) tS) ?_
      refine Run.pure (dd := some 5) rfl rfl (op_assign rfl (Opd.const _)) ?_
      refine Run.nil (FinR.mk ?_)
      refine nK ?_
      refine Next.weakS [4] [] (by rfl) (keeps0 hC _) (G' := [(4, .ptr 0 15 0 0), (5, BV false)]) (H' := [(0, OA zeroA)]) (by repeat (first | exact trivial | refine ⟨⟨_, rfl, .inl ⟨rfl, rfl⟩⟩, ?_⟩ | refine ⟨⟨_, rfl, .inl ⟨slEq rfl tN, rfl⟩⟩, ?_⟩ | refine ⟨⟨_, rfl, .inl ⟨ivEq tX, rfl⟩⟩, ?_⟩)) (by exact ⟨⟨rfl, rfl, .fflat _ _ _ rfl tW⟩, trivial⟩) rfl ?_
      (first | exact s_o1 hC rfl tV | exact s_o2 hC rfl tV tV | exact s_o3 hC rfl tV tV tV | exact s_o4 hC rfl tV tV tV tV | exact s_out0 hC rfl | exact s_outO hC rfl rfl rfl)
theorem ridx_c (a : AGr) (r : Int) (hn : lenOk a.rs.length) : Pure Try.prog 17 [.agg (encR a), If .u32 r] (If .i64 (idxGo (fun x => decide (x = r)) 0 a.rs)) := by
  refine Meets.intro Try.func17 rfl (Nat.le_of_ble_eq_true rfl) fun C hC => ?_
  simp only [List.map, argEnv, Nat.reduceAdd]
  refine nK ?_
  refine s_reg rfl ?_
  refine Run.eff (dd := some 2) rfl rfl (op_box_flat rfl (Opd.tmp _ _ rfl) tC rfl) ?_
  refine Run.pure (dd := some 4) rfl rfl (op_assign rfl (Opd.const _)) ?_
  refine Run.nil (FinR.mk ?_)
  refine nK ?_
  refine s_reg rfl ?_
  refine Run.pure (dd := some 5) rfl rfl (op_assign rfl (Opd.const _)) ?_
  refine Run.nil (FinR.mk ?_)
  refine nK ?_
  refine n_loop (ι := Nat) (fun i => ([(1, IV .u32 r), (2, .ptr 0 5 0 0), (5, IV .i64 i)], [(0, OR a)], 1)) (fun i => i ≤ a.rs.length ∧ idxGo (fun x => decide (x = r)) i (a.rs.drop i) = idxGo (fun x => decide (x = r)) 0 a.rs) (fun i => a.rs.length - i) 0 ⟨Nat.zero_le _, rfl⟩ ?_ ?_
  · refine Next.weakS [2] [] (by rfl) (by first | exact keeps0 hC _ | exact keepsN hC _ rfl) (by repeat (first | exact trivial | refine ⟨⟨_, rfl, .inl ⟨rfl, rfl⟩⟩, ?_⟩ | refine ⟨⟨_, rfl, .inl ⟨slEq rfl tN, rfl⟩⟩, ?_⟩ | refine ⟨⟨_, rfl, .inl ⟨ivEq tX, rfl⟩⟩, ?_⟩)) (by repeat (first | exact trivial | refine ⟨ent_same rfl rfl rfl tL, ?_⟩ | refine ⟨ent_same rfl rfl (rfEq rfl tU) tL, ?_⟩ | refine ⟨ent_same rfl rfl (flEq rfl (by first | (simp; done) | (simp; omega) | (simp [encA, encH, encL, encU, encK, encV, encR]; done) | simp [maxC, minC])) trivial, ?_⟩)) rfl (rel_intro)
  · intro i ⟨hi, hS⟩ K hK
    refine nK ?_
    refine s_reg rfl ?_
    refine Run.pure (dd := some 6) rfl rfl (op_move rfl (Opd.tmp _ _ rfl)) ?_
    refine Run.pure (dd := some 7) rfl rfl (op_fld_ptr (by decide) rfl (Opd.tmp _ _ rfl)) ?_
    refine Run.load (dd := some 8) rfl rfl (op_load1_flat rfl (Opd.tmp _ _ rfl) tH rfl) ?_
    refine Run.pure (dd := some 9) rfl rfl (op_len_fz rfl (by first | exact Opd.tmp _ _ rfl | exact Opd.nil _ _ (Opd.tmp _ _ rfl)) (by first | exact List.length_map _ | rfl)) ?_
    refine Run.pure (dd := some 10) rfl rfl (op_lss rfl (Opd.tmp _ _ rfl) (Opd.tmp _ _ rfl)) ?_
    refine Run.nil (FinR.mk ?_)
    refine nK ?_
    refine n_cond _ rfl (fun hb => ?_) (fun hb => ?_)
    · have hlt : i < a.rs.length := by simp at hb; omega
      have hr1 := row_at' encU a.rs i hlt
      rw [idx_step hlt] at hS
      have hK1 := fun h => hK (i + 1) ⟨by omega, h⟩ (by omega)
      refine nK ?_
      refine s_reg rfl ?_
      refine Run.pure (dd := some 13) rfl rfl (op_fld_ptr (by decide) rfl (Opd.tmp _ _ rfl)) ?_
      refine Run.load (dd := some 14) rfl rfl (op_load1_flat rfl (Opd.tmp _ _ rfl) tH rfl) ?_
      refine Run.pure (dd := some 15) rfl rfl (op_move rfl (Opd.tmp _ _ rfl)) ?_
      refine Run.pure (dd := some 16) rfl rfl (op_idx_fz _ rfl (Opd.tmp _ _ rfl) (Opd.tmp _ _ rfl) tF) ?_
      refine Run.pure (dd := some 17) rfl rfl (op_load1_fz rfl (Opd.tmp _ _ rfl) rfl) ?_
      refine Run.pure (dd := some 18) rfl rfl (op_move rfl (Opd.tmp _ _ rfl)) ?_
      refine Run.pure (dd := some 19) rfl rfl (op_eql rfl (Opd.tmp _ _ rfl) (Opd.tmp _ _ rfl)) ?_
      refine Run.nil (FinR.mk ?_)
      refine nK ?_
      refine n_cond _ rfl (fun hb => ?_) (fun hb => ?_)
      · rw [if_pos hb] at hS
        rw [← hS]
        refine nK ?_
        refine s_reg rfl ?_
        refine Run.pure (dd := some 20) rfl rfl (op_move rfl (Opd.tmp _ _ rfl)) ?_
        refine Run.pure (dd := some 4) rfl rfl (op_assign rfl (Opd.tmp _ _ rfl)) ?_
        refine Run.nil (FinR.mk ?_)
        refine nK ?_
        (first | exact s_o1 hC rfl tV | exact s_o2 hC rfl tV tV | exact s_o3 hC rfl tV tV tV | exact s_o4 hC rfl tV tV tV tV | exact s_out0 hC rfl | exact s_outO hC rfl rfl rfl)
      · rw [if_neg (by rw [hb]; decide)] at hS
        refine nK ?_
        refine s_reg rfl ?_
        refine Run.pure (dd := some 11) rfl rfl (op_move rfl (Opd.tmp _ _ rfl)) ?_
        refine Run.pure (dd := some 12) rfl rfl (op_add rfl (Opd.tmp _ _ rfl) (Opd.const _) tI) ?_
        refine Run.pure (dd := some 5) rfl rfl (op_assign rfl (Opd.tmp _ _ rfl)) ?_
        refine Run.nil (FinR.mk ?_)
        refine nK ?_
        refine Next.weakS [2] [] (by rfl) (by first | exact keeps0 hC _ | exact keepsN hC _ rfl) (by repeat (first | exact trivial | refine ⟨⟨_, rfl, .inl ⟨rfl, rfl⟩⟩, ?_⟩ | refine ⟨⟨_, rfl, .inl ⟨slEq rfl tN, rfl⟩⟩, ?_⟩ | refine ⟨⟨_, rfl, .inl ⟨ivEq tX, rfl⟩⟩, ?_⟩)) (by repeat (first | exact trivial | refine ⟨ent_same rfl rfl rfl tL, ?_⟩ | refine ⟨ent_same rfl rfl (rfEq rfl tU) tL, ?_⟩ | refine ⟨ent_same rfl rfl (flEq rfl (by first | (simp; done) | (simp; omega) | (simp [encA, encH, encL, encU, encK, encV, encR]; done) | simp [maxC, minC])) trivial, ?_⟩)) rfl ((hK1 hS))
    · have hie : i = a.rs.length := by simp at hb; omega
      rw [hie, List.drop_length] at hS
      rw [← hS]
      simp only [idxGo]
      refine nK ?_
      refine s_reg rfl ?_
      refine Run.pure (dd := some 4) rfl rfl (op_assign rfl (Opd.const _)) ?_
      refine Run.nil (FinR.mk ?_)
      refine nK ?_
      (first | exact s_o1 hC rfl tV | exact s_o2 hC rfl tV tV | exact s_o3 hC rfl tV tV tV | exact s_o4 hC rfl tV tV tV tV | exact s_out0 hC rfl | exact s_outO hC rfl rfl rfl)
def netI (a : AGr) (id : Int) : Int := if idxGo (fun x : NetV => decide (x.id = id)) 0 a.ns < 0 then -1 else IntKind.i64.wrap ((a.rs.length : Int) + idxGo (fun x : NetV => decide (x.id = id)) 0 a.ns)
theorem rnet_c (a : AGr) (r : Int) (hn : lenOk a.ns.length) : Pure Try.prog 19 [.agg (encR a), If .u32 r] (If .i64 (netI a r)) := by
  unfold netI
  refine Meets.intro Try.func19 rfl (Nat.le_of_ble_eq_true rfl) fun C hC => ?_
  simp only [List.map, argEnv, Nat.reduceAdd]
  refine nK ?_
  refine s_reg rfl ?_
  refine Run.eff (dd := some 2) rfl rfl (op_box_flat rfl (Opd.tmp _ _ rfl) tC rfl) ?_
  refine Run.pure (dd := some 4) rfl rfl (op_assign rfl (Opd.const _)) ?_
  refine Run.nil (FinR.mk ?_)
  refine nK ?_
  refine s_reg rfl ?_
  refine Run.pure (dd := some 5) rfl rfl (op_assign rfl (Opd.const _)) ?_
  refine Run.nil (FinR.mk ?_)
  refine nK ?_
  refine n_loop (ι := Nat) (fun i => ([(1, IV .u32 r), (2, .ptr 0 5 0 0), (5, IV .i64 i)], [(0, OR a)], 1)) (fun i => i ≤ a.ns.length ∧ idxGo (fun x : NetV => decide (x.id = r)) i (a.ns.drop i) = idxGo (fun x : NetV => decide (x.id = r)) 0 a.ns) (fun i => a.ns.length - i) 0 ⟨Nat.zero_le _, rfl⟩ ?_ ?_
  · refine Next.weakS [2] [] (by rfl) (by first | exact keeps0 hC _ | exact keepsN hC _ rfl) (by repeat (first | exact trivial | refine ⟨⟨_, rfl, .inl ⟨rfl, rfl⟩⟩, ?_⟩ | refine ⟨⟨_, rfl, .inl ⟨slEq rfl tN, rfl⟩⟩, ?_⟩ | refine ⟨⟨_, rfl, .inl ⟨ivEq tX, rfl⟩⟩, ?_⟩)) (by repeat (first | exact trivial | refine ⟨ent_same rfl rfl rfl tL, ?_⟩ | refine ⟨ent_same rfl rfl (rfEq rfl tU) tL, ?_⟩ | refine ⟨ent_same rfl rfl (flEq rfl (by first | (simp; done) | (simp; omega) | (simp [encA, encH, encL, encU, encK, encV, encR]; done) | simp [maxC, minC])) trivial, ?_⟩)) rfl (rel_intro)
  · intro i ⟨hi, hS⟩ K hK
    refine nK ?_
    refine s_reg rfl ?_
    refine Run.pure (dd := some 6) rfl rfl (op_move rfl (Opd.tmp _ _ rfl)) ?_
    refine Run.pure (dd := some 7) rfl rfl (op_fld_ptr (by decide) rfl (Opd.tmp _ _ rfl)) ?_
    refine Run.load (dd := some 8) rfl rfl (op_load1_flat rfl (Opd.tmp _ _ rfl) tH rfl) ?_
    refine Run.pure (dd := some 9) rfl rfl (op_len_fz rfl (by first | exact Opd.tmp _ _ rfl | exact Opd.nil _ _ (Opd.tmp _ _ rfl)) (by first | exact List.length_map _ | rfl)) ?_
    refine Run.pure (dd := some 10) rfl rfl (op_lss rfl (Opd.tmp _ _ rfl) (Opd.tmp _ _ rfl)) ?_
    refine Run.nil (FinR.mk ?_)
    refine nK ?_
    refine n_cond _ rfl (fun hb => ?_) (fun hb => ?_)
    · have hlt : i < a.ns.length := by simp at hb; omega
      have hr1 := row_at' encV a.ns i hlt
      rw [idx_step hlt] at hS
      have hK1 := fun h => hK (i + 1) ⟨by omega, h⟩ (by omega)
      refine nK ?_
      refine s_reg rfl ?_
      refine Run.pure (dd := some 13) rfl rfl (op_fld_ptr (by decide) rfl (Opd.tmp _ _ rfl)) ?_
      refine Run.load (dd := some 14) rfl rfl (op_load1_flat rfl (Opd.tmp _ _ rfl) tH rfl) ?_
      refine Run.pure (dd := some 15) rfl rfl (op_move rfl (Opd.tmp _ _ rfl)) ?_
      refine Run.pure (dd := some 16) rfl rfl (op_idx_fz _ rfl (Opd.tmp _ _ rfl) (Opd.tmp _ _ rfl) tF) ?_
      refine Run.pure (dd := some 17) rfl rfl (op_fld_fz (by decide) rfl (Opd.tmp _ _ rfl) tR) ?_
      refine Run.pure (dd := some 18) rfl rfl (op_load1_fz rfl (Opd.tmp _ _ rfl) rfl) ?_
      refine Run.pure (dd := some 19) rfl rfl (op_move rfl (Opd.tmp _ _ rfl)) ?_
      refine Run.pure (dd := some 20) rfl rfl (op_eql rfl (Opd.tmp _ _ rfl) (Opd.tmp _ _ rfl)) ?_
      refine Run.nil (FinR.mk ?_)
      refine nK ?_
      refine n_cond _ rfl (fun hb => ?_) (fun hb => ?_)
      · rw [if_pos hb] at hS
        rw [← hS, if_neg (by omega)]
        refine nK ?_
        refine s_reg rfl ?_
        refine Run.pure (dd := some 21) rfl rfl (op_fld_ptr (by decide) rfl (Opd.tmp _ _ rfl)) ?_
        refine Run.load (dd := some 22) rfl rfl (op_load1_flat rfl (Opd.tmp _ _ rfl) tH rfl) ?_
        refine Run.pure (dd := some 23) rfl rfl (op_len_fz rfl (by first | exact Opd.tmp _ _ rfl | exact Opd.nil _ _ (Opd.tmp _ _ rfl)) (by first | exact List.length_map _ | rfl)) ?_
        refine Run.pure (dd := some 24) rfl rfl (op_move rfl (Opd.tmp _ _ rfl)) ?_
        refine Run.pure (dd := some 25) rfl rfl (op_addw rfl (Opd.tmp _ _ rfl) (Opd.tmp _ _ rfl)) ?_
        refine Run.pure (dd := some 4) rfl rfl (op_assign rfl (Opd.tmp _ _ rfl)) ?_
        refine Run.nil (FinR.mk ?_)
        refine nK ?_
        (first | exact s_o1 hC rfl tV | exact s_o2 hC rfl tV tV | exact s_o3 hC rfl tV tV tV | exact s_o4 hC rfl tV tV tV tV | exact s_out0 hC rfl | exact s_outO hC rfl rfl rfl)
      · rw [if_neg (by rw [hb]; decide)] at hS
        refine nK ?_
        refine s_reg rfl ?_
        refine Run.pure (dd := some 11) rfl rfl (op_move rfl (Opd.tmp _ _ rfl)) ?_
        refine Run.pure (dd := some 12) rfl rfl (op_add rfl (Opd.tmp _ _ rfl) (Opd.const _) tI) ?_
        refine Run.pure (dd := some 5) rfl rfl (op_assign rfl (Opd.tmp _ _ rfl)) ?_
        refine Run.nil (FinR.mk ?_)
        refine nK ?_
        refine Next.weakS [2] [] (by rfl) (by first | exact keeps0 hC _ | exact keepsN hC _ rfl) (by repeat (first | exact trivial | refine ⟨⟨_, rfl, .inl ⟨rfl, rfl⟩⟩, ?_⟩ | refine ⟨⟨_, rfl, .inl ⟨slEq rfl tN, rfl⟩⟩, ?_⟩ | refine ⟨⟨_, rfl, .inl ⟨ivEq tX, rfl⟩⟩, ?_⟩)) (by repeat (first | exact trivial | refine ⟨ent_same rfl rfl rfl tL, ?_⟩ | refine ⟨ent_same rfl rfl (rfEq rfl tU) tL, ?_⟩ | refine ⟨ent_same rfl rfl (flEq rfl (by first | (simp; done) | (simp; omega) | (simp [encA, encH, encL, encU, encK, encV, encR]; done) | simp [maxC, minC])) trivial, ?_⟩)) rfl ((hK1 hS))
    · have hie : i = a.ns.length := by simp at hb; omega
      rw [hie, List.drop_length] at hS
      rw [← hS, show idxGo (fun x : NetV => decide (x.id = r)) a.ns.length [] = -1 from rfl, if_pos (by decide)]
      refine nK ?_
      refine s_reg rfl ?_
      refine Run.pure (dd := some 4) rfl rfl (op_assign rfl (Opd.const _)) ?_
      refine Run.nil (FinR.mk ?_)
      refine nK ?_
      (first | exact s_o1 hC rfl tV | exact s_o2 hC rfl tV tV | exact s_o3 hC rfl tV tV tV | exact s_o4 hC rfl tV tV tV tV | exact s_out0 hC rfl | exact s_outO hC rfl rfl rfl)
theorem rstubs_f (db : List Lsa) (r : Int) (hn : lenOk db.length) (hm : ((ownGo r db).getD zeroA).ls.length ≤ 40000000) : Meets Try.prog 22 ([VA db, If .u32 r].map PV.fz) 0 [] (.sl 0 4 0 (stubsL ((ownGo r db).getD zeroA).ls).length) [(0, some (.flat 4 ((stubsL ((ownGo r db).getD zeroA).ls).map encL)))] 1 := by
  refine Meets.intro Try.func22 rfl (Nat.le_of_ble_eq_true rfl) fun C hC => ?_
  simp only [List.map, argEnv, Nat.reduceAdd]
  refine nK ?_
  refine s_reg rfl ?_
  refine Run.pure (dd := some 4) rfl rfl (op_assign rfl (Opd.const _)) ?_
  refine Run.nil (FinR.mk ?_)
  refine nK ?_
  refine s_reg rfl ?_
  refine Run.eff (dd := some 9) rfl rfl (op_buildSlice_own rfl (RowsF.nil _) rfl rfl rfl) ?_
  refine Run.pure (dd := some 5) rfl rfl (op_assign rfl (Opd.tmp _ _ rfl)) ?_
  refine Run.nil (FinR.mk ?_)
  refine nK ?_
  refine s_reg rfl ?_
  refine Run.pure (dd := some 11) rfl rfl (op_move rfl (Opd.tmp _ _ rfl)) ?_
  refine Run.pure (dd := some 12) rfl rfl (op_move rfl (Opd.tmp _ _ rfl)) ?_
  refine Run.pure (dd := some 13) rfl rfl (op_call_pure (fun _ => own_c _ _ (by assumption)) rfl (Opd.func _) (Opds.cons _ _ _ _ (Opd.tmp _ _ rfl) (Opds.cons _ _ _ _ (Opd.tmp _ _ rfl) Opds.nil))) ?_
  refine Run.pure (dd := some 10) rfl rfl (op_move rfl (Opd.tmp _ _ rfl)) ?_
  refine Run.pure (dd := some 14) rfl rfl (op_extract_fz rfl (Opd.tmp _ _ rfl) rfl) ?_
  refine Run.pure (dd := some 15) rfl rfl (op_extract_fz rfl (Opd.tmp _ _ rfl) rfl) ?_
  refine Run.eff (dd := some 6) rfl rfl (op_alloc rfl rfl rfl rfl) ?_
  refine Run.eff (dd := none) rfl rfl (op_store_flat rfl (Opd.tmp _ _ rfl) (Opd.tmp _ _ rfl) tC rfl rfl (by first | rfl | assumption) tS) ?_
  refine Run.pure (dd := some 7) rfl rfl (op_assign rfl (Opd.tmp _ _ rfl)) ?_
  refine Run.nil (FinR.mk ?_)
  refine nK ?_
  generalize (ownGo r db).getD zeroA = l at *
  refine nK ?_
  refine s_reg rfl ?_
  refine Run.pure (dd := some 8) rfl rfl (op_assign rfl (Opd.const _)) ?_
  refine Run.nil (FinR.mk ?_)
  refine nK ?_
  refine n_loop (ι := Nat × List Lnk) (fun p => ([(5, .sl 1 4 0 p.2.length), (6, .ptr 0 15 0 0), (8, IV .i64 p.1)], [(0, OA l), (1, some (.flat 4 (p.2.map encL)))], 2)) (fun p => p.1 ≤ l.ls.length ∧ p.2 = stubsL (l.ls.take p.1)) (fun p => l.ls.length - p.1) (0, []) ⟨Nat.zero_le _, by simp [stubsL]⟩ ?_ ?_
  · refine Next.weakS [6, 5] [] (by rfl) (by first | exact keeps0 hC _ | exact keepsN hC _ rfl) (by repeat (first | exact trivial | refine ⟨⟨_, rfl, .inl ⟨rfl, rfl⟩⟩, ?_⟩ | refine ⟨⟨_, rfl, .inl ⟨slEq rfl tN, rfl⟩⟩, ?_⟩ | refine ⟨⟨_, rfl, .inl ⟨ivEq tX, rfl⟩⟩, ?_⟩)) (by repeat (first | exact trivial | refine ⟨ent_same rfl rfl rfl tL, ?_⟩ | refine ⟨ent_same rfl rfl (rfEq rfl tU) tL, ?_⟩ | refine ⟨ent_same rfl rfl (flEq rfl (by first | (simp; done) | (simp; omega) | (simp [encA, encH, encL, encU, encK, encV, encR]; done) | simp [maxC, minC])) trivial, ?_⟩)) rfl (rel_intro)
  · intro ⟨i, c⟩ ⟨hi, hS⟩ K hK
    dsimp only at hi hS ⊢
    have hcl : c.length ≤ i := by rw [hS]; exact Nat.le_trans (stubs_len _) (by simp; omega)
    refine nK ?_
    refine s_reg rfl ?_
    refine Run.pure (dd := some 16) rfl rfl (op_move rfl (Opd.tmp _ _ rfl)) ?_
    refine Run.pure (dd := some 17) rfl rfl (op_fld_ptr (by decide) rfl (Opd.tmp _ _ rfl)) ?_
    refine Run.load (dd := some 18) rfl rfl (op_load1_flat rfl (Opd.tmp _ _ rfl) tH rfl) ?_
    refine Run.pure (dd := some 19) rfl rfl (op_len_fz rfl (by first | exact Opd.tmp _ _ rfl | exact Opd.nil _ _ (Opd.tmp _ _ rfl)) (by first | exact List.length_map _ | rfl)) ?_
    refine Run.pure (dd := some 20) rfl rfl (op_lss rfl (Opd.tmp _ _ rfl) (Opd.tmp _ _ rfl)) ?_
    refine Run.nil (FinR.mk ?_)
    refine nK ?_
    refine n_cond _ rfl (fun hb => ?_) (fun hb => ?_)
    · have hlt : i < l.ls.length := by simp at hb; omega
      have hr1 := row_at' encL l.ls i hlt
      have hst := stubs_take hlt
      have hK1 := fun c' h => hK (i + 1, c') ⟨by dsimp only; omega, h⟩ (by dsimp only; omega)
      refine nK ?_
      refine s_reg rfl ?_
      refine Run.pure (dd := some 23) rfl rfl (op_fld_ptr (by decide) rfl (Opd.tmp _ _ rfl)) ?_
      refine Run.load (dd := some 24) rfl rfl (op_load1_flat rfl (Opd.tmp _ _ rfl) tH rfl) ?_
      refine Run.pure (dd := some 25) rfl rfl (op_move rfl (Opd.tmp _ _ rfl)) ?_
      refine Run.pure (dd := some 26) rfl rfl (op_idx_fz _ rfl (Opd.tmp _ _ rfl) (Opd.tmp _ _ rfl) tF) ?_
      refine Run.pure (dd := some 27) rfl rfl (op_fld_fz (by decide) rfl (Opd.tmp _ _ rfl) tR) ?_
      refine Run.pure (dd := some 28) rfl rfl (op_load1_fz rfl (Opd.tmp _ _ rfl) rfl) ?_
      refine Run.pure (dd := some 29) rfl rfl (op_eql rfl (Opd.tmp _ _ rfl) (Opd.const _)) ?_
      refine Run.nil (FinR.mk ?_)
      refine nK ?_
      refine n_cond _ rfl (fun hb => ?_) (fun hb => ?_)
      · rw [if_pos hb, ← hS] at hst
        have hK2 := hK1 _ hst.symm
        have hel : (c ++ [l.ls[i]]).length = c.length + 1 := by simp
        rw [hel] at hK2
        refine nK ?_
        refine s_reg rfl ?_
        refine Run.pure (dd := some 30) rfl rfl (op_move rfl (Opd.tmp _ _ rfl)) ?_
        refine Run.pure (dd := some 31) rfl rfl (op_fld_ptr (by decide) rfl (Opd.tmp _ _ rfl)) ?_
        refine Run.load (dd := some 32) rfl rfl (op_load1_flat rfl (Opd.tmp _ _ rfl) tH rfl) ?_
        refine Run.pure (dd := some 33) rfl rfl (op_move rfl (Opd.tmp _ _ rfl)) ?_
        refine Run.pure (dd := some 34) rfl rfl (op_idx_fz _ rfl (Opd.tmp _ _ rfl) (Opd.tmp _ _ rfl) tF) ?_
        refine Run.pure (dd := some 35) rfl rfl (op_loadw_fz rfl (Opd.tmp _ _ rfl) rfl) ?_
        refine Run.eff (dd := some 36) rfl rfl (op_buildSlice_own rfl (RowsF.cons _ _ _ _ _ _ (Opd.tmp _ _ rfl) tC (by rfl) (RowsF.nil _)) rfl rfl rfl) ?_
        refine Run.eff (dd := some 37) rfl rfl (op_append_own0 rfl (Opd.tmp _ _ rfl) (Opd.tmp _ _ rfl) rfl (by first | rfl | simp) rfl (by first | rfl | simp) rfl rfl tB tB) ?_
        refine Run.pure (dd := some 5) rfl rfl (op_assign rfl (Opd.tmp _ _ rfl)) ?_
        refine Run.nil (FinR.mk ?_)
        refine nK ?_
        refine s_reg rfl ?_
        refine Run.pure (dd := some 21) rfl rfl (op_move rfl (Opd.tmp _ _ rfl)) ?_
        refine Run.pure (dd := some 22) rfl rfl (op_add rfl (Opd.tmp _ _ rfl) (Opd.const _) tI) ?_
        refine Run.pure (dd := some 8) rfl rfl (op_assign rfl (Opd.tmp _ _ rfl)) ?_
        refine Run.nil (FinR.mk ?_)
        refine nK ?_
        refine Next.weakS [6, 5] [] (by rfl) (by first | exact keeps0 hC _ | exact keepsN hC _ rfl) (by repeat (first | exact trivial | refine ⟨⟨_, rfl, .inl ⟨rfl, rfl⟩⟩, ?_⟩ | refine ⟨⟨_, rfl, .inl ⟨slEq rfl tN, rfl⟩⟩, ?_⟩ | refine ⟨⟨_, rfl, .inl ⟨ivEq tX, rfl⟩⟩, ?_⟩)) (by repeat (first | exact trivial | refine ⟨ent_same rfl rfl rfl tL, ?_⟩ | refine ⟨ent_same rfl rfl (rfEq rfl tU) tL, ?_⟩ | refine ⟨ent_same rfl rfl (flEq rfl (by first | (simp; done) | (simp; omega) | (simp [encA, encH, encL, encU, encK, encV, encR]; done) | simp [maxC, minC])) trivial, ?_⟩)) rfl (hK2)
      · rw [if_neg (by rw [hb]; decide), ← hS, List.append_nil] at hst
        refine nK ?_
        refine s_reg rfl ?_
        refine Run.pure (dd := some 21) rfl rfl (op_move rfl (Opd.tmp _ _ rfl)) ?_
        refine Run.pure (dd := some 22) rfl rfl (op_add rfl (Opd.tmp _ _ rfl) (Opd.const _) tI) ?_
        refine Run.pure (dd := some 8) rfl rfl (op_assign rfl (Opd.tmp _ _ rfl)) ?_
        refine Run.nil (FinR.mk ?_)
        refine nK ?_
        refine Next.weakS [6, 5] [] (by rfl) (by first | exact keeps0 hC _ | exact keepsN hC _ rfl) (by repeat (first | exact trivial | refine ⟨⟨_, rfl, .inl ⟨rfl, rfl⟩⟩, ?_⟩ | refine ⟨⟨_, rfl, .inl ⟨slEq rfl tN, rfl⟩⟩, ?_⟩ | refine ⟨⟨_, rfl, .inl ⟨ivEq tX, rfl⟩⟩, ?_⟩)) (by repeat (first | exact trivial | refine ⟨ent_same rfl rfl rfl tL, ?_⟩ | refine ⟨ent_same rfl rfl (rfEq rfl tU) tL, ?_⟩ | refine ⟨ent_same rfl rfl (flEq rfl (by first | (simp; done) | (simp; omega) | (simp [encA, encH, encL, encU, encK, encV, encR]; done) | simp [maxC, minC])) trivial, ?_⟩)) rfl ((hK1 c hst.symm))
    · have hie : i = l.ls.length := by simp at hb; omega
      rw [hie, List.take_length] at hS
      rw [← hS]
      refine nK ?_
      refine s_reg rfl ?_
      refine Run.pure (dd := some 38) rfl rfl (op_move rfl (Opd.tmp _ _ rfl)) ?_
      refine Run.pure (dd := some 4) rfl rfl (op_assign rfl (Opd.tmp _ _ rfl)) ?_
      refine Run.nil (FinR.mk ?_)
      refine nK ?_
      (first | exact s_o1 hC rfl tV | exact s_o2 hC rfl tV tV | exact s_o3 hC rfl tV tV tV | exact s_o4 hC rfl tV tV tV tV | exact s_out0 hC rfl | exact s_outO hC rfl rfl rfl)
theorem rstubs_c (db : List Lsa) (r : Int) (hn : lenOk db.length) (hm : ((ownGo r db).getD zeroA).ls.length ≤ 40000000) : Pure Try.prog 22 [VA db, If .u32 r] (VL (stubsL ((ownGo r db).getD zeroA).ls)) := (rstubs_f db r hn hm).freeze (by simp)
theorem slinks_c (a b : List Lnk) (ha : lenOk a.length) (hb0 : lenOk b.length) : Pure Try.prog 20 [VL a, VL b] (Bf (decide (a = b))) := by
  refine Meets.intro Try.func20 rfl (Nat.le_of_ble_eq_true rfl) fun C hC => ?_
  simp only [List.map, argEnv, Nat.reduceAdd]
  refine nK ?_
  refine s_reg rfl ?_
  refine Run.pure (dd := some 4) rfl rfl (op_assign rfl (Opd.const _)) ?_
  refine Run.nil (FinR.mk ?_)
  refine nK ?_
  refine s_reg rfl ?_
  refine Run.pure (dd := some 6) rfl rfl (op_move rfl (Opd.tmp _ _ rfl)) ?_
  refine Run.pure (dd := some 7) rfl rfl (op_len_fz rfl (by first | exact Opd.tmp _ _ rfl | exact Opd.nil _ _ (Opd.tmp _ _ rfl)) (by first | exact List.length_map _ | rfl)) ?_
  refine Run.pure (dd := some 8) rfl rfl (op_move rfl (Opd.tmp _ _ rfl)) ?_
  refine Run.pure (dd := some 9) rfl rfl (op_len_fz rfl (by first | exact Opd.tmp _ _ rfl | exact Opd.nil _ _ (Opd.tmp _ _ rfl)) (by first | exact List.length_map _ | rfl)) ?_
  refine Run.pure (dd := some 10) rfl rfl (op_neq rfl (Opd.tmp _ _ rfl) (Opd.tmp _ _ rfl)) ?_
  refine Run.nil (FinR.mk ?_)
  refine nK ?_
  refine n_cond _ rfl (fun hb => ?_) (fun hb => ?_)
  · have e : decide (a = b) = false := by
      rw [decide_eq_false_iff_not]; rintro rfl; simp at hb
    rw [e]
    refine nK ?_
    refine s_reg rfl ?_
    refine Run.pure (dd := some 4) rfl rfl (op_assign rfl (Opd.const _)) ?_
    refine Run.nil (FinR.mk ?_)
    refine nK ?_
    (first | exact s_o1 hC rfl tV | exact s_o2 hC rfl tV tV | exact s_o3 hC rfl tV tV tV | exact s_o4 hC rfl tV tV tV tV | exact s_out0 hC rfl | exact s_outO hC rfl rfl rfl)
  · have hl : a.length = b.length := by simp at hb; omega
    refine nK ?_
    refine s_reg rfl ?_
    refine Run.pure (dd := some 5) rfl rfl (op_assign rfl (Opd.const _)) ?_
    refine Run.nil (FinR.mk ?_)
    refine nK ?_
    refine n_loop (ι := Nat) (fun i => ([(0, .fz (VL a)), (1, .fz (VL b)), (5, IV .i64 i)], [], 0)) (fun i => i ≤ a.length ∧ (a = b ↔ a.drop i = b.drop i)) (fun i => a.length - i) 0 ⟨Nat.zero_le _, Iff.rfl⟩ ?_ ?_
    · refine Next.weak [] [] (by rfl) (keeps0 hC _) (by repeat (first | exact trivial | refine ⟨⟨_, rfl, .inl ⟨rfl, rfl⟩⟩, ?_⟩)) (by repeat (first | exact trivial | refine ⟨ent_same rfl rfl rfl tL, ?_⟩ | refine ⟨ent_same rfl rfl (rfEq rfl tU) tL, ?_⟩ | refine ⟨ent_same rfl rfl (flEq rfl (by first | (simp; done) | (simp; omega) | (simp [encA, encH, encL, encU, encK, encV, encR]; done) | simp [maxC, minC])) trivial, ?_⟩)) (fun _ h => by simp at h) rel_intro
    · intro i ⟨hi, ho⟩ K hK
      refine nK ?_
      refine s_reg rfl ?_
      refine Run.pure (dd := some 11) rfl rfl (op_move rfl (Opd.tmp _ _ rfl)) ?_
      refine Run.pure (dd := some 12) rfl rfl (op_move rfl (Opd.tmp _ _ rfl)) ?_
      refine Run.pure (dd := some 13) rfl rfl (op_len_fz rfl (by first | exact Opd.tmp _ _ rfl | exact Opd.nil _ _ (Opd.tmp _ _ rfl)) (by first | exact List.length_map _ | rfl)) ?_
      refine Run.pure (dd := some 14) rfl rfl (op_lss rfl (Opd.tmp _ _ rfl) (Opd.tmp _ _ rfl)) ?_
      refine Run.nil (FinR.mk ?_)
      refine nK ?_
      refine n_cond _ rfl (fun hb => ?_) (fun hb => ?_)
      · have hlt : i < a.length := by simp at hb; omega
        have hlt2 : i < b.length := by omega
        rw [same_step hlt hlt2] at ho
        have hr1 := row_at' encL a i hlt
        have hr2 := row_at' encL b i hlt2
        have hK1 := fun h => hK (i + 1) ⟨by omega, h⟩ (by omega)
        generalize a[i] = x at *
        generalize b[i] = y at *
        refine nK ?_
        refine s_draw mixed ?_
        refine Run.pure (dd := some 17) rfl rfl (op_move rfl (Opd.tmp _ _ rfl)) ?_
        refine Run.pure (dd := some 18) rfl rfl (op_move rfl (Opd.tmp _ _ rfl)) ?_
        refine Run.pure (dd := some 19) rfl rfl (op_idx_fz _ rfl (Opd.tmp _ _ rfl) (Opd.tmp _ _ rfl) tF) ?_
        refine Run.pure (dd := some 20) rfl rfl (op_loadw_fz rfl (Opd.tmp _ _ rfl) rfl) ?_
        refine Run.pure (dd := some 21) rfl rfl (op_move rfl (Opd.tmp _ _ rfl)) ?_
        refine Run.pure (dd := some 22) rfl rfl (op_move rfl (Opd.tmp _ _ rfl)) ?_
        refine Run.pure (dd := some 23) rfl rfl (op_idx_fz _ rfl (Opd.tmp _ _ rfl) (Opd.tmp _ _ rfl) tF) ?_
        refine Run.pure (dd := some 24) rfl rfl (op_loadw_fz rfl (Opd.tmp _ _ rfl) rfl) ?_
        refine Run.pure (dd := some 25) rfl rfl (op_neS rfl (Opd.tmp _ _ rfl) (Opd.tmp _ _ rfl) (by kernel_rfl)) ?_
        refine Run.nil (FinD.mk (by kernel_rfl) ?_)
        refine nK ?_
        refine n_cond _ rfl (fun hb => ?_) (fun hb => ?_)
        · have e : decide (a = b) = false := by
            rw [decide_eq_false_iff_not, ho]; rw [eqFs_encL] at hb; simp at hb; exact fun h => hb h.1
          rw [e]
          refine nK ?_
          refine s_reg rfl ?_
          refine Run.pure (dd := some 4) rfl rfl (op_assign rfl (Opd.const _)) ?_
          refine Run.nil (FinR.mk ?_)
          refine nK ?_
          (first | exact s_o1 hC rfl tV | exact s_o2 hC rfl tV tV | exact s_o3 hC rfl tV tV tV | exact s_o4 hC rfl tV tV tV tV | exact s_out0 hC rfl | exact s_outO hC rfl rfl rfl)
        · rw [eqFs_encL] at hb
          refine nK ?_
          refine s_reg rfl ?_
          refine Run.pure (dd := some 15) rfl rfl (op_move rfl (Opd.tmp _ _ rfl)) ?_
          refine Run.pure (dd := some 16) rfl rfl (op_add rfl (Opd.tmp _ _ rfl) (Opd.const _) tI) ?_
          refine Run.pure (dd := some 5) rfl rfl (op_assign rfl (Opd.tmp _ _ rfl)) ?_
          refine Run.nil (FinR.mk ?_)
          refine nK ?_
          refine Next.weak [] [] (by rfl) (keeps0 hC _) (by repeat (first | exact trivial | refine ⟨⟨_, rfl, .inl ⟨rfl, rfl⟩⟩, ?_⟩)) (by repeat (first | exact trivial | refine ⟨ent_same rfl rfl rfl tL, ?_⟩ | refine ⟨ent_same rfl rfl (rfEq rfl tU) tL, ?_⟩ | refine ⟨ent_same rfl rfl (flEq rfl (by first | (simp; done) | (simp; omega) | (simp [encA, encH, encL, encU, encK, encV, encR]; done) | simp [maxC, minC])) trivial, ?_⟩)) (fun _ h => by simp at h) (hK1 (ho.trans ⟨fun h => h.2, fun h => ⟨by simpa using hb, h⟩⟩))
      · have hie : i = a.length := by simp at hb; omega
        have e : decide (a = b) = true := by
          rw [decide_eq_true_iff, ho, hie, List.drop_length, hl, List.drop_length]
        rw [e]
        refine nK ?_
        refine s_reg rfl ?_
        refine Run.pure (dd := some 4) rfl rfl (op_assign rfl (Opd.const _)) ?_
        refine Run.nil (FinR.mk ?_)
        refine nK ?_
        (first | exact s_o1 hC rfl tV | exact s_o2 hC rfl tV tV | exact s_o3 hC rfl tV tV tV | exact s_o4 hC rfl tV tV tV tV | exact s_out0 hC rfl | exact s_outO hC rfl rfl rfl)
end Go.Proofs.Ytdhkioocjgpocaa
/- Elements that a test holds for are dropped. -/
namespace Go.Pl
set_option linter.all false
def keepL {α : Type} (p : α → Bool) (l : List α) : List α := l.filter fun x => !p x
def idxAt {α : Type} (p : α → Bool) : Nat → List α → Int
  | _, [] => -1
  | k, x :: l => bif p x then (k : Int) else idxAt p (k + 1) l
theorem idxAt_spec {α : Type} (p : α → Bool) : ∀ (l : List α) (k : Nat), (idxAt p k l = -1 ∧ keepL p l = l) ∨ ∃ j : Nat, ∃ h : j < l.length, idxAt p k l = ((k + j : Nat) : Int) ∧ p l[j] = true ∧ keepL p (l.take j) = l.take j
  | [], k => .inl ⟨rfl, rfl⟩
  | x :: l, k => by
    cases hx : p x with
    | true => exact .inr ⟨0, by simp, by simp [idxAt, hx], by simpa using hx, by simp [keepL]⟩
    | false =>
      have e : idxAt p k (x :: l) = idxAt p (k + 1) l := by simp [idxAt, hx]
      rw [e]
      rcases idxAt_spec p l (k + 1) with ⟨h1, h2⟩ | ⟨j, hj, h1, h2, h3⟩
      · refine .inl ⟨h1, ?_⟩
        unfold keepL at *; simp [hx, h2]
      · refine .inr ⟨j + 1, by simpa using hj, by rw [h1]; omega, by simpa using h2, ?_⟩
        unfold keepL at *; simp [hx, h3]
theorem keep_len {α : Type} (p : α → Bool) (l : List α) : (keepL p l).length ≤ l.length := List.length_filter_le _ _
theorem keep_take {α : Type} (p : α → Bool) (l : List α) (n : Nat) (h : n < l.length) : keepL p (l.take (n + 1)) = keepL p (l.take n) ++ bif p l[n] then [] else [l[n]] := by
  unfold keepL
  rw [List.take_succ_eq_append_getElem h, List.filter_append]
  congr 1
  cases hp : p l[n] <;> simp [hp]
theorem keep_len_lt {α : Type} (p : α → Bool) (l : List α) (j : Nat) (h : j < l.length) (hp : p l[j] = true) (n : Nat) (hn : j < n) (hnl : n ≤ l.length) : (keepL p (l.take n)).length < n := by
  obtain ⟨d, rfl⟩ : ∃ d, n = j + 1 + d := ⟨n - (j + 1), by omega⟩
  clear hn
  induction d with
  | zero =>
    rw [Nat.add_zero, keep_take p l j h, hp, cond_true, List.append_nil]
    have := keep_len p (l.take j)
    simp at this; omega
  | succ d ih =>
    have := ih (by omega)
    rw [← Nat.add_assoc, keep_take p l (j + 1 + d) (by omega), List.length_append]
    cases p l[j + 1 + d] <;> simp <;> omega
end Go.Pl
namespace Go.Proofs.Ytdhkioocjgpocaa
open Go Go.RT Go.Proofs Go.Pl
set_option linter.all false
set_option maxRecDepth 20000
abbrev OLk (l : List Lnk) : Option Ob := some (.flat 4 (l.map encL))
theorem indexL_c (l : List Lnk) (hn : l.length ≤ 40000000) (gf : Nat) [FnB Try.prog gf] (caps : List FV) (p : Lnk → Bool) (hp : ∀ x, Pure Try.prog gf ([.agg (encL x)] ++ caps) (Bf (p x))) : Pure Try.prog 74 [VL l, .clo gf caps] (If .i64 (idxAt p 0 l)) := by
  refine Meets.intro Try.func74 rfl (Nat.le_of_ble_eq_true rfl) fun C hC => ?_
  simp only [List.map, argEnv, Nat.reduceAdd]
  refine nK ?_
  refine s_reg rfl ?_
  refine Run.pure (dd := some 4) rfl rfl (op_assign rfl (Opd.const _)) ?_
  refine Run.nil (FinR.mk ?_)
  refine nK ?_
  refine s_reg rfl ?_
  refine Run.pure (dd := some 6) rfl rfl (op_move rfl (Opd.tmp _ _ rfl)) ?_
  refine Run.pure (dd := some 7) rfl rfl (op_len_fz rfl (by first | exact Opd.tmp _ _ rfl | exact Opd.nil _ _ (Opd.tmp _ _ rfl)) (by first | exact List.length_map _ | rfl)) ?_
  refine Run.pure (dd := some 8) rfl rfl (op_move rfl (Opd.const _)) ?_
  refine Run.nil (FinR.mk ?_)
  refine nK ?_
  refine n_loop (ι := Nat) (fun i => ([(0, .fz (VL l)), (1, .fz (.clo gf caps)), (7, IV .i64 l.length), (8, IV .i64 i)], [], 0)) (fun i => i ≤ l.length ∧ idxAt p i (l.drop i) = idxAt p 0 l) (fun i => l.length - i) 0 ⟨Nat.zero_le _, rfl⟩ ?_ ?_
  · refine Next.weak [] [] (by rfl) (keeps0 hC _) (by repeat (first | exact trivial | refine ⟨⟨_, rfl, .inl ⟨rfl, rfl⟩⟩, ?_⟩)) (by repeat (first | exact trivial | refine ⟨ent_same rfl rfl rfl tL, ?_⟩ | refine ⟨ent_same rfl rfl (rfEq rfl tU) tL, ?_⟩ | refine ⟨ent_same rfl rfl (flEq rfl (by first | (simp; done) | (simp; omega) | (simp [encA, encH, encL, encU, encK, encV, encR]; done) | simp [maxC, minC])) trivial, ?_⟩)) (fun _ h => by simp at h) rel_intro
  · intro i ⟨hi, ho⟩ K hK
    refine nK ?_
    refine s_reg rfl ?_
    refine Run.pure (dd := some 9) rfl rfl (op_lss rfl (Opd.tmp _ _ rfl) (Opd.tmp _ _ rfl)) ?_
    refine Run.nil (FinR.mk ?_)
    refine nK ?_
    refine n_cond _ rfl (fun hb => ?_) (fun hb => ?_)
    · have hlt : i < l.length := by simp at hb; omega
      have hr1 := row_at' encL l i hlt
      rw [List.drop_eq_getElem_cons hlt] at ho
      simp only [idxAt] at ho
      have hK1 := fun h => hK (i + 1) ⟨by omega, h⟩ (by omega)
      generalize l[i] = e at *
      refine nK ?_
      refine s_reg rfl ?_
      refine Run.pure (dd := some 10) rfl rfl (op_move rfl (Opd.tmp _ _ rfl)) ?_
      refine Run.pure (dd := some 5) rfl rfl (op_assign rfl (Opd.tmp _ _ rfl)) ?_
      refine Run.nil (FinR.mk ?_)
      refine nK ?_
      refine s_reg rfl ?_
      refine Run.pure (dd := some 11) rfl rfl (op_move rfl (Opd.tmp _ _ rfl)) ?_
      refine Run.pure (dd := some 12) rfl rfl (op_move rfl (Opd.tmp _ _ rfl)) ?_
      refine Run.pure (dd := some 13) rfl rfl (op_move rfl (Opd.tmp _ _ rfl)) ?_
      refine Run.pure (dd := some 14) rfl rfl (op_idx_fz _ rfl (Opd.tmp _ _ rfl) (Opd.tmp _ _ rfl) tF) ?_
      refine Run.pure (dd := some 15) rfl rfl (op_loadw_fz rfl (Opd.tmp _ _ rfl) rfl) ?_
      refine Run.pure (dd := some 16) rfl rfl (op_call_pureC (fun _ => hp e) rfl (Opd.tmp _ _ rfl) (Opds.cons _ _ _ _ (Opd.tmp _ _ rfl) Opds.nil)) ?_
      refine Run.nil (FinR.mk ?_)
      refine nK ?_
      refine n_cond _ rfl (fun hb => ?_) (fun hb => ?_)
      · rw [hb, cond_true] at ho
        rw [← ho]
        refine nK ?_
        refine s_reg rfl ?_
        refine Run.pure (dd := some 17) rfl rfl (op_move rfl (Opd.tmp _ _ rfl)) ?_
        refine Run.pure (dd := some 4) rfl rfl (op_assign rfl (Opd.tmp _ _ rfl)) ?_
        refine Run.nil (FinR.mk ?_)
        refine nK ?_
        (first | exact s_o1 hC rfl tV | exact s_o2 hC rfl tV tV | exact s_o3 hC rfl tV tV tV | exact s_o4 hC rfl tV tV tV tV | exact s_out0 hC rfl | exact s_outO hC rfl rfl rfl)
      · rw [hb, cond_false] at ho
        refine nK ?_
        refine s_reg rfl ?_
        refine Run.pure (dd := some 18) rfl rfl (op_add rfl (Opd.tmp _ _ rfl) (Opd.const _) tI) ?_
        refine Run.pure (dd := some 8) rfl rfl (op_move rfl (Opd.tmp _ _ rfl)) ?_
        refine Run.nil (FinR.mk ?_)
        refine nK ?_
        refine Next.weak [] [] (by rfl) (keeps0 hC _) (by repeat (first | exact trivial | refine ⟨⟨_, rfl, .inl ⟨rfl, rfl⟩⟩, ?_⟩)) (by repeat (first | exact trivial | refine ⟨ent_same rfl rfl rfl tL, ?_⟩ | refine ⟨ent_same rfl rfl (rfEq rfl tU) tL, ?_⟩ | refine ⟨ent_same rfl rfl (flEq rfl (by first | (simp; done) | (simp; omega) | (simp [encA, encH, encL, encU, encK, encV, encR]; done) | simp [maxC, minC])) trivial, ?_⟩)) (fun _ h => by simp at h) (hK1 ho)
    · have hie : i = l.length := by simp at hb; omega
      rw [hie, List.drop_length] at ho
      rw [← ho]
      refine nK ?_
      refine s_reg rfl ?_
      refine Run.pure (dd := some 4) rfl rfl (op_assign rfl (Opd.const _)) ?_
      refine Run.nil (FinR.mk ?_)
      refine nK ?_
      (first | exact s_o1 hC rfl tV | exact s_o2 hC rfl tV tV | exact s_o3 hC rfl tV tV tV | exact s_o4 hC rfl tV tV tV tV | exact s_out0 hC rfl | exact s_outO hC rfl rfl rfl)
theorem deleteL_c (l : List Lnk) (hn : l.length ≤ 40000000) (gf : Nat) [FnB Try.prog gf] (caps : List FV) (p : Lnk → Bool) (hp : ∀ x, Pure Try.prog gf ([.agg (encL x)] ++ caps) (Bf (p x))) : Meets Try.prog 47 [.sl 0 4 0 l.length, .fz (.clo gf caps)] 1 [(0, OLk l)] (.fz (VL (keepL p l))) [] 1 := by
  have hix := indexL_c l hn gf caps p hp
  refine Meets.intro Try.func47 rfl (Nat.le_of_ble_eq_true rfl) fun C hC => ?_
  simp only [List.map, argEnv, Nat.reduceAdd]
  refine nK ?_
  refine s_reg rfl ?_
  refine Run.pure (dd := some 4) rfl rfl (op_assign rfl (Opd.const _)) ?_
  refine Run.nil (FinR.mk ?_)
  refine nK ?_
  refine s_reg rfl ?_
  refine Run.pure (dd := some 8) rfl rfl (op_move rfl (Opd.tmp _ _ rfl)) ?_
  refine Run.pure (dd := some 9) rfl rfl (op_move rfl (Opd.tmp _ _ rfl)) ?_
  refine Run.load (dd := some 10) rfl rfl (op_call_lend [0] (fun _ => hix) rfl (Opd.func _) (Opds.cons _ _ _ _ (Opd.tmp _ _ rfl) (Opds.cons _ _ _ _ (Opd.tmp _ _ rfl) Opds.nil)) (by exact .cons _ _ _ _ tW (.cons _ _ _ _ tW .nil)) rfl rfl) ?_
  refine Run.pure (dd := some 5) rfl rfl (op_assign rfl (Opd.tmp _ _ rfl)) ?_
  refine Run.nil (FinR.mk ?_)
  refine nK ?_
  refine s_reg rfl ?_
  refine Run.pure (dd := some 11) rfl rfl (op_move rfl (Opd.tmp _ _ rfl)) ?_
  refine Run.pure (dd := some 12) rfl rfl (op_eql rfl (Opd.tmp _ _ rfl) (Opd.const _)) ?_
  refine Run.nil (FinR.mk ?_)
  refine nK ?_
  rcases idxAt_spec p l 0 with ⟨h1, h2⟩ | ⟨j, hj, h1, h2, h3⟩
  · rw [h1, h2]
    refine nK ?_
    refine n_cond _ rfl (fun hb => ?_) (fun hb => ?_)
    · refine nK ?_
      refine s_reg rfl ?_
      refine Run.pure (dd := some 13) rfl rfl (op_move rfl (Opd.tmp _ _ rfl)) ?_
      refine Run.pure (dd := some 4) rfl rfl (op_assign rfl (Opd.tmp _ _ rfl)) ?_
      refine Run.nil (FinR.mk ?_)
      refine nK ?_
      refine Next.weakS [4] [4] (by rfl) (keepsN hC _ rfl) (G' := [(4, .fz (VL l))]) (H' := []) (by repeat (first | exact trivial | refine ⟨⟨_, rfl, .inl ⟨rfl, rfl⟩⟩, ?_⟩ | refine ⟨⟨_, rfl, .inl ⟨slEq rfl tN, rfl⟩⟩, ?_⟩ | refine ⟨⟨_, rfl, .inl ⟨ivEq tX, rfl⟩⟩, ?_⟩ | refine ⟨⟨_, rfl, .inr ⟨_, rfl, tW⟩⟩, ?_⟩)) trivial rfl ?_
      exact n_out1 rfl (by rfl) rfl rfl
    · simp at hb
  · rw [h1, Nat.zero_add]
    refine nK ?_
    refine n_cond _ rfl (fun hb => ?_) (fun hb => ?_)
    · simp at hb
    · have hst := keep_take p l j hj
      rw [h2, cond_true, List.append_nil, h3] at hst
      refine nK ?_
      refine s_reg rfl ?_
      refine Run.pure (dd := some 14) rfl rfl (op_move rfl (Opd.tmp _ _ rfl)) ?_
      refine Run.pure (dd := some 15) rfl rfl (op_add rfl (Opd.tmp _ _ rfl) (Opd.const _) tI) ?_
      refine Run.pure (dd := some 6) rfl rfl (op_assign rfl (Opd.tmp _ _ rfl)) ?_
      refine Run.nil (FinR.mk ?_)
      refine nK ?_
      refine n_loop (ι := Nat × List Lnk) (fun g => ([(0, .sl 0 4 0 l.length), (1, .fz (.clo gf caps)), (5, IV .i64 g.2.length), (6, IV .i64 g.1)], [(0, OLk (g.2 ++ l.drop g.2.length))], 1)) (fun g => j < g.1 ∧ g.1 ≤ l.length ∧ g.2 = keepL p (l.take g.1)) (fun g => l.length - g.1) (j + 1, l.take j) ⟨by dsimp only; omega, by dsimp only; omega, hst.symm⟩ ?_ ?_
      · have e1 : (l.take j).length = j := by simp; omega
        simp only [e1, List.take_append_drop]
        refine Next.weakS [0] [] (by rfl) (by first | exact keeps0 hC _ | exact keepsN hC _ rfl) (by repeat (first | exact trivial | refine ⟨⟨_, rfl, .inl ⟨rfl, rfl⟩⟩, ?_⟩ | refine ⟨⟨_, rfl, .inl ⟨slEq rfl tN, rfl⟩⟩, ?_⟩ | refine ⟨⟨_, rfl, .inl ⟨ivEq tX, rfl⟩⟩, ?_⟩)) (by repeat (first | exact trivial | refine ⟨ent_same rfl rfl rfl tL, ?_⟩ | refine ⟨ent_same rfl rfl (rfEq rfl tU) tL, ?_⟩ | refine ⟨ent_same rfl rfl (flEq rfl (by first | (simp; done) | (simp; omega) | (simp [encA, encH, encL, encU, encK, encV, encR]; done) | simp [maxC, minC])) trivial, ?_⟩)) rfl (rel_intro)
      · intro ⟨i, c⟩ ⟨hi1, hi2, hcd⟩ K hK
        dsimp only at hi1 hi2 hcd ⊢
        have hcl := keep_len_lt p l j hj h2 i hi1 hi2
        rw [← hcd] at hcl
        have hkl := kept_len c l (by omega)
        refine nK ?_
        refine s_reg rfl ?_
        refine Run.pure (dd := some 16) rfl rfl (op_move rfl (Opd.tmp _ _ rfl)) ?_
        refine Run.pure (dd := some 17) rfl rfl (op_move rfl (Opd.tmp _ _ rfl)) ?_
        refine Run.pure (dd := some 18) rfl rfl (op_len_sl rfl (Opd.tmp _ _ rfl)) ?_
        refine Run.pure (dd := some 19) rfl rfl (op_lss rfl (Opd.tmp _ _ rfl) (Opd.tmp _ _ rfl)) ?_
        refine Run.nil (FinR.mk ?_)
        refine nK ?_
        refine n_cond _ rfl (fun hb => ?_) (fun hb => ?_)
        · have hlt : i < l.length := by simp at hb; omega
          have hst2 := keep_take p l i hlt
          rw [← hcd] at hst2
          have hK3 := fun c' h => hK (i + 1, c') ⟨by dsimp only; omega, by dsimp only; omega, h⟩ (by dsimp only; omega)
          have g1 := kept_row encL c l i (by omega) hlt
          have g3 := kept_row encL c l c.length (Nat.le_refl _) (by omega)
          have hset := set_kept c l l[i] (by omega)
          generalize l[i] = x at *
          refine nK ?_
          refine s_reg rfl ?_
          refine Run.pure (dd := some 22) rfl rfl (op_move rfl (Opd.tmp _ _ rfl)) ?_
          refine Run.pure (dd := some 23) rfl rfl (op_move rfl (Opd.tmp _ _ rfl)) ?_
          refine Run.pure (dd := some 24) rfl rfl (op_idx_sl0 _ rfl (Opd.tmp _ _ rfl) (Opd.tmp _ _ rfl) tD) ?_
          refine Run.load (dd := some 25) rfl rfl (op_loadw_flat rfl (Opd.tmp _ _ rfl) tH rfl) ?_
          refine Run.eff (dd := some 7) rfl rfl (op_alloc rfl rfl rfl rfl) ?_
          refine Run.eff (dd := none) rfl rfl (op_store_flat rfl (Opd.tmp _ _ rfl) (Opd.tmp _ _ rfl) tC rfl rfl (by first | rfl | assumption) tS) ?_
          refine Run.nil (FinR.mk ?_)
          refine nK ?_
          refine s_reg rfl ?_
          refine Run.pure (dd := some 26) rfl rfl (op_move rfl (Opd.tmp _ _ rfl)) ?_
          refine Run.load (dd := some 27) rfl rfl (op_loadw_flat rfl (Opd.tmp _ _ rfl) tH rfl) ?_
          refine Run.pure (dd := some 28) rfl rfl (op_call_pureC (fun _ => hp x) rfl (Opd.tmp _ _ rfl) (Opds.cons _ _ _ _ (Opd.tmp _ _ rfl) Opds.nil)) ?_
          refine Run.pure (dd := some 29) rfl rfl (op_not rfl (Opd.tmp _ _ rfl)) ?_
          refine Run.nil (FinR.mk ?_)
          refine nK ?_
          refine n_cond _ rfl (fun hb => ?_) (fun hb => ?_)
          · have hne : p x = false := by simpa using hb
            rw [hne, cond_false] at hst2
            have hK4 := hK3 (c ++ [x]) hst2.symm
            have e4 : (c ++ [x]).length = c.length + 1 := by simp
            rw [← hset, e4] at hK4
            refine nK ?_
            refine s_reg rfl ?_
            refine Run.pure (dd := some 30) rfl rfl (op_move rfl (Opd.tmp _ _ rfl)) ?_
            refine Run.pure (dd := some 31) rfl rfl (op_move rfl (Opd.tmp _ _ rfl)) ?_
            refine Run.load (dd := some 32) rfl rfl (op_loadw_flat rfl (Opd.tmp _ _ rfl) tH rfl) ?_
            refine Run.pure (dd := some 33) rfl rfl (op_idx_sl0 c.length rfl (Opd.tmp _ _ rfl) (Opd.tmp _ _ rfl) (by intro _; constructor <;> omega)) ?_
            refine Run.eff (dd := none) rfl rfl (op_store_flat rfl (Opd.tmp _ _ rfl) (Opd.tmp _ _ rfl) tC rfl rfl g3 tS) ?_
            refine Run.nil (FinR.mk ?_)
            refine nK ?_
            refine s_reg rfl ?_
            refine Run.pure (dd := some 34) rfl rfl (op_move rfl (Opd.tmp _ _ rfl)) ?_
            refine Run.pure (dd := some 35) rfl rfl (op_add rfl (Opd.tmp _ _ rfl) (Opd.const _) tI) ?_
            refine Run.pure (dd := some 5) rfl rfl (op_assign rfl (Opd.tmp _ _ rfl)) ?_
            refine Run.nil (FinR.mk ?_)
            refine nK ?_
            refine s_reg rfl ?_
            refine Run.pure (dd := some 20) rfl rfl (op_move rfl (Opd.tmp _ _ rfl)) ?_
            refine Run.pure (dd := some 21) rfl rfl (op_add rfl (Opd.tmp _ _ rfl) (Opd.const _) tI) ?_
            refine Run.pure (dd := some 6) rfl rfl (op_assign rfl (Opd.tmp _ _ rfl)) ?_
            refine Run.nil (FinR.mk ?_)
            refine nK ?_
            refine Next.weakS [0] [] (by rfl) (by first | exact keeps0 hC _ | exact keepsN hC _ rfl) (by repeat (first | exact trivial | refine ⟨⟨_, rfl, .inl ⟨rfl, rfl⟩⟩, ?_⟩ | refine ⟨⟨_, rfl, .inl ⟨slEq rfl tN, rfl⟩⟩, ?_⟩ | refine ⟨⟨_, rfl, .inl ⟨ivEq tX, rfl⟩⟩, ?_⟩)) (by repeat (first | exact trivial | refine ⟨ent_same rfl rfl rfl tL, ?_⟩ | refine ⟨ent_same rfl rfl (rfEq rfl tU) tL, ?_⟩ | refine ⟨ent_same rfl rfl (flEq rfl (by first | (simp; done) | (simp; omega) | (simp [encA, encH, encL, encU, encK, encV, encR]; done) | simp [maxC, minC])) trivial, ?_⟩)) rfl (hK4)
          · have hne : p x = true := by simpa using hb
            rw [hne, cond_true, List.append_nil] at hst2
            refine nK ?_
            refine s_reg rfl ?_
            refine Run.pure (dd := some 20) rfl rfl (op_move rfl (Opd.tmp _ _ rfl)) ?_
            refine Run.pure (dd := some 21) rfl rfl (op_add rfl (Opd.tmp _ _ rfl) (Opd.const _) tI) ?_
            refine Run.pure (dd := some 6) rfl rfl (op_assign rfl (Opd.tmp _ _ rfl)) ?_
            refine Run.nil (FinR.mk ?_)
            refine nK ?_
            refine Next.weakS [0] [] (by rfl) (by first | exact keeps0 hC _ | exact keepsN hC _ rfl) (by repeat (first | exact trivial | refine ⟨⟨_, rfl, .inl ⟨rfl, rfl⟩⟩, ?_⟩ | refine ⟨⟨_, rfl, .inl ⟨slEq rfl tN, rfl⟩⟩, ?_⟩ | refine ⟨⟨_, rfl, .inl ⟨ivEq tX, rfl⟩⟩, ?_⟩)) (by repeat (first | exact trivial | refine ⟨ent_same rfl rfl rfl tL, ?_⟩ | refine ⟨ent_same rfl rfl (rfEq rfl tU) tL, ?_⟩ | refine ⟨ent_same rfl rfl (flEq rfl (by first | (simp; done) | (simp; omega) | (simp [encA, encH, encL, encU, encK, encV, encR]; done) | simp [maxC, minC])) trivial, ?_⟩)) rfl ((hK3 c hst2.symm))
        · have hie : i = l.length := by simp at hb; omega
          rw [hie, List.take_length] at hcd
          rw [← hcd]
          refine nK ?_
          refine s_reg rfl ?_
          refine Run.pure (dd := some 36) rfl rfl (op_move rfl (Opd.tmp _ _ rfl)) ?_
          refine Run.pure (dd := some 37) rfl rfl (op_move rfl (Opd.tmp _ _ rfl)) ?_
          refine Run.load (dd := some 38) rfl rfl (op_slice_view rfl (Opd.tmp _ _ rfl) (Bnd.yes _ _ _ _ _ (Opd.tmp _ _ rfl) tQ) (Bnd.no _) (by intro _; refine ⟨rfl, ?_⟩; rw [List.length_map, hkl]; omega)) ?_
          refine Run.eff (dd := none) rfl rfl (op_clear rfl (Opd.tmp _ _ rfl) rfl rfl rfl rfl (by rw [List.length_map, hkl] <;> omega)) ?_
          refine Run.nil (FinR.mk ?_)
          refine nK ?_
          refine s_reg rfl ?_
          refine Run.pure (dd := some 39) rfl rfl (op_move rfl (Opd.tmp _ _ rfl)) ?_
          refine Run.pure (dd := some 40) rfl rfl (op_move rfl (Opd.tmp _ _ rfl)) ?_
          refine Run.load (dd := some 41) rfl rfl (op_slice_view rfl (Opd.tmp _ _ rfl) (Bnd.no _) (Bnd.yes _ _ _ _ _ (Opd.tmp _ _ rfl) tQ) (by intro _; refine ⟨rfl, ?_⟩; simp; try omega)) ?_
          refine Run.pure (dd := some 4) rfl rfl (op_assign rfl (Opd.tmp _ _ rfl)) ?_
          refine Run.nil (FinR.mk ?_)
          refine nK ?_
          refine Next.weakS [4] [4] (by rfl) (keepsN hC _ rfl) (G' := [(4, .fz (VL c))]) (H' := []) ⟨⟨_, rfl, .inr ⟨_, rfl, .sl _ _ _ _ _ _ rfl rfl (by simp) (by simp)⟩⟩, trivial⟩ trivial rfl ?_
          exact n_out1 rfl (by rfl) rfl rfl
theorem sidx_c (l : List Int) (r : Int) (hn : lenOk l.length) : Pure Try.prog 42 [VU l, If .u32 r] (If .i64 (idxGo (fun x => decide (r = x)) 0 l)) := by
  refine Meets.intro Try.func42 rfl (Nat.le_of_ble_eq_true rfl) fun C hC => ?_
  simp only [List.map, argEnv, Nat.reduceAdd]
  refine nK ?_
  refine s_reg rfl ?_
  refine Run.pure (dd := some 4) rfl rfl (op_assign rfl (Opd.const _)) ?_
  refine Run.nil (FinR.mk ?_)
  refine nK ?_
  refine s_reg rfl ?_
  refine Run.pure (dd := some 6) rfl rfl (op_move rfl (Opd.tmp _ _ rfl)) ?_
  refine Run.pure (dd := some 7) rfl rfl (op_len_fz rfl (by first | exact Opd.tmp _ _ rfl | exact Opd.nil _ _ (Opd.tmp _ _ rfl)) (by first | exact List.length_map _ | rfl)) ?_
  refine Run.pure (dd := some 8) rfl rfl (op_move rfl (Opd.const _)) ?_
  refine Run.nil (FinR.mk ?_)
  refine nK ?_
  refine n_loop (ι := Nat) (fun i => ([(0, .fz (VU l)), (1, IV .u32 r), (7, IV .i64 l.length), (8, IV .i64 i)], [], 0)) (fun i => i ≤ l.length ∧ idxGo (fun x => decide (r = x)) i (l.drop i) = idxGo (fun x => decide (r = x)) 0 l) (fun i => l.length - i) 0 ⟨Nat.zero_le _, rfl⟩ ?_ ?_
  · refine Next.weak [] [] (by rfl) (keeps0 hC _) (by repeat (first | exact trivial | refine ⟨⟨_, rfl, .inl ⟨rfl, rfl⟩⟩, ?_⟩)) (by repeat (first | exact trivial | refine ⟨ent_same rfl rfl rfl tL, ?_⟩ | refine ⟨ent_same rfl rfl (rfEq rfl tU) tL, ?_⟩ | refine ⟨ent_same rfl rfl (flEq rfl (by first | (simp; done) | (simp; omega) | (simp [encA, encH, encL, encU, encK, encV, encR]; done) | simp [maxC, minC])) trivial, ?_⟩)) (fun _ h => by simp at h) rel_intro
  · intro i ⟨hi, ho⟩ K hK
    refine nK ?_
    refine s_reg rfl ?_
    refine Run.pure (dd := some 9) rfl rfl (op_lss rfl (Opd.tmp _ _ rfl) (Opd.tmp _ _ rfl)) ?_
    refine Run.nil (FinR.mk ?_)
    refine nK ?_
    refine n_cond _ rfl (fun hb => ?_) (fun hb => ?_)
    · have hlt : i < l.length := by simp at hb; omega
      have hr1 := row_at' encU l i hlt
      rw [idx_step hlt] at ho
      have hK1 := fun h => hK (i + 1) ⟨by omega, h⟩ (by omega)
      refine nK ?_
      refine s_reg rfl ?_
      refine Run.pure (dd := some 10) rfl rfl (op_move rfl (Opd.tmp _ _ rfl)) ?_
      refine Run.pure (dd := some 5) rfl rfl (op_assign rfl (Opd.tmp _ _ rfl)) ?_
      refine Run.nil (FinR.mk ?_)
      refine nK ?_
      refine s_reg rfl ?_
      refine Run.pure (dd := some 11) rfl rfl (op_move rfl (Opd.tmp _ _ rfl)) ?_
      refine Run.pure (dd := some 12) rfl rfl (op_move rfl (Opd.tmp _ _ rfl)) ?_
      refine Run.pure (dd := some 13) rfl rfl (op_move rfl (Opd.tmp _ _ rfl)) ?_
      refine Run.pure (dd := some 14) rfl rfl (op_idx_fz _ rfl (Opd.tmp _ _ rfl) (Opd.tmp _ _ rfl) tF) ?_
      refine Run.pure (dd := some 15) rfl rfl (op_load1_fz rfl (Opd.tmp _ _ rfl) rfl) ?_
      refine Run.pure (dd := some 16) rfl rfl (op_eql rfl (Opd.tmp _ _ rfl) (Opd.tmp _ _ rfl)) ?_
      refine Run.nil (FinR.mk ?_)
      refine nK ?_
      refine n_cond _ rfl (fun hb => ?_) (fun hb => ?_)
      · rw [if_pos hb] at ho
        rw [← ho]
        refine nK ?_
        refine s_reg rfl ?_
        refine Run.pure (dd := some 17) rfl rfl (op_move rfl (Opd.tmp _ _ rfl)) ?_
        refine Run.pure (dd := some 4) rfl rfl (op_assign rfl (Opd.tmp _ _ rfl)) ?_
        refine Run.nil (FinR.mk ?_)
        refine nK ?_
        (first | exact s_o1 hC rfl tV | exact s_o2 hC rfl tV tV | exact s_o3 hC rfl tV tV tV | exact s_o4 hC rfl tV tV tV tV | exact s_out0 hC rfl | exact s_outO hC rfl rfl rfl)
      · rw [if_neg (by rw [hb]; decide)] at ho
        refine nK ?_
        refine s_reg rfl ?_
        refine Run.pure (dd := some 18) rfl rfl (op_add rfl (Opd.tmp _ _ rfl) (Opd.const _) tI) ?_
        refine Run.pure (dd := some 8) rfl rfl (op_move rfl (Opd.tmp _ _ rfl)) ?_
        refine Run.nil (FinR.mk ?_)
        refine nK ?_
        refine Next.weak [] [] (by rfl) (keeps0 hC _) (by repeat (first | exact trivial | refine ⟨⟨_, rfl, .inl ⟨rfl, rfl⟩⟩, ?_⟩)) (by repeat (first | exact trivial | refine ⟨ent_same rfl rfl rfl tL, ?_⟩ | refine ⟨ent_same rfl rfl (rfEq rfl tU) tL, ?_⟩ | refine ⟨ent_same rfl rfl (flEq rfl (by first | (simp; done) | (simp; omega) | (simp [encA, encH, encL, encU, encK, encV, encR]; done) | simp [maxC, minC])) trivial, ?_⟩)) (fun _ h => by simp at h) (hK1 ho)
    · have hie : i = l.length := by simp at hb; omega
      rw [hie, List.drop_length] at ho
      rw [← ho]
      refine nK ?_
      refine s_reg rfl ?_
      refine Run.pure (dd := some 4) rfl rfl (op_assign rfl (Opd.const _)) ?_
      refine Run.nil (FinR.mk ?_)
      refine nK ?_
      (first | exact s_o1 hC rfl tV | exact s_o2 hC rfl tV tV | exact s_o3 hC rfl tV tV tV | exact s_o4 hC rfl tV tV tV tV | exact s_out0 hC rfl | exact s_outO hC rfl rfl rfl)
theorem scont_c (l : List Int) (r : Int) (hn : lenOk l.length) : Pure Try.prog 28 [VU l, If .u32 r] (Bf (l.contains r)) := by
  rw [← idx_contains]
  refine Meets.intro Try.func28 rfl (Nat.le_of_ble_eq_true rfl) fun C hC => ?_
  simp only [List.map, argEnv, Nat.reduceAdd]
  refine nK ?_
  refine s_reg rfl ?_
  refine Run.pure (dd := some 4) rfl rfl (op_assign rfl (Opd.const _)) ?_
  refine Run.nil (FinR.mk ?_)
  refine nK ?_
  refine s_reg rfl ?_
  refine Run.pure (dd := some 5) rfl rfl (op_move rfl (Opd.tmp _ _ rfl)) ?_
  refine Run.pure (dd := some 6) rfl rfl (op_move rfl (Opd.tmp _ _ rfl)) ?_
  refine Run.pure (dd := some 7) rfl rfl (op_call_pure (fun _ => sidx_c _ _ (by assumption)) rfl (Opd.func _) (Opds.cons _ _ _ _ (Opd.tmp _ _ rfl) (Opds.cons _ _ _ _ (Opd.tmp _ _ rfl) Opds.nil))) ?_
  refine Run.pure (dd := some 8) rfl rfl (op_geq rfl (Opd.tmp _ _ rfl) (Opd.const _)) ?_
  refine Run.pure (dd := some 4) rfl rfl (op_assign rfl (Opd.tmp _ _ rfl)) ?_
  refine Run.nil (FinR.mk ?_)
  refine nK ?_
  (first | exact s_o1 hC rfl tV | exact s_o2 hC rfl tV tV | exact s_o3 hC rfl tV tV tV | exact s_o4 hC rfl tV tV tV tV | exact s_out0 hC rfl | exact s_outO hC rfl rfl rfl)
theorem aidx_c (a : AGr) (r : Int) (hn : lenOk a.rs.length) : Pure Try.prog 16 [.agg (encR a), If .u32 r] (If .i64 (idxGo (fun x => decide (r = x)) 0 a.rs)) := by
  refine Meets.intro Try.func16 rfl (Nat.le_of_ble_eq_true rfl) fun C hC => ?_
  simp only [List.map, argEnv, Nat.reduceAdd]
  refine nK ?_
  refine s_reg rfl ?_
  refine Run.eff (dd := some 2) rfl rfl (op_box_flat rfl (Opd.tmp _ _ rfl) tC rfl) ?_
  refine Run.pure (dd := some 4) rfl rfl (op_assign rfl (Opd.const _)) ?_
  refine Run.nil (FinR.mk ?_)
  refine nK ?_
  refine s_reg rfl ?_
  refine Run.pure (dd := some 5) rfl rfl (op_fld_ptr (by decide) rfl (Opd.tmp _ _ rfl)) ?_
  refine Run.load (dd := some 6) rfl rfl (op_load1_flat rfl (Opd.tmp _ _ rfl) tH rfl) ?_
  refine Run.pure (dd := some 7) rfl rfl (op_move rfl (Opd.tmp _ _ rfl)) ?_
  refine Run.pure (dd := some 8) rfl rfl (op_call_pure (fun _ => sidx_c _ _ (by assumption)) rfl (Opd.func _) (Opds.cons _ _ _ _ (Opd.tmp _ _ rfl) (Opds.cons _ _ _ _ (Opd.tmp _ _ rfl) Opds.nil))) ?_
  refine Run.pure (dd := some 4) rfl rfl (op_assign rfl (Opd.tmp _ _ rfl)) ?_
  refine Run.nil (FinR.mk ?_)
  refine nK ?_
  (first | exact s_o1 hC rfl tV | exact s_o2 hC rfl tV tV | exact s_o3 hC rfl tV tV tV | exact s_o4 hC rfl tV tV tV tV | exact s_out0 hC rfl | exact s_outO hC rfl rfl rfl)
theorem netP_c (r : Int) (x : NetV) : Pure Try.prog 44 [.agg (encV x), .cellp [If .u32 r]] (Bf (decide (x.id = r))) := by
  refine Meets.intro Try.func44 rfl (Nat.le_of_ble_eq_true rfl) fun C hC => ?_
  simp only [List.map, argEnv, Nat.reduceAdd]
  refine nK ?_
  refine s_reg rfl ?_
  refine Run.eff (dd := some 2) rfl rfl (op_box_flat rfl (Opd.tmp _ _ rfl) tC rfl) ?_
  refine Run.pure (dd := some 3) rfl rfl (op_assign rfl (Opd.const _)) ?_
  refine Run.nil (FinR.mk ?_)
  refine nK ?_
  refine s_reg rfl ?_
  refine Run.pure (dd := some 4) rfl rfl (op_fld_ptr (by decide) rfl (Opd.tmp _ _ rfl)) ?_
  refine Run.load (dd := some 5) rfl rfl (op_load1_flat rfl (Opd.tmp _ _ rfl) tH rfl) ?_
  refine Run.pure (dd := some 6) rfl rfl (op_load1_fz rfl (Opd.tmp _ _ rfl) rfl) ?_
  refine Run.pure (dd := some 7) rfl rfl (op_eql rfl (Opd.tmp _ _ rfl) (Opd.tmp _ _ rfl)) ?_
  refine Run.pure (dd := some 3) rfl rfl (op_assign rfl (Opd.tmp _ _ rfl)) ?_
  refine Run.nil (FinR.mk ?_)
  refine nK ?_
  (first | exact s_o1 hC rfl tV | exact s_o2 hC rfl tV tV | exact s_o3 hC rfl tV tV tV | exact s_o4 hC rfl tV tV tV tV | exact s_out0 hC rfl | exact s_outO hC rfl rfl rfl)
theorem indexV_c (l : List NetV) (hn : lenOk l.length) (gf : Nat) [FnB Try.prog gf] (caps : List FV) (p : NetV → Bool) (hp : ∀ x, Pure Try.prog gf ([.agg (encV x)] ++ caps) (Bf (p x))) : Pure Try.prog 43 [VV l, .clo gf caps] (If .i64 (idxGo p 0 l)) := by
  refine Meets.intro Try.func43 rfl (Nat.le_of_ble_eq_true rfl) fun C hC => ?_
  simp only [List.map, argEnv, Nat.reduceAdd]
  refine nK ?_
  refine s_reg rfl ?_
  refine Run.pure (dd := some 4) rfl rfl (op_assign rfl (Opd.const _)) ?_
  refine Run.nil (FinR.mk ?_)
  refine nK ?_
  refine s_reg rfl ?_
  refine Run.pure (dd := some 6) rfl rfl (op_move rfl (Opd.tmp _ _ rfl)) ?_
  refine Run.pure (dd := some 7) rfl rfl (op_len_fz rfl (by first | exact Opd.tmp _ _ rfl | exact Opd.nil _ _ (Opd.tmp _ _ rfl)) (by first | exact List.length_map _ | rfl)) ?_
  refine Run.pure (dd := some 8) rfl rfl (op_move rfl (Opd.const _)) ?_
  refine Run.nil (FinR.mk ?_)
  refine nK ?_
  refine n_loop (ι := Nat) (fun i => ([(0, .fz (VV l)), (1, .fz (.clo gf caps)), (7, IV .i64 l.length), (8, IV .i64 i)], [], 0)) (fun i => i ≤ l.length ∧ idxGo p i (l.drop i) = idxGo p 0 l) (fun i => l.length - i) 0 ⟨Nat.zero_le _, rfl⟩ ?_ ?_
  · refine Next.weak [] [] (by rfl) (keeps0 hC _) (by repeat (first | exact trivial | refine ⟨⟨_, rfl, .inl ⟨rfl, rfl⟩⟩, ?_⟩)) (by repeat (first | exact trivial | refine ⟨ent_same rfl rfl rfl tL, ?_⟩ | refine ⟨ent_same rfl rfl (rfEq rfl tU) tL, ?_⟩ | refine ⟨ent_same rfl rfl (flEq rfl (by first | (simp; done) | (simp; omega) | (simp [encA, encH, encL, encU, encK, encV, encR]; done) | simp [maxC, minC])) trivial, ?_⟩)) (fun _ h => by simp at h) rel_intro
  · intro i ⟨hi, ho⟩ K hK
    refine nK ?_
    refine s_reg rfl ?_
    refine Run.pure (dd := some 9) rfl rfl (op_lss rfl (Opd.tmp _ _ rfl) (Opd.tmp _ _ rfl)) ?_
    refine Run.nil (FinR.mk ?_)
    refine nK ?_
    refine n_cond _ rfl (fun hb => ?_) (fun hb => ?_)
    · have hlt : i < l.length := by simp at hb; omega
      have hr1 := row_at' encV l i hlt
      rw [idx_step hlt] at ho
      have hK1 := fun h => hK (i + 1) ⟨by omega, h⟩ (by omega)
      generalize l[i] = e at *
      refine nK ?_
      refine s_reg rfl ?_
      refine Run.pure (dd := some 10) rfl rfl (op_move rfl (Opd.tmp _ _ rfl)) ?_
      refine Run.pure (dd := some 5) rfl rfl (op_assign rfl (Opd.tmp _ _ rfl)) ?_
      refine Run.nil (FinR.mk ?_)
      refine nK ?_
      refine s_reg rfl ?_
      refine Run.pure (dd := some 11) rfl rfl (op_move rfl (Opd.tmp _ _ rfl)) ?_
      refine Run.pure (dd := some 12) rfl rfl (op_move rfl (Opd.tmp _ _ rfl)) ?_
      refine Run.pure (dd := some 13) rfl rfl (op_move rfl (Opd.tmp _ _ rfl)) ?_
      refine Run.pure (dd := some 14) rfl rfl (op_idx_fz _ rfl (Opd.tmp _ _ rfl) (Opd.tmp _ _ rfl) tF) ?_
      refine Run.pure (dd := some 15) rfl rfl (op_loadw_fz rfl (Opd.tmp _ _ rfl) rfl) ?_
      refine Run.pure (dd := some 16) rfl rfl (op_call_pureC (fun _ => hp e) rfl (Opd.tmp _ _ rfl) (Opds.cons _ _ _ _ (Opd.tmp _ _ rfl) Opds.nil)) ?_
      refine Run.nil (FinR.mk ?_)
      refine nK ?_
      refine n_cond _ rfl (fun hb => ?_) (fun hb => ?_)
      · rw [if_pos hb] at ho
        rw [← ho]
        refine nK ?_
        refine s_reg rfl ?_
        refine Run.pure (dd := some 17) rfl rfl (op_move rfl (Opd.tmp _ _ rfl)) ?_
        refine Run.pure (dd := some 4) rfl rfl (op_assign rfl (Opd.tmp _ _ rfl)) ?_
        refine Run.nil (FinR.mk ?_)
        refine nK ?_
        (first | exact s_o1 hC rfl tV | exact s_o2 hC rfl tV tV | exact s_o3 hC rfl tV tV tV | exact s_o4 hC rfl tV tV tV tV | exact s_out0 hC rfl | exact s_outO hC rfl rfl rfl)
      · rw [if_neg (by rw [hb]; decide)] at ho
        refine nK ?_
        refine s_reg rfl ?_
        refine Run.pure (dd := some 18) rfl rfl (op_add rfl (Opd.tmp _ _ rfl) (Opd.const _) tI) ?_
        refine Run.pure (dd := some 8) rfl rfl (op_move rfl (Opd.tmp _ _ rfl)) ?_
        refine Run.nil (FinR.mk ?_)
        refine nK ?_
        refine Next.weak [] [] (by rfl) (keeps0 hC _) (by repeat (first | exact trivial | refine ⟨⟨_, rfl, .inl ⟨rfl, rfl⟩⟩, ?_⟩)) (by repeat (first | exact trivial | refine ⟨ent_same rfl rfl rfl tL, ?_⟩ | refine ⟨ent_same rfl rfl (rfEq rfl tU) tL, ?_⟩ | refine ⟨ent_same rfl rfl (flEq rfl (by first | (simp; done) | (simp; omega) | (simp [encA, encH, encL, encU, encK, encV, encR]; done) | simp [maxC, minC])) trivial, ?_⟩)) (fun _ h => by simp at h) (hK1 ho)
    · have hie : i = l.length := by simp at hb; omega
      rw [hie, List.drop_length] at ho
      rw [← ho]
      refine nK ?_
      refine s_reg rfl ?_
      refine Run.pure (dd := some 4) rfl rfl (op_assign rfl (Opd.const _)) ?_
      refine Run.nil (FinR.mk ?_)
      refine nK ?_
      (first | exact s_o1 hC rfl tV | exact s_o2 hC rfl tV tV | exact s_o3 hC rfl tV tV tV | exact s_o4 hC rfl tV tV tV tV | exact s_out0 hC rfl | exact s_outO hC rfl rfl rfl)
theorem anet_c (a : AGr) (r : Int) (hn : lenOk a.ns.length) : Pure Try.prog 18 [.agg (encR a), If .u32 r] (If .i64 (netI a r)) := by
  have hix := indexV_c a.ns hn 44 [.cellp [If .u32 r]] (fun x => decide (x.id = r)) (netP_c r)
  unfold netI
  have hb1 : idxGo (fun x : NetV => decide (x.id = r)) 0 a.ns ≤ a.ns.length ∧ -1 ≤ idxGo (fun x : NetV => decide (x.id = r)) 0 a.ns := by
    rcases idx_ge (fun x : NetV => decide (x.id = r)) a.ns 0 with ⟨h1, _⟩ | ⟨j, h, h1, _⟩
    · rw [h1]; omega
    · rw [h1]; omega
  generalize idxGo (fun x : NetV => decide (x.id = r)) 0 a.ns = z at *
  refine Meets.intro Try.func18 rfl (Nat.le_of_ble_eq_true rfl) fun C hC => ?_
  simp only [List.map, argEnv, Nat.reduceAdd]
  refine nK ?_
  refine s_reg rfl ?_
  refine Run.eff (dd := some 2) rfl rfl (op_box_flat rfl (Opd.tmp _ _ rfl) tC rfl) ?_
  refine Run.eff (dd := some 3) rfl rfl (op_box_flat rfl (Opd.tmp _ _ rfl) tC rfl) ?_
  refine Run.pure (dd := some 4) rfl rfl (op_assign rfl (Opd.const _)) ?_
  refine Run.nil (FinR.mk ?_)
  refine nK ?_
  refine Next.weakS [2] [3] (by rfl) (keeps0 hC _) (G' := [(2, .ptr 0 5 0 0), (3, .fz (.cellp [If .u32 r]))]) (H' := [(0, OR a)]) (by repeat (first | exact trivial | refine ⟨⟨_, rfl, .inl ⟨rfl, rfl⟩⟩, ?_⟩ | refine ⟨⟨_, rfl, .inl ⟨slEq rfl tN, rfl⟩⟩, ?_⟩ | refine ⟨⟨_, rfl, .inl ⟨ivEq tX, rfl⟩⟩, ?_⟩ | refine ⟨⟨_, rfl, .inr ⟨_, rfl, tW⟩⟩, ?_⟩)) (by repeat (first | exact trivial | refine ⟨ent_same rfl rfl rfl tL, ?_⟩ | refine ⟨ent_same rfl rfl (rfEq rfl tU) tL, ?_⟩ | refine ⟨ent_same rfl rfl (flEq rfl (by first | (simp; done) | (simp; omega) | (simp [encA, encH, encL, encU, encK, encV, encR]; done) | simp [maxC, minC])) trivial, ?_⟩)) rfl ?_
  refine nK ?_
  refine s_reg rfl ?_
  refine Run.pure (dd := some 6) rfl rfl (op_fld_ptr (by decide) rfl (Opd.tmp _ _ rfl)) ?_
  refine Run.load (dd := some 7) rfl rfl (op_load1_flat rfl (Opd.tmp _ _ rfl) tH rfl) ?_
  refine Run.pure (dd := some 8) rfl rfl (op_makeFuncF (fs := [.cellp [If .u32 r]]) rfl (Opds.cons _ _ _ _ (Opd.tmp _ _ rfl) Opds.nil)) ?_
  refine Run.pure (dd := some 9) rfl rfl (op_call_pure (fun _ => hix) rfl (Opd.func _) (Opds.cons _ _ _ _ (Opd.tmp _ _ rfl) (Opds.cons _ _ _ _ (Opd.tmp _ _ rfl) Opds.nil))) ?_
  refine Run.pure (dd := some 5) rfl rfl (op_assign rfl (Opd.tmp _ _ rfl)) ?_
  refine Run.nil (FinR.mk ?_)
  refine nK ?_
  refine s_reg rfl ?_
  refine Run.pure (dd := some 10) rfl rfl (op_move rfl (Opd.tmp _ _ rfl)) ?_
  refine Run.pure (dd := some 11) rfl rfl (op_lss rfl (Opd.tmp _ _ rfl) (Opd.const _)) ?_
  refine Run.nil (FinR.mk ?_)
  refine nK ?_
  refine n_cond _ rfl (fun hb => ?_) (fun hb => ?_)
  · rw [if_pos (by simpa using hb)]
    refine nK ?_
    refine s_reg rfl ?_
    refine Run.pure (dd := some 4) rfl rfl (op_assign rfl (Opd.const _)) ?_
    refine Run.nil (FinR.mk ?_)
    refine nK ?_
    (first | exact s_o1 hC rfl tV | exact s_o2 hC rfl tV tV | exact s_o3 hC rfl tV tV tV | exact s_o4 hC rfl tV tV tV tV | exact s_out0 hC rfl | exact s_outO hC rfl rfl rfl)
  · rw [if_neg (by simpa using hb)]
    refine nK ?_
    refine s_reg rfl ?_
    refine Run.pure (dd := some 12) rfl rfl (op_fld_ptr (by decide) rfl (Opd.tmp _ _ rfl)) ?_
    refine Run.load (dd := some 13) rfl rfl (op_load1_flat rfl (Opd.tmp _ _ rfl) tH rfl) ?_
    refine Run.pure (dd := some 14) rfl rfl (op_len_fz rfl (by first | exact Opd.tmp _ _ rfl | exact Opd.nil _ _ (Opd.tmp _ _ rfl)) (by first | exact List.length_map _ | rfl)) ?_
    refine Run.pure (dd := some 15) rfl rfl (op_move rfl (Opd.tmp _ _ rfl)) ?_
    refine Run.pure (dd := some 16) rfl rfl (op_addw rfl (Opd.tmp _ _ rfl) (Opd.tmp _ _ rfl)) ?_
    refine Run.pure (dd := some 4) rfl rfl (op_assign rfl (Opd.tmp _ _ rfl)) ?_
    refine Run.nil (FinR.mk ?_)
    refine nK ?_
    (first | exact s_o1 hC rfl tV | exact s_o2 hC rfl tV tV | exact s_o3 hC rfl tV tV tV | exact s_o4 hC rfl tV tV tV tV | exact s_out0 hC rfl | exact s_outO hC rfl rfl rfl)
theorem stubsP_c (x : Lnk) : Pure Try.prog 48 [.agg (encL x)] (Bf (decide (x.k ≠ 3))) := by
  refine Meets.intro Try.func48 rfl (Nat.le_of_ble_eq_true rfl) fun C hC => ?_
  simp only [List.map, argEnv, Nat.reduceAdd]
  refine nK ?_
  refine s_reg rfl ?_
  refine Run.eff (dd := some 1) rfl rfl (op_box_flat rfl (Opd.tmp _ _ rfl) tC rfl) ?_
  refine Run.pure (dd := some 2) rfl rfl (op_assign rfl (Opd.const _)) ?_
  refine Run.nil (FinR.mk ?_)
  refine nK ?_
  refine s_reg rfl ?_
  refine Run.pure (dd := some 3) rfl rfl (op_fld_ptr (by decide) rfl (Opd.tmp _ _ rfl)) ?_
  refine Run.load (dd := some 4) rfl rfl (op_load1_flat rfl (Opd.tmp _ _ rfl) tH rfl) ?_
  refine Run.pure (dd := some 5) rfl rfl (op_neq rfl (Opd.tmp _ _ rfl) (Opd.const _)) ?_
  refine Run.pure (dd := some 2) rfl rfl (op_assign rfl (Opd.tmp _ _ rfl)) ?_
  refine Run.nil (FinR.mk ?_)
  refine nK ?_
  (first | exact s_o1 hC rfl tV | exact s_o2 hC rfl tV tV | exact s_o3 hC rfl tV tV tV | exact s_o4 hC rfl tV tV tV tV | exact s_out0 hC rfl | exact s_outO hC rfl rfl rfl)
/-- the closure 'searcher{k}.matches' -/
theorem match_c (k : KeyA) (x : Lsa) : Pure Try.prog 72 [.agg (encK k), .agg (encA x)] (Bf (decide (keyA x.h = k))) := by
  rw [← eqFs_encK]
  refine Meets.intro Try.func72 rfl (Nat.le_of_ble_eq_true rfl) fun C hC => ?_
  simp only [List.map, argEnv, Nat.reduceAdd]
  refine nK ?_
  refine s_reg rfl ?_
  refine Run.eff (dd := some 2) rfl rfl (op_box_flat rfl (Opd.tmp _ _ rfl) tC rfl) ?_
  refine Run.eff (dd := some 3) rfl rfl (op_box_flat rfl (Opd.tmp _ _ rfl) tC rfl) ?_
  refine Run.pure (dd := some 4) rfl rfl (op_assign rfl (Opd.const _)) ?_
  refine Run.nil (FinR.mk ?_)
  refine nK ?_
  refine s_draw mixed ?_
  refine Run.pure (dd := some 5) rfl rfl (op_fld_ptr (by decide) rfl (Opd.tmp _ _ rfl)) ?_
  refine Run.load (dd := some 6) rfl rfl (op_loadn_flat rfl (Opd.tmp _ _ rfl) tH tR tR) ?_
  refine Run.pure (dd := some 7) rfl rfl (op_call_pure (fun _ => keyL_c _) rfl (Opd.func _) (Opds.cons _ _ _ _ (Opd.tmp _ _ rfl) Opds.nil)) ?_
  refine Run.pure (dd := some 8) rfl rfl (op_fld_ptr (by decide) rfl (Opd.tmp _ _ rfl)) ?_
  refine Run.load (dd := some 9) rfl rfl (op_loadw_flat rfl (Opd.tmp _ _ rfl) tH rfl) ?_
  refine Run.pure (dd := some 10) rfl rfl (op_eqS rfl (Opd.tmp _ _ rfl) (Opd.tmp _ _ rfl) (by kernel_rfl)) ?_
  refine Run.pure (dd := some 4) rfl rfl (op_assign rfl (Opd.tmp _ _ rfl)) ?_
  refine Run.nil (FinD.mk (by kernel_rfl) ?_)
  refine nK ?_
  (first | exact s_o1 hC rfl tV | exact s_o2 hC rfl tV tV | exact s_o3 hC rfl tV tV tV | exact s_o4 hC rfl tV tV tV tV | exact s_out0 hC rfl | exact s_outO hC rfl rfl rfl)
theorem indexA_c (l : List Lsa) (k : KeyA) (hn : lenOk l.length) : Meets Try.prog 71 [.fz (VA l), .clo 72 [.fz (.agg (encK k))] []] 0 [] (IV .i64 (idxGo (fun x => decide (keyA x.h = k)) 0 l)) [] 0 := by
  refine Meets.intro Try.func71 rfl (Nat.le_of_ble_eq_true rfl) fun C hC => ?_
  simp only [List.map, argEnv, Nat.reduceAdd]
  refine nK ?_
  refine s_reg rfl ?_
  refine Run.pure (dd := some 4) rfl rfl (op_assign rfl (Opd.const _)) ?_
  refine Run.nil (FinR.mk ?_)
  refine nK ?_
  refine s_reg rfl ?_
  refine Run.pure (dd := some 6) rfl rfl (op_move rfl (Opd.tmp _ _ rfl)) ?_
  refine Run.pure (dd := some 7) rfl rfl (op_len_fz rfl (by first | exact Opd.tmp _ _ rfl | exact Opd.nil _ _ (Opd.tmp _ _ rfl)) (by first | exact List.length_map _ | rfl)) ?_
  refine Run.pure (dd := some 8) rfl rfl (op_move rfl (Opd.const _)) ?_
  refine Run.nil (FinR.mk ?_)
  refine nK ?_
  refine n_loop (ι := Nat) (fun i => ([(0, .fz (VA l)), (1, .clo 72 [.fz (.agg (encK k))] []), (7, IV .i64 l.length), (8, IV .i64 i)], [], 0)) (fun i => i ≤ l.length ∧ idxGo (fun x => decide (keyA x.h = k)) i (l.drop i) = idxGo (fun x => decide (keyA x.h = k)) 0 l) (fun i => l.length - i) 0 ⟨Nat.zero_le _, rfl⟩ ?_ ?_
  · refine Next.weak [] [] (by rfl) (keeps0 hC _) (by repeat (first | exact trivial | refine ⟨⟨_, rfl, .inl ⟨rfl, rfl⟩⟩, ?_⟩)) (by repeat (first | exact trivial | refine ⟨ent_same rfl rfl rfl tL, ?_⟩ | refine ⟨ent_same rfl rfl (rfEq rfl tU) tL, ?_⟩ | refine ⟨ent_same rfl rfl (flEq rfl (by first | (simp; done) | (simp; omega) | (simp [encA, encH, encL, encU, encK, encV, encR]; done) | simp [maxC, minC])) trivial, ?_⟩)) (fun _ h => by simp at h) rel_intro
  · intro i ⟨hi, ho⟩ K hK
    refine nK ?_
    refine s_reg rfl ?_
    refine Run.pure (dd := some 9) rfl rfl (op_lss rfl (Opd.tmp _ _ rfl) (Opd.tmp _ _ rfl)) ?_
    refine Run.nil (FinR.mk ?_)
    refine nK ?_
    refine n_cond _ rfl (fun hb => ?_) (fun hb => ?_)
    · have hlt : i < l.length := by simp at hb; omega
      have hr1 := row_at' encA l i hlt
      rw [idx_step hlt] at ho
      have hK1 := fun h => hK (i + 1) ⟨by omega, h⟩ (by omega)
      generalize l[i] = e at *
      refine nK ?_
      refine s_reg rfl ?_
      refine Run.pure (dd := some 10) rfl rfl (op_move rfl (Opd.tmp _ _ rfl)) ?_
      refine Run.pure (dd := some 5) rfl rfl (op_assign rfl (Opd.tmp _ _ rfl)) ?_
      refine Run.nil (FinR.mk ?_)
      refine nK ?_
      refine s_reg rfl ?_
      refine Run.pure (dd := some 11) rfl rfl (op_move rfl (Opd.tmp _ _ rfl)) ?_
      refine Run.pure (dd := some 12) rfl rfl (op_move rfl (Opd.tmp _ _ rfl)) ?_
      refine Run.pure (dd := some 13) rfl rfl (op_move rfl (Opd.tmp _ _ rfl)) ?_
      refine Run.pure (dd := some 14) rfl rfl (op_idx_fz _ rfl (Opd.tmp _ _ rfl) (Opd.tmp _ _ rfl) tF) ?_
      refine Run.pure (dd := some 15) rfl rfl (op_loadw_fz rfl (Opd.tmp _ _ rfl) rfl) ?_
      refine Run.eff (dd := some 16) rfl rfl (op_call (n := 0) (n' := 0) [] (fun _ => match_c k e) rfl (Opd.tmp _ _ rfl) (Opds.cons _ _ _ _ (Opd.tmp _ _ rfl) Opds.nil) rfl rfl (Lent.of rfl rfl (by repeat (first | exact trivial | refine ⟨⟨rfl, rfl, rfl, tL⟩, ?_⟩)) rfl) rfl rfl rfl rfl rfl) ?_
      refine Run.nil (FinR.mk ?_)
      refine nK ?_
      refine n_cond _ rfl (fun hb => ?_) (fun hb => ?_)
      · rw [if_pos hb] at ho
        rw [← ho]
        refine nK ?_
        refine s_reg rfl ?_
        refine Run.pure (dd := some 17) rfl rfl (op_move rfl (Opd.tmp _ _ rfl)) ?_
        refine Run.pure (dd := some 4) rfl rfl (op_assign rfl (Opd.tmp _ _ rfl)) ?_
        refine Run.nil (FinR.mk ?_)
        refine nK ?_
        (first | exact s_o1 hC rfl tV | exact s_o2 hC rfl tV tV | exact s_o3 hC rfl tV tV tV | exact s_o4 hC rfl tV tV tV tV | exact s_out0 hC rfl | exact s_outO hC rfl rfl rfl)
      · rw [if_neg (by rw [hb]; decide)] at ho
        refine nK ?_
        refine s_reg rfl ?_
        refine Run.pure (dd := some 18) rfl rfl (op_add rfl (Opd.tmp _ _ rfl) (Opd.const _) tI) ?_
        refine Run.pure (dd := some 8) rfl rfl (op_move rfl (Opd.tmp _ _ rfl)) ?_
        refine Run.nil (FinR.mk ?_)
        refine nK ?_
        refine Next.weak [] [] (by rfl) (keeps0 hC _) (by repeat (first | exact trivial | refine ⟨⟨_, rfl, .inl ⟨rfl, rfl⟩⟩, ?_⟩)) (by repeat (first | exact trivial | refine ⟨ent_same rfl rfl rfl tL, ?_⟩ | refine ⟨ent_same rfl rfl (rfEq rfl tU) tL, ?_⟩ | refine ⟨ent_same rfl rfl (flEq rfl (by first | (simp; done) | (simp; omega) | (simp [encA, encH, encL, encU, encK, encV, encR]; done) | simp [maxC, minC])) trivial, ?_⟩)) (fun _ h => by simp at h) (hK1 ho)
    · have hie : i = l.length := by simp at hb; omega
      rw [hie, List.drop_length] at ho
      rw [← ho]
      refine nK ?_
      refine s_reg rfl ?_
      refine Run.pure (dd := some 4) rfl rfl (op_assign rfl (Opd.const _)) ?_
      refine Run.nil (FinR.mk ?_)
      refine nK ?_
      (first | exact s_o1 hC rfl tV | exact s_o2 hC rfl tV tV | exact s_o3 hC rfl tV tV tV | exact s_o4 hC rfl tV tV tV tV | exact s_out0 hC rfl | exact s_outO hC rfl rfl rfl)
theorem cloneL_f (l : List Lnk) (hn : l.length ≤ 40000000) : Meets Try.prog 89 ([VL l].map PV.fz) 0 [] (.sl 0 4 0 l.length) [(0, OLk l)] 1 := by
  refine Meets.intro Try.func89 rfl (Nat.le_of_ble_eq_true rfl) fun C hC => ?_
  simp only [List.map, argEnv, Nat.reduceAdd]
  refine nK ?_
  refine s_reg rfl ?_
  refine Run.pure (dd := some 2) rfl rfl (op_assign rfl (Opd.const _)) ?_
  refine Run.nil (FinR.mk ?_)
  refine nK ?_
  refine s_reg rfl ?_
  refine Run.pure (dd := some 3) rfl rfl (op_move rfl (Opd.tmp _ _ rfl)) ?_
  refine Run.pure (dd := some 4) rfl rfl (op_eqnil rfl (Opd.tmp _ _ rfl)) ?_
  refine Run.nil (FinR.mk ?_)
  refine nK ?_
  refine Next.abool 4 rfl (fun b hb0 => ?_)
  refine nK ?_
  refine n_cond _ rfl (fun hb => ?_) (fun hb => ?_)
  · have he : l = [] := by have := hb0 hb; simpa using this
    subst he
    refine nK ?_
    refine s_reg rfl ?_
    refine Run.pure (dd := some 2) rfl rfl (op_assign rfl (Opd.const _)) ?_
    refine Run.nil (FinR.mk ?_)
    refine nK ?_
    refine Next.adopt 2 4 rfl ?_
    (first | exact s_o1 hC rfl tV | exact s_o2 hC rfl tV tV | exact s_o3 hC rfl tV tV tV | exact s_o4 hC rfl tV tV tV tV | exact s_out0 hC rfl | exact s_outO hC rfl rfl rfl)
  · refine nK ?_
    refine s_reg rfl ?_
    refine Run.eff (dd := some 5) rfl rfl (op_buildSlice_own rfl (RowsF.nil _) rfl rfl rfl) ?_
    refine Run.pure (dd := some 6) rfl rfl (op_move rfl (Opd.tmp _ _ rfl)) ?_
    refine Run.eff (dd := some 7) rfl rfl (op_append rfl (Opd.tmp _ _ rfl) (Opd.tmp _ _ rfl) rfl rfl rfl rfl tB tB) ?_
    refine Run.pure (dd := some 2) rfl rfl (op_assign rfl (Opd.tmp _ _ rfl)) ?_
    refine Run.nil (FinR.mk ?_)
    refine nK ?_
    refine Next.weakS [2] [] (by rfl) (keeps0 hC _) (G' := [(2, .sl 0 4 0 l.length)]) (H' := [(0, OLk l)]) (by repeat (first | exact trivial | refine ⟨⟨_, rfl, .inl ⟨rfl, rfl⟩⟩, ?_⟩ | refine ⟨⟨_, rfl, .inl ⟨slEq rfl tN, rfl⟩⟩, ?_⟩ | refine ⟨⟨_, rfl, .inl ⟨ivEq tX, rfl⟩⟩, ?_⟩)) (by repeat (first | exact trivial | refine ⟨ent_same rfl rfl rfl tL, ?_⟩ | refine ⟨ent_same rfl rfl (rfEq rfl tU) tL, ?_⟩ | refine ⟨ent_same rfl rfl (flEq rfl (by first | (simp; done) | (simp; omega) | (simp [encA, encH, encL, encU, encK, encV, encR]; done) | simp [maxC, minC])) trivial, ?_⟩)) rfl ?_
    (first | exact s_o1 hC rfl tV | exact s_o2 hC rfl tV tV | exact s_o3 hC rfl tV tV tV | exact s_o4 hC rfl tV tV tV tV | exact s_out0 hC rfl | exact s_outO hC rfl rfl rfl)
theorem cloneU_f (l : List Int) (hn : l.length ≤ 40000000) : Meets Try.prog 90 ([VU l].map PV.fz) 0 [] (.sl 0 1 0 l.length) [(0, some (.flat 1 (l.map encU)))] 1 := by
  refine Meets.intro Try.func90 rfl (Nat.le_of_ble_eq_true rfl) fun C hC => ?_
  simp only [List.map, argEnv, Nat.reduceAdd]
  refine nK ?_
  refine s_reg rfl ?_
  refine Run.pure (dd := some 2) rfl rfl (op_assign rfl (Opd.const _)) ?_
  refine Run.nil (FinR.mk ?_)
  refine nK ?_
  refine s_reg rfl ?_
  refine Run.pure (dd := some 3) rfl rfl (op_move rfl (Opd.tmp _ _ rfl)) ?_
  refine Run.pure (dd := some 4) rfl rfl (op_eqnil rfl (Opd.tmp _ _ rfl)) ?_
  refine Run.nil (FinR.mk ?_)
  refine nK ?_
  refine Next.abool 4 rfl (fun b hb0 => ?_)
  refine nK ?_
  refine n_cond _ rfl (fun hb => ?_) (fun hb => ?_)
  · have he : l = [] := by have := hb0 hb; simpa using this
    subst he
    refine nK ?_
    refine s_reg rfl ?_
    refine Run.pure (dd := some 2) rfl rfl (op_assign rfl (Opd.const _)) ?_
    refine Run.nil (FinR.mk ?_)
    refine nK ?_
    refine Next.adopt 2 1 rfl ?_
    (first | exact s_o1 hC rfl tV | exact s_o2 hC rfl tV tV | exact s_o3 hC rfl tV tV tV | exact s_o4 hC rfl tV tV tV tV | exact s_out0 hC rfl | exact s_outO hC rfl rfl rfl)
  · refine nK ?_
    refine s_reg rfl ?_
    refine Run.eff (dd := some 5) rfl rfl (op_buildSlice_own rfl (RowsF.nil _) rfl rfl rfl) ?_
    refine Run.pure (dd := some 6) rfl rfl (op_move rfl (Opd.tmp _ _ rfl)) ?_
    refine Run.eff (dd := some 7) rfl rfl (op_append rfl (Opd.tmp _ _ rfl) (Opd.tmp _ _ rfl) rfl rfl rfl rfl tB tB) ?_
    refine Run.pure (dd := some 2) rfl rfl (op_assign rfl (Opd.tmp _ _ rfl)) ?_
    refine Run.nil (FinR.mk ?_)
    refine nK ?_
    refine Next.weakS [2] [] (by rfl) (keeps0 hC _) (G' := [(2, .sl 0 1 0 l.length)]) (H' := [(0, some (.flat 1 (l.map encU)))]) (by repeat (first | exact trivial | refine ⟨⟨_, rfl, .inl ⟨rfl, rfl⟩⟩, ?_⟩ | refine ⟨⟨_, rfl, .inl ⟨slEq rfl tN, rfl⟩⟩, ?_⟩ | refine ⟨⟨_, rfl, .inl ⟨ivEq tX, rfl⟩⟩, ?_⟩)) (by repeat (first | exact trivial | refine ⟨ent_same rfl rfl rfl tL, ?_⟩ | refine ⟨ent_same rfl rfl (rfEq rfl tU) tL, ?_⟩ | refine ⟨ent_same rfl rfl (flEq rfl (by first | (simp; done) | (simp; omega) | (simp [encA, encH, encL, encU, encK, encV, encR]; done) | simp [maxC, minC])) trivial, ?_⟩)) rfl ?_
    (first | exact s_o1 hC rfl tV | exact s_o2 hC rfl tV tV | exact s_o3 hC rfl tV tV tV | exact s_o4 hC rfl tV tV tV tV | exact s_out0 hC rfl | exact s_outO hC rfl rfl rfl)
theorem cloneU_c (l : List Int) (hn : l.length ≤ 40000000) : Pure Try.prog 90 [VU l] (VU l) := (cloneU_f l hn).freeze (by simp)
end Go.Proofs.Ytdhkioocjgpocaa
/- Building the graph of an area: what the program's functions compute. No program in sight. -/
namespace Go.Pl
open Go Go.RT
set_option linter.all false
def cntL (k : Int) (db : List Lsa) : List Lsa := db.filter (cntB k)
theorem cnt_take {k : Int} {l : List Lsa} {i : Nat} (h : i < l.length) : cntL k (l.take (i + 1)) = cntL k (l.take i) ++ if cntB k l[i] = true then [l[i]] else [] := by
  rw [List.take_succ_eq_append_getElem h]
  simp only [cntL, List.filter_append]
  by_cases c : cntB k l[i] = true
  · rw [if_pos c]; simp [c]
  · rw [if_neg c]; simp [c]
theorem cnt_len (k : Int) (l : List Lsa) : (cntL k l).length ≤ l.length := List.length_filter_le _ _
abbrev ekU (n : Int) : FV := If .u32 n
abbrev evI (n : Int) : FV := If .i64 n
/-- the ends of point-to-point links -/
def ptsGo : List Lnk → List (Int × Bool) → List (Int × Bool)
  | [], m => m
  | x :: l, m => ptsGo l (if decide (x.k = 1) = true then mput m x.id true else m)
def ptsM (l : List Lnk) : List (Int × Bool) := ptsGo l []
theorem pts_step {l : List Lnk} {i : Nat} {m : List (Int × Bool)} (h : i < l.length) : ptsGo (l.drop i) m = ptsGo (l.drop (i + 1)) (if decide (l[i].k = 1) = true then mput m l[i].id true else m) := by
  rw [List.drop_eq_getElem_cons h]; rfl
/-- the keys of a map are apart, and words -/
def mOk {ν : Type} (m : List (Int × ν)) : Prop := (m.map (·.1)).Nodup ∧ ∀ p ∈ m, inr .u32 p.1
theorem mOk.put {ν : Type} {m : List (Int × ν)} (h : mOk m) {k : Int} (hk : inr .u32 k) (v : ν) : mOk (mput m k v) :=
  ⟨mput_nodup h.1, fun p hp => by
    rcases mput_keys m k v p hp with e | e
    · rw [e]; exact hk
    · exact h.2 p e⟩
theorem mOk_nil {ν : Type} : mOk ([] : List (Int × ν)) := ⟨List.nodup_nil, fun p h => by simp at h⟩
theorem pts_ok : ∀ (l : List Lnk) (m : List (Int × Bool)), (∀ x ∈ l, okK x) → mOk m → mOk (ptsGo l m)
  | [], m, _, h => h
  | x :: l, m, hl, h => by
    simp only [ptsGo]
    refine pts_ok l _ (fun y hy => hl y (List.mem_cons_of_mem _ hy)) ?_
    split
    · exact h.put (hl x (List.mem_cons_self ..)).2.1 true
    · exact h
abbrev FPts (m : List (Int × Bool)) : FV := FMap ekU Bf m
end Go.Pl
/- Building the graph of an area, continued. No program in sight. -/
namespace Go.Pl
open Go Go.RT
set_option linter.all false
def zeroR : AGr := ⟨zeroG, [], []⟩
def nodesGo : Nat → List Lsa → List (Int × Int) → List (Int × Int)
  | _, [], m => m
  | i, l :: t, m => nodesGo (i + 1) t (mput m l.h.rt (i : Int))
theorem nodes_step {l : List Lsa} {i : Nat} {m : List (Int × Int)} (h : i < l.length) : nodesGo i (l.drop i) m = nodesGo (i + 1) (l.drop (i + 1)) (mput m l[i].h.rt (i : Int)) := by
  rw [List.drop_eq_getElem_cons h]; rfl
def towGo : List Lsa → List (Int × List (Int × Bool)) → List (Int × List (Int × Bool))
  | [], m => m
  | l :: t, m => towGo t (mput m l.h.rt (ptsM l.ls))
theorem tow_step {l : List Lsa} {i : Nat} {m : List (Int × List (Int × Bool))} (h : i < l.length) : towGo (l.drop i) m = towGo (l.drop (i + 1)) (mput m l[i].h.rt (ptsM l[i].ls)) := by
  rw [List.drop_eq_getElem_cons h]; rfl
def netOf (l : Lsa) : NetV := ⟨l.h.id, l.h.rt, l.h.ln⟩
def netE (R i : Nat) (rt : Int) (x : Lnk) : Nat → List Lsa → List Edg
  | _, [] => []
  | k, n :: t => (if (decide (n.h.id = x.id) && n.att.contains rt) = true then [⟨i, (R : Int) + k, x.c⟩, ⟨(R : Int) + k, i, 0⟩] else []) ++ netE R i rt x (k + 1) t
def lnkE (nm : List (Int × Int)) (tm : List (Int × List (Int × Bool))) (R : Nat) (ns : List Lsa) (i : Nat) (rt : Int) (x : Lnk) : List Edg :=
  if ((decide (x.k = 1) && (mget nm x.id).isSome) && (mget ((mget tm x.id).getD []) rt).getD false) = true then [⟨i, (mget nm x.id).getD 0, x.c⟩] else
  if decide (x.k = 2) = true then netE R i rt x 0 ns else []
def rowE (nm : List (Int × Int)) (tm : List (Int × List (Int × Bool))) (R : Nat) (ns : List Lsa) : Nat → List Lsa → List Edg
  | _, [] => []
  | i, l :: t => l.ls.flatMap (lnkE nm tm R ns i l.h.rt) ++ rowE nm tm R ns (i + 1) t
def edgesG (rs ns : List Lsa) : List Edg := rowE (nodesGo 0 rs []) (towGo rs []) rs.length ns 0 rs
def buildG (rs ns : List Lsa) : AGr × Int :=
  if (ofF (rs.length : Int) (ns.length : Int) (edgesG rs ns)).2 ≠ 0 then (zeroR, (ofF (rs.length : Int) (ns.length : Int) (edgesG rs ns)).2)
  else (⟨(ofF (rs.length : Int) (ns.length : Int) (edgesG rs ns)).1, rs.map fun l => l.h.rt, ns.map netOf⟩, 0)
/-- area.Build -/
def buildF (db : List Lsa) : AGr × Int := buildG (cntL 1 db) (cntL 2 db)
theorem mput_vals {ν : Type} : ∀ (m : List (Int × ν)) (k : Int) (v : ν) (p : Int × ν), p ∈ mput m k v → p.2 = v ∨ p ∈ m
  | [], k, v, p, h => by simp [mput] at h; subst h; exact .inl rfl
  | q :: r, k, v, p, h => by
    simp only [mput] at h
    by_cases hq : q.1 = k
    · rw [if_pos hq] at h
      rcases List.mem_cons.1 h with rfl | h
      · exact .inl rfl
      · exact .inr (List.mem_cons_of_mem _ h)
    · rw [if_neg hq] at h
      rcases List.mem_cons.1 h with rfl | h
      · exact .inr (List.mem_cons_self ..)
      · exact (mput_vals r k v p h).imp id (List.mem_cons_of_mem _)
theorem mget_mem {ν : Type} : ∀ {m : List (Int × ν)} {k : Int} {v : ν}, mget m k = some v → (k, v) ∈ m
  | p :: r, k, v, h => by
    simp only [mget] at h
    by_cases hp : p.1 = k
    · rw [if_pos hp] at h; cases h; subst hp; exact List.mem_cons_self ..
    · rw [if_neg hp] at h; exact List.mem_cons_of_mem _ (mget_mem h)
open Go.RT
theorem row_step {nm : List (Int × Int)} {tm : List (Int × List (Int × Bool))} {R : Nat} {ns l : List Lsa} {i : Nat} (h : i < l.length) : rowE nm tm R ns i (l.drop i) = l[i].ls.flatMap (lnkE nm tm R ns i l[i].h.rt) ++ rowE nm tm R ns (i + 1) (l.drop (i + 1)) := by
  rw [List.drop_eq_getElem_cons h]; rfl
theorem net_step {R i : Nat} {rt : Int} {x : Lnk} {l : List Lsa} {k : Nat} (h : k < l.length) : netE R i rt x k (l.drop k) = (if (decide (l[k].h.id = x.id) && l[k].att.contains rt) = true then [⟨i, (R : Int) + k, x.c⟩, ⟨(R : Int) + k, i, 0⟩] else []) ++ netE R i rt x (k + 1) (l.drop (k + 1)) := by
  rw [List.drop_eq_getElem_cons h]; rfl
theorem flatMap_step {α β : Type} (f : α → List β) {l : List α} {j : Nat} (h : j < l.length) : (l.drop j).flatMap f = f l[j] ++ (l.drop (j + 1)).flatMap f := by
  rw [List.drop_eq_getElem_cons h]; rfl
theorem netE_len (R i : Nat) (rt : Int) (x : Lnk) : ∀ (l : List Lsa) (k : Nat), (netE R i rt x k l).length ≤ 2 * l.length
  | [], k => by simp [netE]
  | n :: l, k => by
    have := netE_len R i rt x l (k + 1)
    simp only [netE, List.length_append, List.length_cons]
    split <;> simp <;> omega
theorem lnkE_len {nm : List (Int × Int)} {tm : List (Int × List (Int × Bool))} {R : Nat} {ns : List Lsa} {i : Nat} {rt : Int} (hn : ns.length ≤ 400) (x : Lnk) : (lnkE nm tm R ns i rt x).length ≤ 800 := by
  unfold lnkE
  split
  · simp
  · split
    · exact Nat.le_trans (netE_len ..) (by omega)
    · simp
theorem flatMap_le {α β : Type} (f : α → List β) (b : Nat) (h : ∀ x, (f x).length ≤ b) : ∀ l : List α, (l.flatMap f).length ≤ l.length * b
  | [] => by simp
  | x :: l => by
    have h1 := flatMap_le f b h l
    have h2 := h x
    simp only [List.flatMap_cons, List.length_append, List.length_cons, Nat.add_mul]; omega
theorem rowE_len {nm : List (Int × Int)} {tm : List (Int × List (Int × Bool))} {R : Nat} {ns : List Lsa} (hn : ns.length ≤ 400) : ∀ (l : List Lsa) (i : Nat), (∀ x ∈ l, x.ls.length ≤ 64) → (rowE nm tm R ns i l).length ≤ l.length * 51200
  | [], i, _ => by simp [rowE]
  | x :: l, i, h => by
    have h1 := rowE_len (nm := nm) (tm := tm) (R := R) hn l (i + 1) (fun y hy => h y (List.mem_cons_of_mem _ hy))
    have h2 := flatMap_le (lnkE nm tm R ns i x.h.rt) 800 (fun y => lnkE_len hn y) x.ls
    have h3 := h x (List.mem_cons_self ..)
    have h4 : x.ls.length * 800 ≤ 64 * 800 := Nat.mul_le_mul_right _ h3
    simp only [rowE, List.length_append, List.length_cons, Nat.add_mul]; omega
open Go.RT
theorem netE_ok {R i : Nat} (hR : R ≤ 400) (hi : i ≤ 400) {rt : Int} {x : Lnk} (hx : okK x) : ∀ (l : List Lsa) (k : Nat), k + l.length ≤ 400 → okEs (netE R i rt x k l)
  | [], k, _ => fun e he => by simp [netE] at he
  | n :: l, k, h => fun e he => by
    simp only [List.length_cons] at h
    simp only [netE] at he
    rcases List.mem_append.1 he with he | he
    · split at he
      · rcases List.mem_cons.1 he with rfl | he
        · refine ⟨?_, ?_, hx.2.2.2⟩ <;> simp only [inr] <;> omega
        · have := List.mem_singleton.1 he
          subst this
          refine ⟨?_, ?_, ?_⟩ <;> simp only [inr] <;> omega
      · simp at he
    · exact netE_ok hR hi hx l (k + 1) (by omega) e he
theorem lnkE_ok {nm : List (Int × Int)} {tm : List (Int × List (Int × Bool))} {R : Nat} {ns : List Lsa} {i : Nat} {rt : Int} (hR : R ≤ 400) (hn : ns.length ≤ 400) (hi : i ≤ 400) (hm : ∀ q ∈ nm, inr .i64 q.2) {x : Lnk} (hx : okK x) : okEs (lnkE nm tm R ns i rt x) := by
  intro e he
  unfold lnkE at he
  split at he
  · have := List.mem_singleton.1 he
    subst this
    refine ⟨by simp only [inr]; omega, ?_, hx.2.2.2⟩
    show inr .i64 ((mget nm x.id).getD 0)
    cases hg : mget nm x.id with
    | none => simp [inr]
    | some v => exact hm _ (mget_mem hg)
  · split at he
    · exact netE_ok hR hi hx ns 0 (by omega) e he
    · simp at he
theorem rowE_ok {nm : List (Int × Int)} {tm : List (Int × List (Int × Bool))} {R : Nat} {ns : List Lsa} (hR : R ≤ 400) (hn : ns.length ≤ 400) (hm : ∀ q ∈ nm, inr .i64 q.2) : ∀ (l : List Lsa) (i : Nat), i + l.length ≤ 400 → (∀ x ∈ l, okA x) → okEs (rowE nm tm R ns i l)
  | [], i, _, _ => fun e he => by simp [rowE] at he
  | x :: l, i, h, hl => fun e he => by
    simp only [List.length_cons] at h
    simp only [rowE] at he
    rcases List.mem_append.1 he with he | he
    · obtain ⟨y, hy, h2⟩ := List.mem_flatMap.1 he
      exact lnkE_ok hR hn (by omega) hm ((hl x (List.mem_cons_self ..)).2.1 y hy) e h2
    · exact rowE_ok hR hn hm l (i + 1) (by omega) (fun z hz => hl z (List.mem_cons_of_mem _ hz)) e he
end Go.Pl
/- The examples of the document. No program in sight. -/
namespace Go.Pl
open Go Go.RT
set_option linter.all false
def rawL (a b c : Int) : Lsa := ⟨⟨1, a, 0, a, 1, 0, 0⟩, false, false, [⟨1, b, 9, c⟩], [], 0, false, 0, 0⟩
def lnkS (a b c s : Int) : Lsa := ⟨⟨1, a, 0, a, 1, 0, s⟩, false, false, [⟨1, b, 9, c⟩], [], 0, false, 0, 0⟩
def db1 (s1 s2 : Int) : List Lsa := [lnkS 1 2 5 s1, lnkS 2 1 7 s2]
def db2 (s1 s2 : Int) : List Lsa := [lnkS 1 2 5 s1, lnkS 2 3 7 s2]
theorem cnt1_1 (s1 s2 : Int) : cntL 1 (db1 s1 s2) = db1 s1 s2 := rfl
theorem cnt1_2 (s1 s2 : Int) : cntL 2 (db1 s1 s2) = [] := rfl
theorem cnt2_1 (s1 s2 : Int) : cntL 1 (db2 s1 s2) = db2 s1 s2 := rfl
theorem cnt2_2 (s1 s2 : Int) : cntL 2 (db2 s1 s2) = [] := rfl
theorem edges1 (s1 s2 : Int) : edgesG (db1 s1 s2) [] = [⟨0, 1, 5⟩, ⟨1, 0, 7⟩] := rfl
theorem edges2 (s1 s2 : Int) : edgesG (db2 s1 s2) [] = [] := rfl
theorem ofL1 : ofL [⟨0, 1, 5⟩, ⟨1, 0, 7⟩] = [⟨0, 1, 5⟩, ⟨1, 0, 7⟩] := (ofL_least _).uniq ⟨by simp [AscK, ltK], by simp, by simp, by simp⟩
theorem ofL2 : ofL [] = [] := (ofL_least _).uniq ⟨by simp [AscK, ltK], by simp, by simp, by simp⟩
theorem ofF1 : ofF 2 0 [⟨0, 1, 5⟩, ⟨1, 0, 7⟩] = (⟨2, 0, [⟨0, 1, 5⟩, ⟨1, 0, 7⟩]⟩, 0) := by
  unfold ofF; rw [ofL1]; decide
theorem ofF2 : ofF 2 0 [] = (⟨2, 0, []⟩, 0) := by
  unfold ofF; rw [ofL2]; decide
theorem build1 (s1 s2 : Int) : buildF (db1 s1 s2) = (⟨⟨2, 0, [⟨0, 1, 5⟩, ⟨1, 0, 7⟩]⟩, [1, 2], []⟩, 0) := by
  unfold buildF
  rw [cnt1_1, cnt1_2]
  unfold buildG
  rw [edges1]
  have e : ofF ((db1 s1 s2).length : Int) (([] : List Lsa).length : Int) [⟨0, 1, 5⟩, ⟨1, 0, 7⟩] = (⟨2, 0, [⟨0, 1, 5⟩, ⟨1, 0, 7⟩]⟩, 0) := ofF1
  rw [e, if_neg (by decide)]; rfl
theorem build2 (s1 s2 : Int) : buildF (db2 s1 s2) = (⟨⟨2, 0, []⟩, [1, 2], []⟩, 0) := by
  unfold buildF
  rw [cnt2_1, cnt2_2]
  unfold buildG
  rw [edges2]
  have e : ofF ((db2 s1 s2).length : Int) (([] : List Lsa).length : Int) [] = (⟨2, 0, []⟩, 0) := ofF2
  rw [e, if_neg (by decide)]; rfl
end Go.Pl
/- Valid databases: keys are apart; Own and Get find the same advertisement. No program in sight. -/
namespace Go.Pl
open Go Go.RT
set_option linter.all false
theorem cmpI_lt (a b : Int) : cmpI a b < 0 ↔ a < b := by
  unfold cmpI
  split
  · simp; assumption
  · split <;> simp <;> omega
theorem keyI_lt (a b : KeyA) : keyI a b < 0 ↔ a.ty < b.ty ∨ a.ty = b.ty ∧ (a.id < b.id ∨ a.id = b.id ∧ (a.ln < b.ln ∨ a.ln = b.ln ∧ a.rt < b.rt)) := by
  unfold keyI
  split
  · rw [cmpI_lt]; omega
  · split
    · rw [cmpI_lt]; omega
    · split
      · rw [cmpI_lt]; omega
      · rw [cmpI_lt]; omega
def keyLt (a b : Lsa) : Prop := keyI (keyA a.h) (keyA b.h) < 0
theorem keyLt.trans {a b c : Lsa} (h1 : keyLt a b) (h2 : keyLt b c) : keyLt a c := by
  unfold keyLt at *
  rw [keyI_lt] at *
  omega
theorem keyLt.irr {a b : Lsa} (h : keyLt a b) (e : keyA a.h = keyA b.h) : False := by
  unfold keyLt at h
  rw [keyI_lt, e] at h
  omega
theorem rows_ok : ∀ (l : List Lsa) (p : Option Lsa), rowsGo p l = 0 → (∀ x ∈ l, chkA x = 0 ∧ sealB x = true) ∧ l.Pairwise keyLt ∧ ∀ q, p = some q → ∀ x ∈ l, keyLt q x
  | [], p, _ => ⟨fun x hx => by simp at hx, List.Pairwise.nil, fun q _ x hx => by simp at hx⟩
  | x :: l, p, h => by
    simp only [rowsGo] at h
    by_cases h1 : chkA x ≠ 0
    · rw [if_pos h1] at h; exact absurd h h1
    · rw [if_neg h1] at h
      by_cases h2 : sealB x = false
      · rw [if_pos h2] at h; cases h
      · rw [if_neg h2] at h
        by_cases h3 : badR p x = true
        · rw [if_pos h3] at h; cases h
        · rw [if_neg h3] at h
          obtain ⟨k1, k2, k3⟩ := rows_ok l (some x) h
          have kx := k3 x rfl
          refine ⟨fun y hy => ?_, List.pairwise_cons.2 ⟨kx, k2⟩, fun q hq y hy => ?_⟩
          · rcases List.mem_cons.1 hy with rfl | hy
            · exact ⟨by simpa using h1, by simpa using h2⟩
            · exact k1 y hy
          · subst hq
            have hqx : keyLt q x := by simp only [badR, decide_eq_true_eq] at h3; unfold keyLt; omega
            rcases List.mem_cons.1 hy with rfl | hy
            · exact hqx
            · exact hqx.trans (kx y hy)
theorem keys_uniq {l : List Lsa} (h : l.Pairwise keyLt) {x y : Lsa} (hx : x ∈ l) (hy : y ∈ l) (e : keyA x.h = keyA y.h) : x = y := by
  induction h with
  | nil => exact absurd hx (by simp)
  | cons h1 _ ih =>
    rcases List.mem_cons.1 hx with hxa | hx' <;> rcases List.mem_cons.1 hy with hya | hy'
    · exact hxa.trans hya.symm
    · exact ((h1 y hy').irr (hxa ▸ e)).elim
    · exact ((h1 x hx').irr (hya ▸ e.symm)).elim
    · exact ih hx' hy'
structure DbOk (db : List Lsa) : Prop where
  len : db.length ≤ 2000
  chk : ∀ x ∈ db, chkA x = 0
  pw : db.Pairwise keyLt
theorem dbOk {db : List Lsa} (h : dbI db = 0) : DbOk db := by
  unfold dbI at h
  by_cases h1 : 2000 < db.length
  · rw [if_pos h1] at h; cases h
  · rw [if_neg h1] at h
    obtain ⟨k1, k2, _⟩ := rows_ok db none h
    exact ⟨by omega, fun x hx => (k1 x hx).1, k2⟩
theorem head_router {h : Hdr} (h0 : headI h = 0) (h1 : h.ty = 1) : h.ln = 0 ∧ h.id = h.rt := by
  unfold headI at h0
  by_cases c1 : (!inB h.ty 1 5) = true
  · rw [if_pos c1] at h0; exact absurd h0 (by decide)
  rw [if_neg c1] at h0
  by_cases c2 : (decide (h.rt = 0) || !inB h.sq 1 2147483647 || !inB h.ag 0 3600 || !inB h.sm 0 65535) = true
  · rw [if_pos c2] at h0; exact absurd h0 (by decide)
  rw [if_neg c2] at h0
  by_cases c3 : (if (decide (h.ty = 1) || decide (h.ty = 4)) = true then decide (h.ln ≠ 0) else !inB h.ln 0 32) = true
  · rw [if_pos c3] at h0; exact absurd h0 (by decide)
  rw [if_neg c3] at h0
  by_cases c4 : (decide (h.ty = 1) && decide (h.id ≠ h.rt)) = true
  · rw [if_pos c4] at h0; exact absurd h0 (by decide)
  rw [if_pos (by simp [h1])] at c3
  exact ⟨by simpa using c3, by simpa [h1] using c4⟩
theorem DbOk.router {db : List Lsa} (h : DbOk db) {x : Lsa} (hx : x ∈ db) (h1 : x.h.ty = 1) : keyA x.h = ⟨1, x.h.rt, 0, x.h.rt⟩ := by
  obtain ⟨k1, k2⟩ := head_router (chkA_parts (h.chk x hx)).1 h1
  unfold keyA
  rw [h1, k1, k2]
theorem ownGo_eq (r : Int) : ∀ db, ownGo r db = db.find? fun l => cntB 1 l && decide (l.h.rt = r)
  | [] => rfl
  | l :: t => by
    simp only [ownGo, List.find?_cons]
    rw [ownGo_eq r t]
    cases cntB 1 l && decide (l.h.rt = r) <;> simp
end Go.Pl
/- Stubs: both sides take them of the same advertisement. No program in sight. -/
namespace Go.Pl
open Go Go.RT
set_option linter.all false
abbrev kOf (r : Int) : KeyA := keyA ⟨1, r, 0, r, 0, 0, 0⟩
def stubsA (db : List Lsa) (r : Int) : List Lnk :=
  match db.find? fun x => decide (keyA x.h = kOf r) with
  | none => []
  | some l => if 3600 ≤ l.h.ag then [] else stubsL l.ls
theorem stubs_eq {db : List Lsa} (h : DbOk db) (r : Int) : stubsA db r = stubsL ((ownGo r db).getD zeroA).ls := by
  rw [ownGo_eq]
  unfold stubsA
  have key : ∀ x ∈ db, (cntB 1 x && decide (x.h.rt = r)) = true → keyA x.h = kOf r ∧ x.h.ag < 3600 := fun x hx hc => by
    simp only [cntB, Bool.and_eq_true, decide_eq_true_eq] at hc
    exact ⟨by rw [h.router hx hc.1.1, hc.2]; rfl, hc.1.2⟩
  cases hf : db.find? (fun x => decide (keyA x.h = kOf r)) with
  | none =>
    have hn := List.find?_eq_none.1 hf
    have : db.find? (fun l => cntB 1 l && decide (l.h.rt = r)) = none := List.find?_eq_none.2 fun x hx hc => hn x hx (by simpa using (key x hx hc).1)
    rw [this]; rfl
  | some l =>
    have hl := List.mem_of_find?_eq_some hf
    have hk : keyA l.h = kOf r := by simpa using List.find?_some hf
    dsimp only
    have hty : l.h.ty = 1 := congrArg KeyA.ty hk
    have hrt : l.h.rt = r := congrArg KeyA.rt hk
    by_cases ha : 3600 ≤ l.h.ag
    · rw [if_pos ha]
      have : db.find? (fun l => cntB 1 l && decide (l.h.rt = r)) = none := List.find?_eq_none.2 fun x hx hc => by
        obtain ⟨e, ea⟩ := key x hx hc
        have := keys_uniq h.pw hx hl (e.trans hk.symm)
        subst this; omega
      rw [this]; rfl
    · rw [if_neg ha]
      cases hg : db.find? (fun l => cntB 1 l && decide (l.h.rt = r)) with
      | none =>
        have := List.find?_eq_none.1 hg l hl
        exact absurd (by simp [cntB, hty, hrt]; omega) this
      | some y =>
        have hy := List.mem_of_find?_eq_some hg
        have hp : (cntB 1 y && decide (y.h.rt = r)) = true := List.find?_some (p := fun l => cntB 1 l && decide (l.h.rt = r)) hg
        obtain ⟨e, _⟩ := key y hy hp
        have := keys_uniq h.pw hy hl (e.trans hk.symm)
        subst this; rfl
end Go.Pl
namespace Go.Proofs.Ytdhkioocjgpocaa
open Go Go.RT Go.Proofs Go.Pl
set_option linter.all false
set_option maxRecDepth 20000
theorem clone_a (l : Lsa) (hn1 : l.ls.length ≤ 40000000) (hn2 : l.att.length ≤ 40000000) : Meets Try.prog 73 [.fz (.agg (encA l))] 0 [] (.agg [IV .i64 l.h.ty, IV .u32 l.h.id, IV .i64 l.h.ln, IV .u32 l.h.rt, IV .i64 l.h.sq, IV .i64 l.h.ag, IV .i64 l.h.sm, BV l.bo, BV l.bd, .sl 0 4 0 l.ls.length, .fz (VU l.att), IV .i64 l.co, BV l.se, IV .u32 l.fw, IV .i64 l.tg]) [(0, OLk l.ls)] 1 := by
  refine Meets.intro Try.func73 rfl (Nat.le_of_ble_eq_true rfl) fun C hC => ?_
  simp only [List.map, argEnv, Nat.reduceAdd]
  refine nK ?_
  refine s_reg rfl ?_
  refine Run.eff (dd := some 1) rfl rfl (op_box_flat rfl (Opd.tmp _ _ rfl) tC rfl) ?_
  refine Run.eff (dd := some 2) rfl rfl (op_alloc rfl rfl rfl rfl) ?_
  refine Run.nil (FinR.mk ?_)
  refine nK ?_
  refine Next.toRefs 0 rfl rfl ?_
  refine Next.toRefs 1 rfl rfl ?_
  refine nK ?_
  refine s_draw mixed ?_
  refine Run.pure (dd := some 3) rfl rfl (op_fld_ptr (by decide) rfl (Opd.tmp _ _ rfl)) ?_
  refine Run.load (dd := some 4) rfl rfl (op_load1_refs rfl (Opd.tmp _ _ rfl) tH rfl) ?_
  refine Run.effW (dd := some 5) rfl rfl (op_call_fresh (fun _ => cloneL_f _ (by assumption)) rfl (Opd.func _) (Opds.cons _ _ _ _ (Opd.tmp _ _ rfl) Opds.nil)) tE ?_
  refine Run.pure (dd := some 6) rfl rfl (op_fld_ptr (by decide) rfl (Opd.tmp _ _ rfl)) ?_
  refine Run.load (dd := some 7) rfl rfl (op_load1_refs rfl (Opd.tmp _ _ rfl) tH rfl) ?_
  refine Run.pure (dd := some 8) rfl rfl (op_call_pure (fun _ => cloneU_c _ (by assumption)) rfl (Opd.func _) (Opds.cons _ _ _ _ (Opd.tmp _ _ rfl) Opds.nil)) ?_
  refine Run.pure (dd := some 9) rfl rfl (op_fld_ptr (by decide) rfl (Opd.tmp _ _ rfl)) ?_
  refine Run.effW (dd := none) rfl rfl (op_store_refs rfl (Opd.tmp _ _ rfl) (Opd.tmp _ _ rfl) tP rfl rfl rfl tS) tE ?_
  refine Run.pure (dd := some 10) rfl rfl (op_fld_ptr (by decide) rfl (Opd.tmp _ _ rfl)) ?_
  refine Run.effW (dd := none) rfl rfl (op_store_refs rfl (Opd.tmp _ _ rfl) (Opd.tmp _ _ rfl) tP rfl rfl rfl tS) tE ?_
  refine Run.nil (FinD.mk (by kernel_rfl) ?_)
  refine nK ?_
  refine s_reg rfl ?_
  refine Run.load (dd := some 11) rfl rfl (op_loadn_refs rfl (Opd.tmp _ _ rfl) tH tR tR) ?_
  refine Run.eff (dd := none) rfl rfl (op_store_refs rfl (Opd.tmp _ _ rfl) (Opd.tmp _ _ rfl) tP rfl rfl rfl tS) ?_
  refine Run.nil (FinR.mk ?_)
  refine nK ?_
  exact n_outW1 [2] [] rfl tVP rfl (keeps0 hC _) ⟨ent_same rfl rfl rfl tL, trivial⟩ (fun _ h => by simp at h) (.inl ⟨rfl, rfl⟩) rfl
abbrev aggA (l : Lsa) (id : Nat) : PV := .agg [IV .i64 l.h.ty, IV .u32 l.h.id, IV .i64 l.h.ln, IV .u32 l.h.rt, IV .i64 l.h.sq, IV .i64 l.h.ag, IV .i64 l.h.sm, BV l.bo, BV l.bd, .sl id 4 0 l.ls.length, .fz (VU l.att), IV .i64 l.co, BV l.se, IV .u32 l.fw, IV .i64 l.tg]
theorem get_none (db : List Lsa) (k : KeyA) (hn : lenOk db.length) (h : idxGo (fun x => decide (keyA x.h = k)) 0 db = -1) : Pure Try.prog 45 [VA db, .agg (encK k)] (.tup [.agg (encA zeroA), Bf false]) := by
  have hix := indexA_c db k hn
  rw [h] at hix
  refine Meets.intro Try.func45 rfl (Nat.le_of_ble_eq_true rfl) fun C hC => ?_
  simp only [List.map, argEnv, Nat.reduceAdd]
  refine nK ?_
  refine s_reg rfl ?_
  refine Run.eff (dd := some 3) rfl rfl (op_box_flat rfl (Opd.tmp _ _ rfl) tC rfl) ?_
  refine Run.eff (dd := some 4) rfl rfl (op_alloc rfl rfl rfl rfl) ?_
  refine Run.pure (dd := some 5) rfl rfl (op_assign rfl (Opd.const _)) ?_
  refine Run.nil (FinR.mk ?_)
  refine nK ?_
  refine s_reg rfl ?_
  refine Run.pure (dd := some 7) rfl rfl (op_move rfl (Opd.tmp _ _ rfl)) ?_
  refine Run.load (dd := some 8) rfl rfl (op_loadw_flat rfl (Opd.tmp _ _ rfl) tH rfl) ?_
  refine Run.pure (dd := some 9) rfl rfl (op_build rfl rfl rfl (FillF.cons _ _ _ _ _ _ _ _ _ _ (by rfl) (Opd.tmp _ _ rfl) tC (by rfl) tR (FillF.nil _))) ?_
  refine Run.pure (dd := some 10) rfl rfl (op_makeFunc rfl (Opds.cons _ _ _ _ (Opd.tmp _ _ rfl) Opds.nil) Opds.nil) ?_
  refine Run.eff (dd := some 11) rfl rfl (op_call (n := 0) (n' := 0) [] (fun _ => hix) rfl (Opd.func _) (Opds.cons _ _ _ _ (Opd.tmp _ _ rfl) (Opds.cons _ _ _ _ (Opd.tmp _ _ rfl) Opds.nil)) rfl rfl (Lent.of rfl rfl (by repeat (first | exact trivial | refine ⟨⟨rfl, rfl, rfl, tL⟩, ?_⟩)) rfl) rfl rfl rfl rfl rfl) ?_
  refine Run.pure (dd := some 6) rfl rfl (op_assign rfl (Opd.tmp _ _ rfl)) ?_
  refine Run.nil (FinR.mk ?_)
  refine nK ?_
  refine s_reg rfl ?_
  refine Run.pure (dd := some 12) rfl rfl (op_move rfl (Opd.tmp _ _ rfl)) ?_
  refine Run.pure (dd := some 13) rfl rfl (op_lss rfl (Opd.tmp _ _ rfl) (Opd.const _)) ?_
  refine Run.nil (FinR.mk ?_)
  refine nK ?_
  refine n_cond _ rfl (fun hb => ?_) (fun hb => ?_)
  · refine nK ?_
    refine s_reg rfl ?_
    refine Run.pure (dd := some 14) rfl rfl (op_build rfl rfl rfl (FillF.nil _)) ?_
    refine Run.eff (dd := none) rfl rfl (op_store_flat rfl (Opd.tmp _ _ rfl) (Opd.tmp _ _ rfl) tC rfl rfl (by first | rfl | assumption) tS) ?_
    refine Run.pure (dd := some 5) rfl rfl (op_assign rfl (Opd.const _)) ?_
    refine Run.nil (FinR.mk ?_)
    refine nK ?_
    refine Next.weakS [4] [] (by rfl) (keeps0 hC _) (G' := [(4, .ptr 0 15 0 0), (5, BV false)]) (H' := [(0, OA zeroA)]) (by repeat (first | exact trivial | refine ⟨⟨_, rfl, .inl ⟨rfl, rfl⟩⟩, ?_⟩ | refine ⟨⟨_, rfl, .inl ⟨slEq rfl tN, rfl⟩⟩, ?_⟩ | refine ⟨⟨_, rfl, .inl ⟨ivEq tX, rfl⟩⟩, ?_⟩)) (by exact ⟨⟨rfl, rfl, .fflat _ _ _ rfl tW⟩, trivial⟩) rfl ?_
    (first | exact s_o1 hC rfl tV | exact s_o2 hC rfl tV tV | exact s_o3 hC rfl tV tV tV | exact s_o4 hC rfl tV tV tV tV | exact s_out0 hC rfl | exact s_outO hC rfl rfl rfl)
  · exfalso; simp at hb
theorem get_some (db : List Lsa) (k : KeyA) (hn : lenOk db.length) (j : Nat) (hj : j < db.length) (h : idxGo (fun x => decide (keyA x.h = k)) 0 db = (j : Int)) (hn1 : db[j].ls.length ≤ 40000000) (hn2 : db[j].att.length ≤ 40000000) : Meets Try.prog 45 [.fz (VA db), .fz (.agg (encK k))] 0 [] (.tup [aggA db[j] 0, BV true]) [(0, OLk db[j].ls)] 1 := by
  have hix := indexA_c db k hn
  rw [h] at hix
  have hr1 := row_at' encA db j hj
  generalize db[j] = l at *
  have hcl := clone_a l hn1 hn2
  refine Meets.intro Try.func45 rfl (Nat.le_of_ble_eq_true rfl) fun C hC => ?_
  simp only [List.map, argEnv, Nat.reduceAdd]
  refine nK ?_
  refine s_reg rfl ?_
  refine Run.eff (dd := some 3) rfl rfl (op_box_flat rfl (Opd.tmp _ _ rfl) tC rfl) ?_
  refine Run.eff (dd := some 4) rfl rfl (op_alloc rfl rfl rfl rfl) ?_
  refine Run.pure (dd := some 5) rfl rfl (op_assign rfl (Opd.const _)) ?_
  refine Run.nil (FinR.mk ?_)
  refine nK ?_
  refine s_reg rfl ?_
  refine Run.pure (dd := some 7) rfl rfl (op_move rfl (Opd.tmp _ _ rfl)) ?_
  refine Run.load (dd := some 8) rfl rfl (op_loadw_flat rfl (Opd.tmp _ _ rfl) tH rfl) ?_
  refine Run.pure (dd := some 9) rfl rfl (op_build rfl rfl rfl (FillF.cons _ _ _ _ _ _ _ _ _ _ (by rfl) (Opd.tmp _ _ rfl) tC (by rfl) tR (FillF.nil _))) ?_
  refine Run.pure (dd := some 10) rfl rfl (op_makeFunc rfl (Opds.cons _ _ _ _ (Opd.tmp _ _ rfl) Opds.nil) Opds.nil) ?_
  refine Run.eff (dd := some 11) rfl rfl (op_call (n := 0) (n' := 0) [] (fun _ => hix) rfl (Opd.func _) (Opds.cons _ _ _ _ (Opd.tmp _ _ rfl) (Opds.cons _ _ _ _ (Opd.tmp _ _ rfl) Opds.nil)) rfl rfl (Lent.of rfl rfl (by repeat (first | exact trivial | refine ⟨⟨rfl, rfl, rfl, tL⟩, ?_⟩)) rfl) rfl rfl rfl rfl rfl) ?_
  refine Run.pure (dd := some 6) rfl rfl (op_assign rfl (Opd.tmp _ _ rfl)) ?_
  refine Run.nil (FinR.mk ?_)
  refine nK ?_
  refine s_reg rfl ?_
  refine Run.pure (dd := some 12) rfl rfl (op_move rfl (Opd.tmp _ _ rfl)) ?_
  refine Run.pure (dd := some 13) rfl rfl (op_lss rfl (Opd.tmp _ _ rfl) (Opd.const _)) ?_
  refine Run.nil (FinR.mk ?_)
  refine nK ?_
  refine n_cond _ rfl (fun hb => ?_) (fun hb => ?_)
  · exfalso; simp at hb; omega
  · refine Next.toRefs 1 rfl rfl ?_
    refine nK ?_
    refine s_reg rfl ?_
    refine Run.pure (dd := some 15) rfl rfl (op_move rfl (Opd.tmp _ _ rfl)) ?_
    refine Run.pure (dd := some 16) rfl rfl (op_move rfl (Opd.tmp _ _ rfl)) ?_
    refine Run.pure (dd := some 17) rfl rfl (op_idx_fz _ rfl (Opd.tmp _ _ rfl) (Opd.tmp _ _ rfl) tF) ?_
    refine Run.pure (dd := some 18) rfl rfl (op_loadw_fz rfl (Opd.tmp _ _ rfl) rfl) ?_
    refine Run.eff (dd := some 19) rfl rfl (op_call (n := 0) (n' := 1) [] (fun _ => hcl) rfl (Opd.func _) (Opds.cons _ _ _ _ (Opd.tmp _ _ rfl) Opds.nil) rfl rfl (Lent.of rfl rfl (by repeat (first | exact trivial | refine ⟨⟨rfl, rfl, rfl, tL⟩, ?_⟩)) rfl) rfl rfl rfl rfl rfl) ?_
    refine Run.eff (dd := none) rfl rfl (op_store_refs rfl (Opd.tmp _ _ rfl) (Opd.tmp _ _ rfl) tP rfl rfl rfl tS) ?_
    refine Run.pure (dd := some 5) rfl rfl (op_assign rfl (Opd.const _)) ?_
    refine Run.nil (FinR.mk ?_)
    refine nK ?_
    exact n_outW2 [2] [] rfl tVP tVP rfl (keeps0 hC _) ⟨ent_same rfl rfl rfl tL, trivial⟩ (fun _ h => by simp at h) (.inl ⟨rfl, rfl⟩) (.inl ⟨rfl, rfl⟩) rfl
theorem stubs_a (db : List Lsa) (r : Int) (hn : lenOk db.length) (hl : ∀ x ∈ db, x.ls.length ≤ 40000000 ∧ x.att.length ≤ 40000000) : Pure Try.prog 21 [VA db, If .u32 r] (VL (stubsA db r)) := by
  have hk := keyL_c ⟨1, r, 0, r, 0, 0, 0⟩
  rcases idx_ge (fun x : Lsa => decide (keyA x.h = kOf r)) db 0 with ⟨h1, h2⟩ | ⟨j, hj, h1, h2, h3⟩
  · have e : stubsA db r = [] := by
      unfold stubsA
      rw [List.find?_eq_none.2 (fun x hx => by rw [h2 x hx]; decide)]
    have hg := get_none db (kOf r) hn h1
    rw [e]
    refine Meets.intro Try.func21 rfl (Nat.le_of_ble_eq_true rfl) fun C hC => ?_
    simp only [List.map, argEnv, Nat.reduceAdd]
    refine nK ?_
    refine s_reg rfl ?_
    refine Run.pure (dd := some 4) rfl rfl (op_assign rfl (Opd.const _)) ?_
    refine Run.nil (FinR.mk ?_)
    refine nK ?_
    refine s_reg rfl ?_
    refine Run.pure (dd := some 8) rfl rfl (op_move rfl (Opd.tmp _ _ rfl)) ?_
    refine Run.pure (dd := some 9) rfl rfl (op_move rfl (Opd.tmp _ _ rfl)) ?_
    refine Run.pure (dd := some 10) rfl rfl (op_move rfl (Opd.tmp _ _ rfl)) ?_
    refine Run.pure (dd := some 11) rfl rfl (op_build rfl rfl rfl (FillF.cons _ _ _ _ _ _ _ _ _ _ (by rfl) (Opd.const _) tC (by rfl) tR (FillF.cons _ _ _ _ _ _ _ _ _ _ (by rfl) (Opd.tmp _ _ rfl) tC (by rfl) tR (FillF.cons _ _ _ _ _ _ _ _ _ _ (by rfl) (Opd.tmp _ _ rfl) tC (by rfl) tR (FillF.nil _))))) ?_
    refine Run.pure (dd := some 12) rfl rfl (op_call_pure (fun _ => hk) rfl (Opd.func _) (Opds.cons _ _ _ _ (Opd.tmp _ _ rfl) Opds.nil)) ?_
    refine Run.pure (dd := some 13) rfl rfl (op_call_pure (fun _ => hg) rfl (Opd.func _) (Opds.cons _ _ _ _ (Opd.tmp _ _ rfl) (Opds.cons _ _ _ _ (Opd.tmp _ _ rfl) Opds.nil))) ?_
    refine Run.pure (dd := some 7) rfl rfl (op_move rfl (Opd.tmp _ _ rfl)) ?_
    refine Run.pure (dd := some 14) rfl rfl (op_extract_fz rfl (Opd.tmp _ _ rfl) rfl) ?_
    refine Run.pure (dd := some 15) rfl rfl (op_extract_fz rfl (Opd.tmp _ _ rfl) rfl) ?_
    refine Run.eff (dd := some 5) rfl rfl (op_alloc rfl rfl rfl rfl) ?_
    refine Run.eff (dd := none) rfl rfl (op_store_flat rfl (Opd.tmp _ _ rfl) (Opd.tmp _ _ rfl) tC rfl rfl (by first | rfl | assumption) tS) ?_
    refine Run.pure (dd := some 6) rfl rfl (op_assign rfl (Opd.tmp _ _ rfl)) ?_
    refine Run.nil (FinR.mk ?_)
    refine nK ?_
    refine s_reg rfl ?_
    refine Run.pure (dd := some 16) rfl rfl (op_move rfl (Opd.tmp _ _ rfl)) ?_
    refine Run.pure (dd := some 17) rfl rfl (op_not rfl (Opd.tmp _ _ rfl)) ?_
    refine Run.pure (dd := some 18) rfl rfl (op_move rfl (Opd.tmp _ _ rfl)) ?_
    refine Run.pureG (dd := some 19) rfl rfl rfl tG (op_fld_ptr (by decide) rfl (Opd.tmp _ _ rfl)) ?_
    refine Run.pureG (dd := some 20) rfl rfl rfl tG (op_fld_ptr (by decide) rfl (Opd.topt _ _ _ rfl tO)) ?_
    refine Run.loadG (dd := some 21) rfl rfl rfl tG (op_load1_flat rfl (Opd.topt _ _ _ rfl tO) tH rfl) ?_
    refine Run.pureG (dd := some 22) rfl rfl rfl tG (op_geq rfl (Opd.topt _ _ _ rfl tO) (Opd.const _)) ?_
    refine Run.pure (dd := some 23) rfl rfl (op_pick_or rfl (Opd.tmp _ _ rfl) (Opd.topt _ _ _ rfl tO)) ?_
    refine Run.nil (FinR.mk ?_)
    refine nK ?_
    refine n_cond _ rfl (fun hb => ?_) (fun hb => ?_)
    · refine nK ?_
      refine s_reg rfl ?_
      refine Run.pure (dd := some 4) rfl rfl (op_assign rfl (Opd.const _)) ?_
      refine Run.nil (FinR.mk ?_)
      refine nK ?_
      refine Next.adopt 4 4 rfl ?_
      refine Next.weakS [4] [4] (by rfl) (keeps0 hC _) (G' := [(4, .fz (VL []))]) (H' := []) (by repeat (first | exact trivial | refine ⟨⟨_, rfl, .inl ⟨rfl, rfl⟩⟩, ?_⟩ | refine ⟨⟨_, rfl, .inl ⟨slEq rfl tN, rfl⟩⟩, ?_⟩ | refine ⟨⟨_, rfl, .inl ⟨ivEq tX, rfl⟩⟩, ?_⟩ | refine ⟨⟨_, rfl, .inr ⟨_, rfl, tW⟩⟩, ?_⟩)) trivial rfl ?_
      (first | exact s_o1 hC rfl tV | exact s_o2 hC rfl tV tV | exact s_o3 hC rfl tV tV tV | exact s_o4 hC rfl tV tV tV tV | exact s_out0 hC rfl | exact s_outO hC rfl rfl rfl)
    · exfalso; simp at hb
  · rw [Nat.zero_add] at h1
    obtain ⟨hl1, hl2⟩ := hl db[j] (List.getElem_mem hj)
    have hg := get_some db (kOf r) hn j hj h1 hl1 hl2
    have e : stubsA db r = if 3600 ≤ db[j].h.ag then [] else stubsL db[j].ls := by
      have hf : db.find? (fun x => decide (keyA x.h = kOf r)) = some db[j] := List.find?_eq_some_iff_getElem.2 ⟨h2, j, hj, rfl, fun m hm => by simpa using h3 m hm⟩
      unfold stubsA
      rw [hf]
    generalize db[j] = l at *
    have hde := deleteL_c l.ls hl1 48 [] (fun x => decide (x.k ≠ 3)) stubsP_c
    have hks : keepL (fun x : Lnk => decide (x.k ≠ 3)) l.ls = stubsL l.ls := by
      unfold keepL stubsL
      congr 1; funext x; simp
    rw [hks] at hde
    rw [e]
    refine Meets.intro Try.func21 rfl (Nat.le_of_ble_eq_true rfl) fun C hC => ?_
    simp only [List.map, argEnv, Nat.reduceAdd]
    refine nK ?_
    refine s_reg rfl ?_
    refine Run.pure (dd := some 4) rfl rfl (op_assign rfl (Opd.const _)) ?_
    refine Run.nil (FinR.mk ?_)
    refine nK ?_
    refine s_reg rfl ?_
    refine Run.pure (dd := some 8) rfl rfl (op_move rfl (Opd.tmp _ _ rfl)) ?_
    refine Run.pure (dd := some 9) rfl rfl (op_move rfl (Opd.tmp _ _ rfl)) ?_
    refine Run.pure (dd := some 10) rfl rfl (op_move rfl (Opd.tmp _ _ rfl)) ?_
    refine Run.pure (dd := some 11) rfl rfl (op_build rfl rfl rfl (FillF.cons _ _ _ _ _ _ _ _ _ _ (by rfl) (Opd.const _) tC (by rfl) tR (FillF.cons _ _ _ _ _ _ _ _ _ _ (by rfl) (Opd.tmp _ _ rfl) tC (by rfl) tR (FillF.cons _ _ _ _ _ _ _ _ _ _ (by rfl) (Opd.tmp _ _ rfl) tC (by rfl) tR (FillF.nil _))))) ?_
    refine Run.pure (dd := some 12) rfl rfl (op_call_pure (fun _ => hk) rfl (Opd.func _) (Opds.cons _ _ _ _ (Opd.tmp _ _ rfl) Opds.nil)) ?_
    refine Run.eff (dd := some 13) rfl rfl (op_call (n := 0) (n' := 1) [] (fun _ => hg) rfl (Opd.func _) (Opds.cons _ _ _ _ (Opd.tmp _ _ rfl) (Opds.cons _ _ _ _ (Opd.tmp _ _ rfl) Opds.nil)) rfl rfl (Lent.of rfl rfl (by repeat (first | exact trivial | refine ⟨⟨rfl, rfl, rfl, tL⟩, ?_⟩)) rfl) rfl rfl rfl rfl rfl) ?_
    refine Run.pure (dd := some 7) rfl rfl (op_move rfl (Opd.tmp _ _ rfl)) ?_
    refine Run.pure (dd := some 14) rfl rfl (op_extract rfl (Opd.tmp _ _ rfl) rfl) ?_
    refine Run.pure (dd := some 15) rfl rfl (op_extract rfl (Opd.tmp _ _ rfl) rfl) ?_
    refine Run.eff (dd := some 5) rfl rfl (op_allocP rfl rfl rfl rfl rfl) ?_
    refine Run.eff (dd := none) rfl rfl (op_store_refs rfl (Opd.tmp _ _ rfl) (Opd.tmp _ _ rfl) tP rfl rfl rfl tS) ?_
    refine Run.pure (dd := some 6) rfl rfl (op_assign rfl (Opd.tmp _ _ rfl)) ?_
    refine Run.nil (FinR.mk ?_)
    refine nK ?_
    refine s_reg rfl ?_
    refine Run.pure (dd := some 16) rfl rfl (op_move rfl (Opd.tmp _ _ rfl)) ?_
    refine Run.pure (dd := some 17) rfl rfl (op_not rfl (Opd.tmp _ _ rfl)) ?_
    refine Run.pure (dd := some 18) rfl rfl (op_move rfl (Opd.tmp _ _ rfl)) ?_
    refine Run.pureG (dd := some 19) rfl rfl rfl tG (op_fld_ptr (by decide) rfl (Opd.tmp _ _ rfl)) ?_
    refine Run.pureG (dd := some 20) rfl rfl rfl tG (op_fld_ptr (by decide) rfl (Opd.topt _ _ _ rfl tO)) ?_
    refine Run.loadG (dd := some 21) rfl rfl rfl tG (op_load1_refs rfl (Opd.topt _ _ _ rfl tO) tH rfl) ?_
    refine Run.pureG (dd := some 22) rfl rfl rfl tG (op_geq rfl (Opd.topt _ _ _ rfl tO) (Opd.const _)) ?_
    refine Run.pure (dd := some 23) rfl rfl (op_pick_or rfl (Opd.tmp _ _ rfl) (Opd.topt _ _ _ rfl tO)) ?_
    refine Run.nil (FinR.mk ?_)
    refine nK ?_
    refine n_cond _ rfl (fun hb => ?_) (fun hb => ?_)
    · have ha : 3600 ≤ l.h.ag := by simpa using hb
      rw [if_pos ha]
      refine nK ?_
      refine s_reg rfl ?_
      refine Run.pure (dd := some 4) rfl rfl (op_assign rfl (Opd.const _)) ?_
      refine Run.nil (FinR.mk ?_)
      refine nK ?_
      refine Next.adopt 4 4 rfl ?_
      refine Next.weakS [4] [4] (by rfl) (keeps0 hC _) (G' := [(4, .fz (VL []))]) (H' := []) (by repeat (first | exact trivial | refine ⟨⟨_, rfl, .inl ⟨rfl, rfl⟩⟩, ?_⟩ | refine ⟨⟨_, rfl, .inl ⟨slEq rfl tN, rfl⟩⟩, ?_⟩ | refine ⟨⟨_, rfl, .inl ⟨ivEq tX, rfl⟩⟩, ?_⟩ | refine ⟨⟨_, rfl, .inr ⟨_, rfl, tW⟩⟩, ?_⟩)) trivial rfl ?_
      (first | exact s_o1 hC rfl tV | exact s_o2 hC rfl tV tV | exact s_o3 hC rfl tV tV tV | exact s_o4 hC rfl tV tV tV tV | exact s_out0 hC rfl | exact s_outO hC rfl rfl rfl)
    · have ha : ¬ 3600 ≤ l.h.ag := by simpa using hb
      rw [if_neg ha]
      refine nK ?_
      refine s_reg rfl ?_
      refine Run.pure (dd := some 24) rfl rfl (op_fld_ptr (by decide) rfl (Opd.tmp _ _ rfl)) ?_
      refine Run.load (dd := some 25) rfl rfl (op_load1_refs rfl (Opd.tmp _ _ rfl) tH rfl) ?_
      refine Run.eff (dd := some 26) rfl rfl (op_call (n := 1) (n' := 1) [0] (fun _ => hde) rfl (Opd.func _) (Opds.cons _ _ _ _ (Opd.tmp _ _ rfl) (Opds.cons _ _ _ _ (Opd.funcF _) Opds.nil)) rfl rfl (Lent.of rfl rfl (by repeat (first | exact trivial | refine ⟨⟨rfl, rfl, rfl, tL⟩, ?_⟩)) rfl) rfl rfl rfl rfl rfl) ?_
      refine Run.pure (dd := some 4) rfl rfl (op_assign rfl (Opd.tmp _ _ rfl)) ?_
      refine Run.nil (FinR.mk ?_)
      refine nK ?_
      (first | exact s_o1 hC rfl tV | exact s_o2 hC rfl tV tV | exact s_o3 hC rfl tV tV tV | exact s_o4 hC rfl tV tV tV tV | exact s_out0 hC rfl | exact s_outO hC rfl rfl rfl)
open Go Go.RT Go.Proofs Go.Pl
set_option maxRecDepth 20000
theorem counted_f (db : List Lsa) (k : Int) (hn : db.length ≤ 40000000) : Meets Try.prog 25 ([VA db, If .i64 k].map PV.fz) 0 [] (.sl 0 15 0 (cntL k db).length) [(0, some (.flat 15 ((cntL k db).map encA)))] 1 := by
  refine Meets.intro Try.func25 rfl (Nat.le_of_ble_eq_true rfl) fun C hC => ?_
  simp only [List.map, argEnv, Nat.reduceAdd]
  refine nK ?_
  refine s_reg rfl ?_
  refine Run.pure (dd := some 4) rfl rfl (op_assign rfl (Opd.const _)) ?_
  refine Run.nil (FinR.mk ?_)
  refine nK ?_
  refine s_reg rfl ?_
  refine Run.pure (dd := some 5) rfl rfl (op_assign rfl (Opd.const _)) ?_
  refine Run.nil (FinR.mk ?_)
  refine nK ?_
  refine Next.adopt 5 15 rfl ?_
  refine nK ?_
  refine s_reg rfl ?_
  refine Run.pure (dd := some 8) rfl rfl (op_move rfl (Opd.tmp _ _ rfl)) ?_
  refine Run.pure (dd := some 9) rfl rfl (op_len_fz rfl (by first | exact Opd.tmp _ _ rfl | exact Opd.nil _ _ (Opd.tmp _ _ rfl)) (by first | exact List.length_map _ | rfl)) ?_
  refine Run.pure (dd := some 10) rfl rfl (op_move rfl (Opd.const _)) ?_
  refine Run.nil (FinR.mk ?_)
  refine nK ?_
  refine n_loop (ι := Nat × List Lsa) (fun p => ([(1, IV .i64 k), (5, .sl 0 15 0 p.2.length), (8, .fz (VA db)), (9, IV .i64 db.length), (10, IV .i64 p.1)], [(0, some (.flat 15 (p.2.map encA)))], 1)) (fun p => p.1 ≤ db.length ∧ p.2 = cntL k (db.take p.1)) (fun p => db.length - p.1) (0, []) ⟨Nat.zero_le _, by simp [cntL]⟩ ?_ ?_
  · refine Next.weakS [5] [] (by rfl) (by first | exact keeps0 hC _ | exact keepsN hC _ rfl) (by repeat (first | exact trivial | refine ⟨⟨_, rfl, .inl ⟨rfl, rfl⟩⟩, ?_⟩ | refine ⟨⟨_, rfl, .inl ⟨slEq rfl tN, rfl⟩⟩, ?_⟩ | refine ⟨⟨_, rfl, .inl ⟨ivEq tX, rfl⟩⟩, ?_⟩)) (by repeat (first | exact trivial | refine ⟨ent_same rfl rfl rfl tL, ?_⟩ | refine ⟨ent_same rfl rfl (rfEq rfl tU) tL, ?_⟩ | refine ⟨ent_same rfl rfl (flEq rfl (by first | (simp; done) | (simp; omega) | (simp [encA, encH, encL, encU, encK, encV, encR, encE]; done) | simp [maxC, minC])) trivial, ?_⟩)) rfl (rel_intro)
  · intro ⟨i, c⟩ ⟨hi, hS⟩ K hK
    dsimp only at hi hS ⊢
    have hcl : c.length ≤ i := by rw [hS]; exact Nat.le_trans (cnt_len _ _) (by simp; omega)
    refine nK ?_
    refine s_reg rfl ?_
    refine Run.pure (dd := some 11) rfl rfl (op_lss rfl (Opd.tmp _ _ rfl) (Opd.tmp _ _ rfl)) ?_
    refine Run.nil (FinR.mk ?_)
    refine nK ?_
    refine n_cond _ rfl (fun hb => ?_) (fun hb => ?_)
    · have hlt : i < db.length := by simp at hb; omega
      have hr1 := row_at' encA db i hlt
      have hst := cnt_take (k := k) hlt
      have hK1 := fun c' h => hK (i + 1, c') ⟨by dsimp only; omega, h⟩ (by dsimp only; omega)
      refine nK ?_
      refine s_reg rfl ?_
      refine Run.pure (dd := some 12) rfl rfl (op_idx_fz _ rfl (Opd.tmp _ _ rfl) (Opd.tmp _ _ rfl) tF) ?_
      refine Run.pure (dd := some 13) rfl rfl (op_loadw_fz rfl (Opd.tmp _ _ rfl) rfl) ?_
      refine Run.eff (dd := some 7) rfl rfl (op_alloc rfl rfl rfl rfl) ?_
      refine Run.eff (dd := none) rfl rfl (op_store_flat rfl (Opd.tmp _ _ rfl) (Opd.tmp _ _ rfl) tC rfl rfl (by first | rfl | assumption) tS) ?_
      refine Run.nil (FinR.mk ?_)
      refine nK ?_
      refine s_reg rfl ?_
      refine Run.pure (dd := some 14) rfl rfl (op_fld_ptr (by decide) rfl (Opd.tmp _ _ rfl)) ?_
      refine Run.pure (dd := some 15) rfl rfl (op_fld_ptr (by decide) rfl (Opd.tmp _ _ rfl)) ?_
      refine Run.load (dd := some 16) rfl rfl (op_load1_flat rfl (Opd.tmp _ _ rfl) tH rfl) ?_
      refine Run.pure (dd := some 17) rfl rfl (op_move rfl (Opd.tmp _ _ rfl)) ?_
      refine Run.pure (dd := some 18) rfl rfl (op_eql rfl (Opd.tmp _ _ rfl) (Opd.tmp _ _ rfl)) ?_
      refine Run.pure (dd := some 19) rfl rfl (op_move rfl (Opd.tmp _ _ rfl)) ?_
      refine Run.pureG (dd := some 20) rfl rfl rfl tG (op_fld_ptr (by decide) rfl (Opd.tmp _ _ rfl)) ?_
      refine Run.pureG (dd := some 21) rfl rfl rfl tG (op_fld_ptr (by decide) rfl (Opd.topt _ _ _ rfl tO)) ?_
      refine Run.loadG (dd := some 22) rfl rfl rfl tG (op_load1_flat rfl (Opd.topt _ _ _ rfl tO) tH rfl) ?_
      refine Run.pureG (dd := some 23) rfl rfl rfl tG (op_lss rfl (Opd.topt _ _ _ rfl tO) (Opd.const _)) ?_
      refine Run.pure (dd := some 24) rfl rfl (op_pick_and rfl (Opd.tmp _ _ rfl) (Opd.topt _ _ _ rfl tO)) ?_
      refine Run.nil (FinR.mk ?_)
      refine nK ?_
      refine n_cond _ rfl (fun hb => ?_) (fun hb => ?_)
      · rw [if_pos (show cntB k db[i] = true from hb), ← hS] at hst
        have hK2 := hK1 _ hst.symm
        have hel : (c ++ [db[i]]).length = c.length + 1 := by simp
        rw [hel] at hK2
        refine nK ?_
        refine s_reg rfl ?_
        refine Run.pure (dd := some 25) rfl rfl (op_move rfl (Opd.tmp _ _ rfl)) ?_
        refine Run.load (dd := some 26) rfl rfl (op_loadw_flat rfl (Opd.tmp _ _ rfl) tH rfl) ?_
        refine Run.eff (dd := some 27) rfl rfl (op_buildSlice_own rfl (RowsF.cons _ _ _ _ _ _ (Opd.tmp _ _ rfl) tC (by rfl) (RowsF.nil _)) rfl rfl rfl) ?_
        refine Run.eff (dd := some 28) rfl rfl (op_append_own0 rfl (Opd.tmp _ _ rfl) (Opd.tmp _ _ rfl) rfl (by first | rfl | simp) rfl (by first | rfl | simp) rfl rfl tB tB) ?_
        refine Run.pure (dd := some 5) rfl rfl (op_assign rfl (Opd.tmp _ _ rfl)) ?_
        refine Run.nil (FinR.mk ?_)
        refine nK ?_
        refine s_reg rfl ?_
        refine Run.pure (dd := some 29) rfl rfl (op_add rfl (Opd.tmp _ _ rfl) (Opd.const _) tI) ?_
        refine Run.pure (dd := some 10) rfl rfl (op_move rfl (Opd.tmp _ _ rfl)) ?_
        refine Run.nil (FinR.mk ?_)
        refine nK ?_
        refine Next.weakS [5] [] (by rfl) (by first | exact keeps0 hC _ | exact keepsN hC _ rfl) (by repeat (first | exact trivial | refine ⟨⟨_, rfl, .inl ⟨rfl, rfl⟩⟩, ?_⟩ | refine ⟨⟨_, rfl, .inl ⟨slEq rfl tN, rfl⟩⟩, ?_⟩ | refine ⟨⟨_, rfl, .inl ⟨ivEq tX, rfl⟩⟩, ?_⟩)) (by repeat (first | exact trivial | refine ⟨ent_same rfl rfl rfl tL, ?_⟩ | refine ⟨ent_same rfl rfl (rfEq rfl tU) tL, ?_⟩ | refine ⟨ent_same rfl rfl (flEq rfl (by first | (simp; done) | (simp; omega) | (simp [encA, encH, encL, encU, encK, encV, encR, encE]; done) | simp [maxC, minC])) trivial, ?_⟩)) rfl (hK2)
      · rw [if_neg (by rw [show cntB k db[i] = false from hb]; decide), ← hS, List.append_nil] at hst
        refine nK ?_
        refine s_reg rfl ?_
        refine Run.pure (dd := some 29) rfl rfl (op_add rfl (Opd.tmp _ _ rfl) (Opd.const _) tI) ?_
        refine Run.pure (dd := some 10) rfl rfl (op_move rfl (Opd.tmp _ _ rfl)) ?_
        refine Run.nil (FinR.mk ?_)
        refine nK ?_
        refine Next.weakS [5] [] (by rfl) (by first | exact keeps0 hC _ | exact keepsN hC _ rfl) (by repeat (first | exact trivial | refine ⟨⟨_, rfl, .inl ⟨rfl, rfl⟩⟩, ?_⟩ | refine ⟨⟨_, rfl, .inl ⟨slEq rfl tN, rfl⟩⟩, ?_⟩ | refine ⟨⟨_, rfl, .inl ⟨ivEq tX, rfl⟩⟩, ?_⟩)) (by repeat (first | exact trivial | refine ⟨ent_same rfl rfl rfl tL, ?_⟩ | refine ⟨ent_same rfl rfl (rfEq rfl tU) tL, ?_⟩ | refine ⟨ent_same rfl rfl (flEq rfl (by first | (simp; done) | (simp; omega) | (simp [encA, encH, encL, encU, encK, encV, encR, encE]; done) | simp [maxC, minC])) trivial, ?_⟩)) rfl ((hK1 c hst.symm))
    · have hie : i = db.length := by simp at hb; omega
      rw [hie, List.take_length] at hS
      rw [← hS]
      refine nK ?_
      refine s_reg rfl ?_
      refine Run.pure (dd := some 30) rfl rfl (op_move rfl (Opd.tmp _ _ rfl)) ?_
      refine Run.pure (dd := some 4) rfl rfl (op_assign rfl (Opd.tmp _ _ rfl)) ?_
      refine Run.nil (FinR.mk ?_)
      refine nK ?_
      (first | exact s_o1 hC rfl tV | exact s_o2 hC rfl tV tV | exact s_o3 hC rfl tV tV tV | exact s_o4 hC rfl tV tV tV tV | exact s_out0 hC rfl | exact s_outO hC rfl rfl rfl)
theorem counted_c (db : List Lsa) (k : Int) (hn : db.length ≤ 40000000) : Pure Try.prog 25 [VA db, If .i64 k] (VA (cntL k db)) := (counted_f db k hn).freeze (by simp)
theorem points_c (l : Lsa) (ho : okA l) (hn : l.ls.length ≤ 40000000) : Pure Try.prog 26 [.agg (encA l)] (FPts (ptsM l.ls)) := by
  haveI : KEnc Try.prog 42 Int ekU (inr .u32) := kenc_int (by kernel_rfl)
  unfold ptsM
  refine Meets.intro Try.func26 rfl (Nat.le_of_ble_eq_true rfl) fun C hC => ?_
  simp only [List.map, argEnv, Nat.reduceAdd]
  refine nK ?_
  refine s_reg rfl ?_
  refine Run.eff (dd := some 1) rfl rfl (op_box_flat rfl (Opd.tmp _ _ rfl) tC rfl) ?_
  refine Run.pure (dd := some 2) rfl rfl (op_assign rfl (Opd.const _)) ?_
  refine Run.nil (FinR.mk ?_)
  refine nK ?_
  refine s_reg rfl ?_
  refine Run.eff (dd := some 6) rfl rfl (op_makeMap rfl) ?_
  refine Run.pure (dd := some 3) rfl rfl (op_assign rfl (Opd.tmp _ _ rfl)) ?_
  refine Run.nil (FinR.mk ?_)
  refine nK ?_
  refine s_reg rfl ?_
  refine Run.pure (dd := some 7) rfl rfl (op_fld_ptr (by decide) rfl (Opd.tmp _ _ rfl)) ?_
  refine Run.load (dd := some 8) rfl rfl (op_load1_flat rfl (Opd.tmp _ _ rfl) tH rfl) ?_
  refine Run.pure (dd := some 9) rfl rfl (op_len_fz rfl (by first | exact Opd.tmp _ _ rfl | exact Opd.nil _ _ (Opd.tmp _ _ rfl)) (by first | exact List.length_map _ | rfl)) ?_
  refine Run.pure (dd := some 10) rfl rfl (op_move rfl (Opd.const _)) ?_
  refine Run.nil (FinR.mk ?_)
  refine nK ?_
  refine n_loop (ι := Nat × List (Int × Bool)) (fun p => ([(3, .mp 0), (8, .fz (VL l.ls)), (9, IV .i64 l.ls.length), (10, IV .i64 p.1)], [(0, OMap ekU Bf p.2)], 1)) (fun p => p.1 ≤ l.ls.length ∧ mOk p.2 ∧ ptsGo (l.ls.drop p.1) p.2 = ptsGo l.ls []) (fun p => l.ls.length - p.1) (0, []) ⟨Nat.zero_le _, mOk_nil, rfl⟩ ?_ ?_
  · refine Next.weakS [3] [] (by rfl) (by first | exact keeps0 hC _ | exact keepsN hC _ rfl) (by repeat (first | exact trivial | refine ⟨⟨_, rfl, .inl ⟨rfl, rfl⟩⟩, ?_⟩ | refine ⟨⟨_, rfl, .inl ⟨slEq rfl tN, rfl⟩⟩, ?_⟩ | refine ⟨⟨_, rfl, .inl ⟨ivEq tX, rfl⟩⟩, ?_⟩)) (by repeat (first | exact trivial | refine ⟨ent_same rfl rfl rfl tL, ?_⟩ | refine ⟨ent_same rfl rfl (rfEq rfl tU) tL, ?_⟩ | refine ⟨ent_same rfl rfl (flEq rfl (by first | (simp; done) | (simp; omega) | (simp [encA, encH, encL, encU, encK, encV, encR, encE]; done) | simp [maxC, minC])) trivial, ?_⟩)) rfl (rel_intro)
  · intro ⟨i, m⟩ ⟨hi, hm, hS⟩ K hK
    dsimp only at hi hm hS ⊢
    refine nK ?_
    refine s_reg rfl ?_
    refine Run.pure (dd := some 11) rfl rfl (op_lss rfl (Opd.tmp _ _ rfl) (Opd.tmp _ _ rfl)) ?_
    refine Run.nil (FinR.mk ?_)
    refine nK ?_
    refine n_cond _ rfl (fun hb => ?_) (fun hb => ?_)
    · have hlt : i < l.ls.length := by simp at hb; omega
      have hr1 := row_at' encL l.ls i hlt
      have hkk := (ho.2.1 l.ls[i] (List.getElem_mem hlt)).2.1
      rw [pts_step hlt] at hS
      have hK1 := fun m' h1 h2 => hK (i + 1, m') ⟨by dsimp only; omega, h1, h2⟩ (by dsimp only; omega)
      refine nK ?_
      refine s_reg rfl ?_
      refine Run.pure (dd := some 12) rfl rfl (op_idx_fz _ rfl (Opd.tmp _ _ rfl) (Opd.tmp _ _ rfl) tF) ?_
      refine Run.pure (dd := some 13) rfl rfl (op_loadw_fz rfl (Opd.tmp _ _ rfl) rfl) ?_
      refine Run.eff (dd := some 5) rfl rfl (op_alloc rfl rfl rfl rfl) ?_
      refine Run.eff (dd := none) rfl rfl (op_store_flat rfl (Opd.tmp _ _ rfl) (Opd.tmp _ _ rfl) tC rfl rfl (by first | rfl | assumption) tS) ?_
      refine Run.nil (FinR.mk ?_)
      refine nK ?_
      refine s_reg rfl ?_
      refine Run.pure (dd := some 14) rfl rfl (op_fld_ptr (by decide) rfl (Opd.tmp _ _ rfl)) ?_
      refine Run.load (dd := some 15) rfl rfl (op_load1_flat rfl (Opd.tmp _ _ rfl) tH rfl) ?_
      refine Run.pure (dd := some 16) rfl rfl (op_eql rfl (Opd.tmp _ _ rfl) (Opd.const _)) ?_
      refine Run.nil (FinR.mk ?_)
      refine nK ?_
      refine n_cond _ rfl (fun hb => ?_) (fun hb => ?_)
      · rw [if_pos hb] at hS
        refine nK ?_
        refine s_reg rfl ?_
        refine Run.pure (dd := some 17) rfl rfl (op_move rfl (Opd.tmp _ _ rfl)) ?_
        refine Run.pure (dd := some 18) rfl rfl (op_fld_ptr (by decide) rfl (Opd.tmp _ _ rfl)) ?_
        refine Run.load (dd := some 19) rfl rfl (op_load1_flat rfl (Opd.tmp _ _ rfl) tH rfl) ?_
        refine Run.eff (dd := none) rfl rfl (op_mapPut (κ := Int) (ν := Bool) (ek := ekU) (ev := Bf) (l := m) (k := l.ls[i].id) (v := true) (.inl rfl) (Opd.tmp _ _ rfl) (Opd.tmp _ _ rfl) (Opd.const _) rfl hm.1 hm.2 hkk) ?_
        refine Run.nil (FinR.mk ?_)
        refine nK ?_
        refine s_reg rfl ?_
        refine Run.pure (dd := some 20) rfl rfl (op_add rfl (Opd.tmp _ _ rfl) (Opd.const _) tI) ?_
        refine Run.pure (dd := some 10) rfl rfl (op_move rfl (Opd.tmp _ _ rfl)) ?_
        refine Run.nil (FinR.mk ?_)
        refine nK ?_
        refine Next.weakS [3] [] (by rfl) (by first | exact keeps0 hC _ | exact keepsN hC _ rfl) (by repeat (first | exact trivial | refine ⟨⟨_, rfl, .inl ⟨rfl, rfl⟩⟩, ?_⟩ | refine ⟨⟨_, rfl, .inl ⟨slEq rfl tN, rfl⟩⟩, ?_⟩ | refine ⟨⟨_, rfl, .inl ⟨ivEq tX, rfl⟩⟩, ?_⟩)) (by repeat (first | exact trivial | refine ⟨ent_same rfl rfl rfl tL, ?_⟩ | refine ⟨ent_same rfl rfl (rfEq rfl tU) tL, ?_⟩ | refine ⟨ent_same rfl rfl (flEq rfl (by first | (simp; done) | (simp; omega) | (simp [encA, encH, encL, encU, encK, encV, encR, encE]; done) | simp [maxC, minC])) trivial, ?_⟩)) rfl ((hK1 _ (hm.put hkk true) hS))
      · rw [if_neg (by rw [hb]; decide)] at hS
        refine nK ?_
        refine s_reg rfl ?_
        refine Run.pure (dd := some 20) rfl rfl (op_add rfl (Opd.tmp _ _ rfl) (Opd.const _) tI) ?_
        refine Run.pure (dd := some 10) rfl rfl (op_move rfl (Opd.tmp _ _ rfl)) ?_
        refine Run.nil (FinR.mk ?_)
        refine nK ?_
        refine Next.weakS [3] [] (by rfl) (by first | exact keeps0 hC _ | exact keepsN hC _ rfl) (by repeat (first | exact trivial | refine ⟨⟨_, rfl, .inl ⟨rfl, rfl⟩⟩, ?_⟩ | refine ⟨⟨_, rfl, .inl ⟨slEq rfl tN, rfl⟩⟩, ?_⟩ | refine ⟨⟨_, rfl, .inl ⟨ivEq tX, rfl⟩⟩, ?_⟩)) (by repeat (first | exact trivial | refine ⟨ent_same rfl rfl rfl tL, ?_⟩ | refine ⟨ent_same rfl rfl (rfEq rfl tU) tL, ?_⟩ | refine ⟨ent_same rfl rfl (flEq rfl (by first | (simp; done) | (simp; omega) | (simp [encA, encH, encL, encU, encK, encV, encR, encE]; done) | simp [maxC, minC])) trivial, ?_⟩)) rfl ((hK1 _ hm hS))
    · have hie : i = l.ls.length := by simp at hb; omega
      rw [hie, List.drop_length] at hS
      rw [← hS]
      simp only [ptsGo]
      refine nK ?_
      refine s_reg rfl ?_
      refine Run.pure (dd := some 21) rfl rfl (op_move rfl (Opd.tmp _ _ rfl)) ?_
      refine Run.pure (dd := some 2) rfl rfl (op_assign rfl (Opd.tmp _ _ rfl)) ?_
      refine Run.nil (FinR.mk ?_)
      refine nK ?_
      refine Next.weakS [] [2] (by rfl) (keeps0 hC _) (G' := [(2, .fz (FPts m))]) (H' := []) (by exact ⟨⟨_, rfl, .inr ⟨_, rfl, .mp _ _ _ rfl rfl⟩⟩, trivial⟩) trivial rfl ?_
      (first | exact s_o1 hC rfl tV | exact s_o2 hC rfl tV tV | exact s_o3 hC rfl tV tV tV | exact s_o4 hC rfl tV tV tV tV | exact s_out0 hC rfl | exact s_outO hC rfl rfl rfl)
theorem add_c (m : List (Int × Int)) (es l : List Edg) (hn : es.length + l.length ≤ 40000000) : Meets Try.prog 27 [.ptr 0 2 0 0, .fz (VE l)] 3 [(0, some (.refs 2 [[.mp 1, .sl 2 3 0 es.length]])), (1, OMap ekU evI m), (2, OE es)] (.fz (.tup [])) [(0, some (.refs 2 [[.mp 1, .sl 3 3 0 (es.length + l.length)]])), (1, OMap ekU evI m), (3, OE (es ++ l))] 4 := by
  refine Meets.intro Try.func27 rfl (Nat.le_of_ble_eq_true rfl) fun C hC => ?_
  simp only [List.map, argEnv, Nat.reduceAdd]
  refine nK ?_
  refine s_reg rfl ?_
  refine Run.pure (dd := some 4) rfl rfl (op_move rfl (Opd.tmp _ _ rfl)) ?_
  refine Run.pure (dd := some 5) rfl rfl (op_move rfl (Opd.tmp _ _ rfl)) ?_
  refine Run.pure (dd := some 6) rfl rfl (op_nilck_ptr rfl (Opd.tmp _ _ rfl)) ?_
  refine Run.pure (dd := some 7) rfl rfl (op_fld_ptr (by decide) rfl (Opd.tmp _ _ rfl)) ?_
  refine Run.load (dd := some 8) rfl rfl (op_load1_refs rfl (Opd.tmp _ _ rfl) tH rfl) ?_
  refine Run.pure (dd := some 9) rfl rfl (op_move rfl (Opd.tmp _ _ rfl)) ?_
  refine Run.eff (dd := some 10) rfl rfl (op_append rfl (Opd.tmp _ _ rfl) (by first | exact Opd.tmp _ _ rfl | exact Opd.nil _ _ (Opd.tmp _ _ rfl)) rfl (by first | rfl | simp) rfl rfl tB tB) ?_
  refine Run.pure (dd := some 11) rfl rfl (op_nilck_ptr rfl (Opd.tmp _ _ rfl)) ?_
  refine Run.pure (dd := some 12) rfl rfl (op_fld_ptr (by decide) rfl (Opd.tmp _ _ rfl)) ?_
  refine Run.eff (dd := none) rfl rfl (op_store_refs rfl (Opd.tmp _ _ rfl) (Opd.tmp _ _ rfl) tP rfl rfl rfl tS) ?_
  refine Run.nil (FinR.mk ?_)
  rw [List.length_map, ← List.map_append]
  refine Next.weak [0, 1, 2, 3] [] (by rfl) (keepsN hC _ rfl) (G' := []) (H' := [(0, some (.refs 2 [[.mp 1, .sl 3 3 0 (es.length + l.length)]])), (1, OMap ekU evI m), (3, OE (es ++ l))]) trivial (by exact ⟨ent_same rfl rfl rfl tL, ⟨ent_same rfl rfl rfl tL, ⟨ent_same rfl rfl rfl tL, trivial⟩⟩⟩) (fun _ h => by simp at h) ?_
  exact n_out0 rfl
open Go Go.RT Go.Proofs Go.Pl
set_option maxRecDepth 20000
set_option maxHeartbeats 4000000
theorem build_c (db : List Lsa) (hn : db.length ≤ 400) (ho : ∀ x ∈ db, okA x) (hl : ∀ x ∈ db, x.ls.length ≤ 64 ∧ x.att.length ≤ 64) : Pure Try.prog 10 [VA db] (.tup [.agg (encR (buildF db).1), If .i64 (buildF db).2]) := by
  haveI : KEnc Try.prog 42 Int ekU (inr .u32) := kenc_int (by kernel_rfl)
  unfold buildF
  have hc1 := counted_c db 1 (by omega)
  have hc2 := counted_c db 2 (by omega)
  have hR : (cntL 1 db).length ≤ 400 := Nat.le_trans (cnt_len 1 db) hn
  have hN : (cntL 2 db).length ≤ 400 := Nat.le_trans (cnt_len 2 db) hn
  have hro : ∀ x ∈ cntL 1 db, okA x := fun x hx => ho x (List.mem_filter.1 hx).1
  have hno : ∀ x ∈ cntL 2 db, okA x := fun x hx => ho x (List.mem_filter.1 hx).1
  have hrl : ∀ x ∈ cntL 1 db, x.ls.length ≤ 64 ∧ x.att.length ≤ 64 := fun x hx => hl x (List.mem_filter.1 hx).1
  have hnl : ∀ x ∈ cntL 2 db, x.ls.length ≤ 64 ∧ x.att.length ≤ 64 := fun x hx => hl x (List.mem_filter.1 hx).1
  generalize cntL 1 db = rs at *
  generalize cntL 2 db = ns at *
  clear ho hl
  refine Meets.intro Try.func10 rfl (Nat.le_of_ble_eq_true rfl) fun C hC => ?_
  simp only [List.map, argEnv, Nat.reduceAdd]
  refine nK ?_
  refine s_reg rfl ?_
  refine Run.eff (dd := some 2) rfl rfl (op_alloc rfl rfl rfl rfl) ?_
  refine Run.pure (dd := some 3) rfl rfl (op_assign rfl (Opd.const _)) ?_
  refine Run.nil (FinR.mk ?_)
  refine nK ?_
  refine s_reg rfl ?_
  refine Run.pure (dd := some 23) rfl rfl (op_move rfl (Opd.tmp _ _ rfl)) ?_
  refine Run.pure (dd := some 24) rfl rfl (op_call_pure (fun _ => hc1) rfl (Opd.func _) (Opds.cons _ _ _ _ (Opd.tmp _ _ rfl) (Opds.cons _ _ _ _ (Opd.const _) Opds.nil))) ?_
  refine Run.pure (dd := some 25) rfl rfl (op_move rfl (Opd.tmp _ _ rfl)) ?_
  refine Run.pure (dd := some 26) rfl rfl (op_call_pure (fun _ => hc2) rfl (Opd.func _) (Opds.cons _ _ _ _ (Opd.tmp _ _ rfl) (Opds.cons _ _ _ _ (Opd.const _) Opds.nil))) ?_
  refine Run.pure (dd := some 4) rfl rfl (op_assign rfl (Opd.tmp _ _ rfl)) ?_
  refine Run.pure (dd := some 5) rfl rfl (op_assign rfl (Opd.tmp _ _ rfl)) ?_
  refine Run.nil (FinR.mk ?_)
  refine nK ?_
  refine s_reg rfl ?_
  refine Run.eff (dd := some 6) rfl rfl (op_allocP rfl rfl rfl rfl rfl) ?_
  refine Run.nil (FinR.mk ?_)
  refine nK ?_
  refine s_reg rfl ?_
  refine Run.eff (dd := some 27) rfl rfl (op_makeMap rfl) ?_
  refine Run.pure (dd := some 28) rfl rfl (op_buildP rfl rfl rfl rfl (FillP.cons _ _ _ _ _ _ _ _ _ _ (by rfl) (Opd.tmp _ _ rfl) tP (by rfl) tR (FillP.nil _))) ?_
  refine Run.eff (dd := some 29) rfl rfl (op_box_refs rfl (Opd.tmp _ _ rfl) tP rfl) ?_
  refine Run.pure (dd := some 7) rfl rfl (op_assign rfl (Opd.tmp _ _ rfl)) ?_
  refine Run.nil (FinR.mk ?_)
  refine nK ?_
  refine s_reg rfl ?_
  refine Run.eff (dd := some 30) rfl rfl (op_makeMap rfl) ?_
  refine Run.pure (dd := some 8) rfl rfl (op_assign rfl (Opd.tmp _ _ rfl)) ?_
  refine Run.nil (FinR.mk ?_)
  refine nK ?_
  refine Next.adoptCell 1 0 3 1 rfl rfl rfl rfl ?_
  refine Next.adoptCell 1 0 4 3 rfl rfl rfl rfl ?_
  refine Next.adoptCell 3 0 1 3 rfl rfl rfl rfl ?_
  refine nK ?_
  refine s_reg rfl ?_
  refine Run.pure (dd := some 31) rfl rfl (op_move rfl (Opd.tmp _ _ rfl)) ?_
  refine Run.pure (dd := some 32) rfl rfl (op_len_fz rfl (by first | exact Opd.tmp _ _ rfl | exact Opd.nil _ _ (Opd.tmp _ _ rfl)) (by first | exact List.length_map _ | rfl)) ?_
  refine Run.pure (dd := some 33) rfl rfl (op_move rfl (Opd.const _)) ?_
  refine Run.nil (FinR.mk ?_)
  refine nK ?_
  refine n_loop (ι := Nat × List (Int × Int) × List (Int × List (Int × Bool))) (fun p => ([(2, .ptr 0 5 0 0), (4, .fz (VA rs)), (5, .fz (VA ns)), (6, .ptr 1 5 0 0), (7, .ptr 3 2 0 0), (8, .mp 4), (31, .fz (VA rs)), (32, IV .i64 rs.length), (33, IV .i64 p.1)], [(0, OR zeroR), (1, some (.refs 5 [[IV .i64 0, IV .i64 0, .fz (.lit (.slice none 0 0)), .sl 5 1 0 p.1, .sl 6 3 0 0]])), (2, OMap ekU evI p.2.1), (3, some (.refs 2 [[.mp 2, .sl 7 3 0 0]])), (4, OMap ekU FPts p.2.2), (5, some (.flat 1 (((rs.take p.1).map fun l => l.h.rt).map encU))), (6, some (.flat 3 [])), (7, some (.flat 3 []))], 8)) (fun p => p.1 ≤ rs.length ∧ mOk p.2.1 ∧ mOk p.2.2 ∧ (∀ q ∈ p.2.1, inr .i64 q.2) ∧ (∀ q ∈ p.2.2, mOk q.2) ∧ nodesGo p.1 (rs.drop p.1) p.2.1 = nodesGo 0 rs [] ∧ towGo (rs.drop p.1) p.2.2 = towGo rs []) (fun p => rs.length - p.1) (0, [], []) ⟨Nat.zero_le _, mOk_nil, mOk_nil, by simp, by simp, rfl, rfl⟩ ?_ ?_
  · refine Next.weak [0, 1, 2, 3, 4, 5, 6, 7] [] (by rfl) (keeps0 hC _) (by repeat (first | exact trivial | refine ⟨⟨_, rfl, .inl ⟨rfl, rfl⟩⟩, ?_⟩ | refine ⟨⟨_, rfl, .inl ⟨slEq rfl tN, rfl⟩⟩, ?_⟩ | refine ⟨⟨_, rfl, .inl ⟨ivEq tX, rfl⟩⟩, ?_⟩)) (by exact ⟨⟨rfl, rfl, .fflat _ _ _ rfl tW⟩, ⟨ent_same rfl rfl rfl tL, ⟨ent_same rfl rfl rfl tL, ⟨ent_same rfl rfl rfl tL, ⟨ent_same rfl rfl rfl tL, ⟨ent_same rfl rfl rfl tL, ⟨ent_same rfl rfl rfl tL, ⟨ent_same rfl rfl rfl tL, trivial⟩⟩⟩⟩⟩⟩⟩⟩) (fun _ h => by simp at h) (rel_intro)
  · intro ⟨i, nm, tm⟩ ⟨hi, hm1, hm2, hm3, hm4, hS1, hS2⟩ K hK
    dsimp only at hi hm1 hm2 hm3 hm4 hS1 hS2 ⊢
    refine nK ?_
    refine s_reg rfl ?_
    refine Run.pure (dd := some 34) rfl rfl (op_lss rfl (Opd.tmp _ _ rfl) (Opd.tmp _ _ rfl)) ?_
    refine Run.nil (FinR.mk ?_)
    refine nK ?_
    refine n_cond _ rfl (fun hb => ?_) (fun hb => ?_)
    · have hlt : i < rs.length := by simp at hb; omega
      have hr1 := row_at' encA rs i hlt
      have hol := hro rs[i] (List.getElem_mem hlt)
      have hll := hrl rs[i] (List.getElem_mem hlt)
      have hpt := points_c rs[i] hol (by omega)
      have hkr : inr .u32 rs[i].h.rt := hol.1.2.2.2.1
      rw [nodes_step hlt] at hS1
      rw [tow_step hlt] at hS2
      have hK1 := fun (a : ∀ q ∈ mput nm rs[i].h.rt (i : Int), inr .i64 q.2) (b : ∀ q ∈ mput tm rs[i].h.rt (ptsM rs[i].ls), mOk q.2) => hK (i + 1, mput nm rs[i].h.rt (i : Int), mput tm rs[i].h.rt (ptsM rs[i].ls)) ⟨by dsimp only; omega, hm1.put hkr _, hm2.put hkr _, a, b, hS1, hS2⟩ (by dsimp only; omega)
      dsimp only at hK1
      have e5 : ((rs.take (i + 1)).map fun l => l.h.rt).map encU = ((rs.take i).map fun l => l.h.rt).map encU ++ [encU rs[i].h.rt] := by rw [List.take_succ_eq_append_getElem hlt, List.map_append, List.map_append]; rfl
      rw [e5] at hK1
      refine nK ?_
      refine s_reg rfl ?_
      refine Run.pure (dd := some 35) rfl rfl (op_move rfl (Opd.tmp _ _ rfl)) ?_
      refine Run.pure (dd := some 36) rfl rfl (op_idx_fz _ rfl (Opd.tmp _ _ rfl) (Opd.tmp _ _ rfl) tF) ?_
      refine Run.pure (dd := some 37) rfl rfl (op_loadw_fz rfl (Opd.tmp _ _ rfl) rfl) ?_
      refine Run.eff (dd := some 10) rfl rfl (op_alloc rfl rfl rfl rfl) ?_
      refine Run.pure (dd := some 9) rfl rfl (op_assign rfl (Opd.tmp _ _ rfl)) ?_
      refine Run.eff (dd := none) rfl rfl (op_store_flat rfl (Opd.tmp _ _ rfl) (Opd.tmp _ _ rfl) tC rfl rfl (by first | rfl | assumption) tS) ?_
      refine Run.nil (FinR.mk ?_)
      refine nK ?_
      refine s_reg rfl ?_
      refine Run.pure (dd := some 38) rfl rfl (op_fld_ptr (by decide) rfl (Opd.tmp _ _ rfl)) ?_
      refine Run.load (dd := some 39) rfl rfl (op_load1_refs rfl (Opd.tmp _ _ rfl) tH rfl) ?_
      refine Run.pure (dd := some 40) rfl rfl (op_fld_ptr (by decide) rfl (Opd.tmp _ _ rfl)) ?_
      refine Run.pure (dd := some 41) rfl rfl (op_fld_ptr (by decide) rfl (Opd.tmp _ _ rfl)) ?_
      refine Run.load (dd := some 42) rfl rfl (op_load1_flat rfl (Opd.tmp _ _ rfl) tH rfl) ?_
      refine Run.pure (dd := some 43) rfl rfl (op_buildSlice_fz rfl (RowsF.cons _ _ _ _ _ _ (Opd.tmp _ _ rfl) tC (by rfl) (RowsF.nil _)) rfl rfl) ?_
      refine Run.eff (dd := some 44) rfl rfl (op_append rfl (Opd.tmp _ _ rfl) (Opd.tmp _ _ rfl) rfl (by simp; omega) rfl rfl tB tB) ?_
      refine Run.pure (dd := some 45) rfl rfl (op_fld_ptr (by decide) rfl (Opd.tmp _ _ rfl)) ?_
      refine Run.eff (dd := none) rfl rfl (op_store_refs rfl (Opd.tmp _ _ rfl) (Opd.tmp _ _ rfl) tP rfl rfl rfl tS) ?_
      refine Run.nil (FinR.mk ?_)
      refine nK ?_
      refine s_draw mixed ?_
      refine Run.pure (dd := some 46) rfl rfl (op_move rfl (Opd.tmp _ _ rfl)) ?_
      refine Run.pure (dd := some 47) rfl rfl (op_nilck_ptr rfl (Opd.tmp _ _ rfl)) ?_
      refine Run.pure (dd := some 48) rfl rfl (op_fld_ptr (by decide) rfl (Opd.tmp _ _ rfl)) ?_
      refine Run.load (dd := some 49) rfl rfl (op_load1_refs rfl (Opd.tmp _ _ rfl) tH rfl) ?_
      refine Run.pure (dd := some 50) rfl rfl (op_fld_ptr (by decide) rfl (Opd.tmp _ _ rfl)) ?_
      refine Run.pure (dd := some 51) rfl rfl (op_fld_ptr (by decide) rfl (Opd.tmp _ _ rfl)) ?_
      refine Run.load (dd := some 52) rfl rfl (op_load1_flat rfl (Opd.tmp _ _ rfl) tH rfl) ?_
      refine Run.pure (dd := some 53) rfl rfl (op_move rfl (Opd.tmp _ _ rfl)) ?_
      refine Run.effW (dd := none) rfl rfl (op_mapPut (κ := Int) (ν := Int) (ek := ekU) (ev := evI) (l := nm) (k := rs[i].h.rt) (v := (i : Int)) (.inl rfl) (Opd.tmp _ _ rfl) (Opd.tmp _ _ rfl) (Opd.tmp _ _ rfl) rfl hm1.1 hm1.2 hkr) tE ?_
      refine Run.nil (FinD.mk (by kernel_rfl) ?_)
      refine nK ?_
      refine s_draw mixed ?_
      refine Run.pure (dd := some 54) rfl rfl (op_move rfl (Opd.tmp _ _ rfl)) ?_
      refine Run.pure (dd := some 55) rfl rfl (op_fld_ptr (by decide) rfl (Opd.tmp _ _ rfl)) ?_
      refine Run.pure (dd := some 56) rfl rfl (op_fld_ptr (by decide) rfl (Opd.tmp _ _ rfl)) ?_
      refine Run.load (dd := some 57) rfl rfl (op_load1_flat rfl (Opd.tmp _ _ rfl) tH rfl) ?_
      refine Run.load (dd := some 58) rfl rfl (op_loadw_flat rfl (Opd.tmp _ _ rfl) tH rfl) ?_
      refine Run.pure (dd := some 59) rfl rfl (op_call_pure (fun _ => hpt) rfl (Opd.func _) (Opds.cons _ _ _ _ (Opd.tmp _ _ rfl) Opds.nil)) ?_
      refine Run.effW (dd := none) rfl rfl (op_mapPut (κ := Int) (ν := List (Int × Bool)) (ek := ekU) (ev := FPts) (l := tm) (k := rs[i].h.rt) (v := ptsM rs[i].ls) (.inl rfl) (Opd.tmp _ _ rfl) (Opd.tmp _ _ rfl) (Opd.tmp _ _ rfl) rfl hm2.1 hm2.2 hkr) tE ?_
      refine Run.nil (FinD.mk (by kernel_rfl) ?_)
      refine nK ?_
      refine s_reg rfl ?_
      refine Run.pure (dd := some 60) rfl rfl (op_add rfl (Opd.tmp _ _ rfl) (Opd.const _) tI) ?_
      refine Run.pure (dd := some 33) rfl rfl (op_move rfl (Opd.tmp _ _ rfl)) ?_
      refine Run.nil (FinR.mk ?_)
      refine nK ?_
      refine Next.weak [0, 1, 2, 3, 4, 9, 6, 7] [] (by rfl) (keeps0 hC _) (by repeat (first | exact trivial | refine ⟨⟨_, rfl, .inl ⟨rfl, rfl⟩⟩, ?_⟩ | refine ⟨⟨_, rfl, .inl ⟨slEq rfl tN, rfl⟩⟩, ?_⟩ | refine ⟨⟨_, rfl, .inl ⟨ivEq tX, rfl⟩⟩, ?_⟩)) (by exact ⟨ent_same rfl rfl rfl tL, ⟨ent_same rfl rfl rfl tL, ⟨ent_same rfl rfl rfl tL, ⟨ent_same rfl rfl rfl tL, ⟨ent_same rfl rfl rfl tL, ⟨ent_same rfl rfl rfl tL, ⟨ent_same rfl rfl rfl tL, ⟨ent_same rfl rfl rfl tL, trivial⟩⟩⟩⟩⟩⟩⟩⟩) (fun _ h => by simp at h) (hK1 ?_ ?_)
      · intro q hq
        rcases mput_vals _ _ _ _ hq with e | e
        · rw [e]; simp only [inr]; omega
        · exact hm3 q e
      · intro q hq
        rcases mput_vals _ _ _ _ hq with e | e
        · rw [e]; exact pts_ok _ _ hol.2.1 mOk_nil
        · exact hm4 q e
    · have hie : i = rs.length := by simp at hb; omega
      subst hie
      rw [List.drop_length] at hS1 hS2
      have hS1' : nm = nodesGo 0 rs [] := hS1
      have hS2' : tm = towGo rs [] := hS2
      rw [List.take_length]
      unfold buildG edgesG
      rw [← hS1', ← hS2']
      clear hK hS1 hS2 hS1' hS2'
      refine nK ?_
      refine s_reg rfl ?_
      refine Run.pure (dd := some 61) rfl rfl (op_move rfl (Opd.tmp _ _ rfl)) ?_
      refine Run.pure (dd := some 62) rfl rfl (op_len_fz rfl (by first | exact Opd.tmp _ _ rfl | exact Opd.nil _ _ (Opd.tmp _ _ rfl)) (by first | exact List.length_map _ | rfl)) ?_
      refine Run.pure (dd := some 63) rfl rfl (op_move rfl (Opd.const _)) ?_
      refine Run.nil (FinR.mk ?_)
      refine nK ?_
      refine n_loop (ι := Nat) (fun j => ([(2, .ptr 0 5 0 0), (4, .fz (VA rs)), (5, .fz (VA ns)), (6, .ptr 1 5 0 0), (7, .ptr 3 2 0 0), (8, .mp 4), (61, .fz (VA ns)), (62, IV .i64 ns.length), (63, IV .i64 j)], [(0, OR zeroR), (1, some (.refs 5 [[IV .i64 0, IV .i64 0, .fz (.lit (.slice none 0 0)), .sl 5 1 0 rs.length, .sl 6 3 0 j]])), (2, OMap ekU evI nm), (3, some (.refs 2 [[.mp 2, .sl 7 3 0 0]])), (4, OMap ekU FPts tm), (5, some (.flat 1 ((rs.map fun l => l.h.rt).map encU))), (6, some (.flat 3 (((ns.take j).map netOf).map encV))), (7, some (.flat 3 []))], 8)) (fun j => j ≤ ns.length) (fun j => ns.length - j) 0 (Nat.zero_le _) ?_ ?_
      · refine Next.weak [0, 1, 2, 3, 4, 5, 6, 7] [] (by rfl) (keeps0 hC _) (by repeat (first | exact trivial | refine ⟨⟨_, rfl, .inl ⟨rfl, rfl⟩⟩, ?_⟩ | refine ⟨⟨_, rfl, .inl ⟨slEq rfl tN, rfl⟩⟩, ?_⟩ | refine ⟨⟨_, rfl, .inl ⟨ivEq tX, rfl⟩⟩, ?_⟩)) (by exact ⟨ent_same rfl rfl rfl tL, ⟨ent_same rfl rfl rfl tL, ⟨ent_same rfl rfl rfl tL, ⟨ent_same rfl rfl rfl tL, ⟨ent_same rfl rfl rfl tL, ⟨ent_same rfl rfl rfl tL, ⟨ent_same rfl rfl rfl tL, ⟨ent_same rfl rfl rfl tL, trivial⟩⟩⟩⟩⟩⟩⟩⟩) (fun _ h => by simp at h) (rel_intro)
      · intro j hj K hK
        refine nK ?_
        refine s_reg rfl ?_
        refine Run.pure (dd := some 64) rfl rfl (op_lss rfl (Opd.tmp _ _ rfl) (Opd.tmp _ _ rfl)) ?_
        refine Run.nil (FinR.mk ?_)
        refine nK ?_
        refine n_cond _ rfl (fun hb => ?_) (fun hb => ?_)
        · have hlt : j < ns.length := by simp at hb; omega
          have hr1 := row_at' encA ns j hlt
          have hK1 := hK (j + 1) (by omega) (by omega)
          dsimp only at hK1
          have e5 : ((ns.take (j + 1)).map netOf).map encV = ((ns.take j).map netOf).map encV ++ [encV (netOf ns[j])] := by rw [List.take_succ_eq_append_getElem hlt, List.map_append, List.map_append]; rfl
          rw [e5] at hK1
          refine nK ?_
          refine s_reg rfl ?_
          refine Run.pure (dd := some 65) rfl rfl (op_idx_fz _ rfl (Opd.tmp _ _ rfl) (Opd.tmp _ _ rfl) tF) ?_
          refine Run.pure (dd := some 66) rfl rfl (op_loadw_fz rfl (Opd.tmp _ _ rfl) rfl) ?_
          refine Run.eff (dd := some 12) rfl rfl (op_alloc rfl rfl rfl rfl) ?_
          refine Run.eff (dd := none) rfl rfl (op_store_flat rfl (Opd.tmp _ _ rfl) (Opd.tmp _ _ rfl) tC rfl rfl (by first | rfl | assumption) tS) ?_
          refine Run.nil (FinR.mk ?_)
          refine nK ?_
          refine s_reg rfl ?_
          refine Run.pure (dd := some 67) rfl rfl (op_fld_ptr (by decide) rfl (Opd.tmp _ _ rfl)) ?_
          refine Run.load (dd := some 68) rfl rfl (op_load1_refs rfl (Opd.tmp _ _ rfl) tH rfl) ?_
          refine Run.pure (dd := some 69) rfl rfl (op_fld_ptr (by decide) rfl (Opd.tmp _ _ rfl)) ?_
          refine Run.pure (dd := some 70) rfl rfl (op_fld_ptr (by decide) rfl (Opd.tmp _ _ rfl)) ?_
          refine Run.load (dd := some 71) rfl rfl (op_load1_flat rfl (Opd.tmp _ _ rfl) tH rfl) ?_
          refine Run.pure (dd := some 72) rfl rfl (op_fld_ptr (by decide) rfl (Opd.tmp _ _ rfl)) ?_
          refine Run.pure (dd := some 73) rfl rfl (op_fld_ptr (by decide) rfl (Opd.tmp _ _ rfl)) ?_
          refine Run.load (dd := some 74) rfl rfl (op_load1_flat rfl (Opd.tmp _ _ rfl) tH rfl) ?_
          refine Run.pure (dd := some 75) rfl rfl (op_fld_ptr (by decide) rfl (Opd.tmp _ _ rfl)) ?_
          refine Run.pure (dd := some 76) rfl rfl (op_fld_ptr (by decide) rfl (Opd.tmp _ _ rfl)) ?_
          refine Run.load (dd := some 77) rfl rfl (op_load1_flat rfl (Opd.tmp _ _ rfl) tH rfl) ?_
          refine Run.pure (dd := some 78) rfl rfl (op_build rfl rfl rfl (FillF.cons _ _ _ _ _ _ _ _ _ _ (by rfl) (Opd.tmp _ _ rfl) tC (by rfl) tR (FillF.cons _ _ _ _ _ _ _ _ _ _ (by rfl) (Opd.tmp _ _ rfl) tC (by rfl) tR (FillF.cons _ _ _ _ _ _ _ _ _ _ (by rfl) (Opd.tmp _ _ rfl) tC (by rfl) tR (FillF.nil _))))) ?_
          refine Run.pure (dd := some 79) rfl rfl (op_buildSlice_fz rfl (RowsF.cons _ _ _ _ _ _ (Opd.tmp _ _ rfl) tC (by rfl) (RowsF.nil _)) rfl rfl) ?_
          refine Run.eff (dd := some 80) rfl rfl (op_append rfl (Opd.tmp _ _ rfl) (Opd.tmp _ _ rfl) rfl (by simp; omega) rfl rfl tB tB) ?_
          refine Run.pure (dd := some 81) rfl rfl (op_fld_ptr (by decide) rfl (Opd.tmp _ _ rfl)) ?_
          refine Run.eff (dd := none) rfl rfl (op_store_refs rfl (Opd.tmp _ _ rfl) (Opd.tmp _ _ rfl) tP rfl rfl rfl tS) ?_
          refine Run.nil (FinR.mk ?_)
          refine nK ?_
          refine s_reg rfl ?_
          refine Run.pure (dd := some 82) rfl rfl (op_add rfl (Opd.tmp _ _ rfl) (Opd.const _) tI) ?_
          refine Run.pure (dd := some 63) rfl rfl (op_move rfl (Opd.tmp _ _ rfl)) ?_
          refine Run.nil (FinR.mk ?_)
          refine nK ?_
          refine Next.weak [0, 1, 2, 3, 4, 5, 9, 7] [] (by rfl) (keeps0 hC _) (by repeat (first | exact trivial | refine ⟨⟨_, rfl, .inl ⟨rfl, rfl⟩⟩, ?_⟩ | refine ⟨⟨_, rfl, .inl ⟨slEq rfl tN, rfl⟩⟩, ?_⟩ | refine ⟨⟨_, rfl, .inl ⟨ivEq tX, rfl⟩⟩, ?_⟩)) (by exact ⟨ent_same rfl rfl rfl tL, ⟨ent_same rfl rfl rfl tL, ⟨ent_same rfl rfl rfl tL, ⟨ent_same rfl rfl rfl tL, ⟨ent_same rfl rfl rfl tL, ⟨ent_same rfl rfl rfl tL, ⟨ent_same rfl rfl rfl tL, ⟨ent_same rfl rfl rfl tL, trivial⟩⟩⟩⟩⟩⟩⟩⟩) (fun _ h => by simp at h) hK1
        · have hie : j = ns.length := by simp at hb; omega
          subst hie
          rw [List.take_length]
          clear hK
          have hEl : (rowE nm tm rs.length ns 0 rs).length ≤ rs.length * 51200 := rowE_len hN rs 0 (fun x hx => (hrl x hx).1)
          have hEl2 : rs.length * 51200 ≤ 400 * 51200 := Nat.mul_le_mul_right _ hR
          generalize hE : rowE nm tm rs.length ns 0 rs = E at *
          refine nK ?_
          refine s_reg rfl ?_
          refine Run.pure (dd := some 83) rfl rfl (op_move rfl (Opd.tmp _ _ rfl)) ?_
          refine Run.pure (dd := some 84) rfl rfl (op_len_fz rfl (by first | exact Opd.tmp _ _ rfl | exact Opd.nil _ _ (Opd.tmp _ _ rfl)) (by first | exact List.length_map _ | rfl)) ?_
          refine Run.pure (dd := some 85) rfl rfl (op_move rfl (Opd.const _)) ?_
          refine Run.nil (FinR.mk ?_)
          refine nK ?_
          refine n_loop (ι := Nat × List Edg) (fun p => ([(2, .ptr 0 5 0 0), (4, .fz (VA rs)), (5, .fz (VA ns)), (6, .ptr 1 5 0 0), (7, .ptr 3 2 0 0), (8, .mp 4), (83, .fz (VA rs)), (84, IV .i64 rs.length), (85, IV .i64 p.1)], [(0, OR zeroR), (1, some (.refs 5 [[IV .i64 0, IV .i64 0, .fz (.lit (.slice none 0 0)), .sl 5 1 0 rs.length, .sl 6 3 0 ns.length]])), (2, OMap ekU evI nm), (3, some (.refs 2 [[.mp 2, .sl 7 3 0 p.2.length]])), (4, OMap ekU FPts tm), (5, some (.flat 1 ((rs.map fun l => l.h.rt).map encU))), (6, some (.flat 3 ((ns.map netOf).map encV))), (7, OE p.2)], 8)) (fun p => p.1 ≤ rs.length ∧ p.2 ++ rowE nm tm rs.length ns p.1 (rs.drop p.1) = E) (fun p => rs.length - p.1) (0, []) ⟨Nat.zero_le _, hE⟩ ?_ ?_
          · refine Next.weak [0, 1, 2, 3, 4, 5, 6, 7] [] (by rfl) (keeps0 hC _) (by repeat (first | exact trivial | refine ⟨⟨_, rfl, .inl ⟨rfl, rfl⟩⟩, ?_⟩ | refine ⟨⟨_, rfl, .inl ⟨slEq rfl tN, rfl⟩⟩, ?_⟩ | refine ⟨⟨_, rfl, .inl ⟨ivEq tX, rfl⟩⟩, ?_⟩)) (by exact ⟨ent_same rfl rfl rfl tL, ⟨ent_same rfl rfl rfl tL, ⟨ent_same rfl rfl rfl tL, ⟨ent_same rfl rfl rfl tL, ⟨ent_same rfl rfl rfl tL, ⟨ent_same rfl rfl rfl tL, ⟨ent_same rfl rfl rfl tL, ⟨ent_same rfl rfl rfl tL, trivial⟩⟩⟩⟩⟩⟩⟩⟩) (fun _ h => by simp at h) (rel_intro)
          · intro ⟨i, es⟩ ⟨hi, hS⟩ K hK
            dsimp only at hi hS ⊢
            refine nK ?_
            refine s_reg rfl ?_
            refine Run.pure (dd := some 86) rfl rfl (op_lss rfl (Opd.tmp _ _ rfl) (Opd.tmp _ _ rfl)) ?_
            refine Run.nil (FinR.mk ?_)
            refine nK ?_
            refine n_cond _ rfl (fun hb => ?_) (fun hb => ?_)
            · have hlt : i < rs.length := by simp at hb; omega
              have hr1 := row_at' encA rs i hlt
              have hll := hrl rs[i] (List.getElem_mem hlt)
              have hol := hro rs[i] (List.getElem_mem hlt)
              rw [row_step hlt, ← List.append_assoc] at hS
              have hK1 := fun es' h => hK (i + 1, es') ⟨by dsimp only; omega, h⟩ (by dsimp only; omega)
              dsimp only at hK1
              generalize rs[i] = l at *
              have hkr : inr .u32 l.h.rt := hol.1.2.2.2.1
              generalize hM : es ++ l.ls.flatMap (lnkE nm tm rs.length ns i l.h.rt) = M at *
              have hMl : M.length ≤ 40000000 - 10 := by have := congrArg List.length hS; simp at this; omega
              refine nK ?_
              refine s_reg rfl ?_
              refine Run.pure (dd := some 87) rfl rfl (op_move rfl (Opd.tmp _ _ rfl)) ?_
              refine Run.pure (dd := some 88) rfl rfl (op_idx_fz _ rfl (Opd.tmp _ _ rfl) (Opd.tmp _ _ rfl) tF) ?_
              refine Run.pure (dd := some 89) rfl rfl (op_loadw_fz rfl (Opd.tmp _ _ rfl) rfl) ?_
              refine Run.eff (dd := some 14) rfl rfl (op_alloc rfl rfl rfl rfl) ?_
              refine Run.pure (dd := some 13) rfl rfl (op_assign rfl (Opd.tmp _ _ rfl)) ?_
              refine Run.eff (dd := none) rfl rfl (op_store_flat rfl (Opd.tmp _ _ rfl) (Opd.tmp _ _ rfl) tC rfl rfl (by first | rfl | assumption) tS) ?_
              refine Run.nil (FinR.mk ?_)
              refine nK ?_
              refine s_reg rfl ?_
              refine Run.pure (dd := some 90) rfl rfl (op_fld_ptr (by decide) rfl (Opd.tmp _ _ rfl)) ?_
              refine Run.load (dd := some 91) rfl rfl (op_load1_flat rfl (Opd.tmp _ _ rfl) tH rfl) ?_
              refine Run.pure (dd := some 92) rfl rfl (op_len_fz rfl (by first | exact Opd.tmp _ _ rfl | exact Opd.nil _ _ (Opd.tmp _ _ rfl)) (by first | exact List.length_map _ | rfl)) ?_
              refine Run.pure (dd := some 93) rfl rfl (op_move rfl (Opd.const _)) ?_
              refine Run.nil (FinR.mk ?_)
              refine nK ?_
              refine n_loop (ι := Nat × List Edg) (fun p => ([(2, .ptr 0 5 0 0), (4, .fz (VA rs)), (5, .fz (VA ns)), (6, .ptr 1 5 0 0), (7, .ptr 3 2 0 0), (8, .mp 4), (83, .fz (VA rs)), (84, IV .i64 rs.length), (85, IV .i64 i), (13, IV .i64 i), (14, .ptr 8 15 0 0), (91, .fz (VL l.ls)), (92, IV .i64 l.ls.length), (93, IV .i64 p.1)], [(0, OR zeroR), (1, some (.refs 5 [[IV .i64 0, IV .i64 0, .fz (.lit (.slice none 0 0)), .sl 5 1 0 rs.length, .sl 6 3 0 ns.length]])), (2, OMap ekU evI nm), (3, some (.refs 2 [[.mp 2, .sl 7 3 0 p.2.length]])), (4, OMap ekU FPts tm), (5, some (.flat 1 ((rs.map fun l => l.h.rt).map encU))), (6, some (.flat 3 ((ns.map netOf).map encV))), (7, OE p.2), (8, OA l)], 9)) (fun p => p.1 ≤ l.ls.length ∧ p.2 ++ (l.ls.drop p.1).flatMap (lnkE nm tm rs.length ns i l.h.rt) = M) (fun p => l.ls.length - p.1) (0, es) ⟨Nat.zero_le _, hM⟩ ?_ ?_
              · refine Next.weak [0, 1, 2, 3, 4, 5, 6, 7, 8] [] (by rfl) (keeps0 hC _) (by repeat (first | exact trivial | refine ⟨⟨_, rfl, .inl ⟨rfl, rfl⟩⟩, ?_⟩ | refine ⟨⟨_, rfl, .inl ⟨slEq rfl tN, rfl⟩⟩, ?_⟩ | refine ⟨⟨_, rfl, .inl ⟨ivEq tX, rfl⟩⟩, ?_⟩)) (by exact ⟨ent_same rfl rfl rfl tL, ⟨ent_same rfl rfl rfl tL, ⟨ent_same rfl rfl rfl tL, ⟨ent_same rfl rfl rfl tL, ⟨ent_same rfl rfl rfl tL, ⟨ent_same rfl rfl rfl tL, ⟨ent_same rfl rfl rfl tL, ⟨ent_same rfl rfl rfl tL, ⟨ent_same rfl rfl rfl tL, trivial⟩⟩⟩⟩⟩⟩⟩⟩⟩) (fun _ h => by simp at h) (rel_intro)
              · intro ⟨j, ec⟩ ⟨hj, hT⟩ K2 hK2
                dsimp only at hj hT ⊢
                refine nK ?_
                refine s_reg rfl ?_
                refine Run.pure (dd := some 94) rfl rfl (op_lss rfl (Opd.tmp _ _ rfl) (Opd.tmp _ _ rfl)) ?_
                refine Run.nil (FinR.mk ?_)
                refine nK ?_
                refine n_cond _ rfl (fun hb => ?_) (fun hb => ?_)
                · have hlt2 : j < l.ls.length := by simp at hb; omega
                  have hr2 := row_at' encL l.ls j hlt2
                  have hox := hol.2.1 l.ls[j] (List.getElem_mem hlt2)
                  rw [flatMap_step _ hlt2, ← List.append_assoc] at hT
                  have hK3 := fun es' h => hK2 (j + 1, es') ⟨by dsimp only; omega, h⟩ (by dsimp only; omega)
                  dsimp only at hK3
                  generalize l.ls[j] = x at *
                  have hkx : inr .u32 x.id := hox.2.1
                  have hpm : mOk ((mget tm x.id).getD []) := by
                    cases hg : mget tm x.id with
                    | none => exact mOk_nil
                    | some v => exact hm4 _ (mget_mem hg)
                  have hTl : (ec ++ lnkE nm tm rs.length ns i l.h.rt x).length ≤ 40000000 - 10 := by have := congrArg List.length hT; simp at this ⊢; omega
                  have hLE : lnkE nm tm rs.length ns i l.h.rt x = lnkE nm tm rs.length ns i l.h.rt x := rfl
                  conv at hLE => rhs; unfold lnkE
                  refine nK ?_
                  refine s_reg rfl ?_
                  refine Run.pure (dd := some 95) rfl rfl (op_idx_fz _ rfl (Opd.tmp _ _ rfl) (Opd.tmp _ _ rfl) tF) ?_
                  refine Run.pure (dd := some 96) rfl rfl (op_loadw_fz rfl (Opd.tmp _ _ rfl) rfl) ?_
                  refine Run.eff (dd := some 16) rfl rfl (op_alloc rfl rfl rfl rfl) ?_
                  refine Run.eff (dd := none) rfl rfl (op_store_flat rfl (Opd.tmp _ _ rfl) (Opd.tmp _ _ rfl) tC rfl rfl (by first | rfl | assumption) tS) ?_
                  refine Run.nil (FinR.mk ?_)
                  refine nK ?_
                  refine s_draw mixed ?_
                  refine Run.pure (dd := some 98) rfl rfl (op_move rfl (Opd.tmp _ _ rfl)) ?_
                  refine Run.pure (dd := some 99) rfl rfl (op_nilck_ptr rfl (Opd.tmp _ _ rfl)) ?_
                  refine Run.pure (dd := some 100) rfl rfl (op_fld_ptr (by decide) rfl (Opd.tmp _ _ rfl)) ?_
                  refine Run.load (dd := some 101) rfl rfl (op_load1_refs rfl (Opd.tmp _ _ rfl) tH rfl) ?_
                  refine Run.pure (dd := some 102) rfl rfl (op_fld_ptr (by decide) rfl (Opd.tmp _ _ rfl)) ?_
                  refine Run.load (dd := some 103) rfl rfl (op_load1_flat rfl (Opd.tmp _ _ rfl) tH rfl) ?_
                  refine Run.load (dd := some 104) rfl rfl (op_lookup2 (κ := Int) (ν := Int) (ek := ekU) (ev := evI) (l := nm) (k := x.id) 0 rfl (Opd.tmp _ _ rfl) (Opd.tmp _ _ rfl) rfl (by intro _; exact ⟨hm1.1, hm1.2, hkx⟩) (fun w S => .lit _)) ?_
                  refine Run.pure (dd := some 97) rfl rfl (op_move rfl (Opd.tmp _ _ rfl)) ?_
                  refine Run.pure (dd := some 105) rfl rfl (op_extract_fz rfl (Opd.tmp _ _ rfl) rfl) ?_
                  refine Run.pure (dd := some 106) rfl rfl (op_extract_fz rfl (Opd.tmp _ _ rfl) rfl) ?_
                  refine Run.pure (dd := some 17) rfl rfl (op_assign rfl (Opd.tmp _ _ rfl)) ?_
                  refine Run.pure (dd := some 18) rfl rfl (op_assign rfl (Opd.tmp _ _ rfl)) ?_
                  refine Run.nil (FinD.mk (by kernel_rfl) ?_)
                  refine nK ?_
                  refine s_reg rfl ?_
                  refine Run.pure (dd := some 108) rfl rfl (op_fld_ptr (by decide) rfl (Opd.tmp _ _ rfl)) ?_
                  refine Run.load (dd := some 109) rfl rfl (op_load1_flat rfl (Opd.tmp _ _ rfl) tH rfl) ?_
                  refine Run.pure (dd := some 110) rfl rfl (op_eql rfl (Opd.tmp _ _ rfl) (Opd.const _)) ?_
                  refine Run.pure (dd := some 111) rfl rfl (op_move rfl (Opd.tmp _ _ rfl)) ?_
                  refine Run.pureG (dd := some 112) rfl rfl rfl tG (op_move rfl (Opd.tmp _ _ rfl)) ?_
                  refine Run.pure (dd := some 113) rfl rfl (op_pick_and rfl (Opd.tmp _ _ rfl) (Opd.topt _ _ _ rfl tO)) ?_
                  refine Run.pure (dd := some 114) rfl rfl (op_move rfl (Opd.tmp _ _ rfl)) ?_
                  refine Run.pureG (dd := some 115) rfl rfl rfl tG (op_move rfl (Opd.tmp _ _ rfl)) ?_
                  refine Run.pureG (dd := some 116) rfl rfl rfl tG (op_fld_ptr (by decide) rfl (Opd.tmp _ _ rfl)) ?_
                  refine Run.loadG (dd := some 117) rfl rfl rfl tG (op_load1_flat rfl (Opd.topt _ _ _ rfl tO) tH rfl) ?_
                  refine Run.loadG (dd := some 118) rfl rfl rfl tG (op_lookup (κ := Int) (ν := List (Int × Bool)) (ek := ekU) (ev := FPts) (l := tm) (k := x.id) [] rfl (Opd.topt _ _ _ rfl tO) (Opd.topt _ _ _ rfl tO) rfl (by intro _; exact ⟨hm2.1, hm2.2, hkx⟩) (fun w S => .mapn)) ?_
                  refine Run.pureG (dd := some 119) rfl rfl rfl tG (op_fld_ptr (by decide) rfl (Opd.tmp _ _ rfl)) ?_
                  refine Run.pureG (dd := some 120) rfl rfl rfl tG (op_fld_ptr (by decide) rfl (Opd.topt _ _ _ rfl tO)) ?_
                  refine Run.loadG (dd := some 121) rfl rfl rfl tG (op_load1_flat rfl (Opd.topt _ _ _ rfl tO) tH rfl) ?_
                  refine Run.pureG (dd := some 122) rfl rfl rfl tG (op_lookupF (κ := Int) (ν := Bool) (ek := ekU) (ev := Bf) (l := (mget tm x.id).getD []) (k := l.h.rt) false rfl (Opd.topt _ _ _ rfl tO) (Opd.topt _ _ _ rfl tO) (by intro _; exact ⟨hpm.1, hpm.2, hkr⟩) (fun w S => .lit _)) ?_
                  refine Run.pure (dd := some 123) rfl rfl (op_pick_and rfl (Opd.tmp _ _ rfl) (Opd.topt _ _ _ rfl tO)) ?_
                  refine Run.pure (dd := some 107) rfl rfl (op_assign rfl (Opd.tmp _ _ rfl)) ?_
                  refine Run.nil (FinR.mk ?_)
                  refine nK ?_
                  refine n_cond _ rfl (fun hb => ?_) (fun hb => ?_)
                  · rw [ifT hb] at hLE
                    rw [hLE] at hT hTl
                    have hK4 := hK3 _ hT
                    have hel : (ec ++ ([⟨(i : Int), (mget nm x.id).getD 0, x.c⟩] : List Edg)).length = ec.length + 1 := by simp
                    rw [hel] at hK4
                    refine nK ?_
                    refine s_reg rfl ?_
                    refine Run.pure (dd := some 124) rfl rfl (op_move rfl (Opd.tmp _ _ rfl)) ?_
                    refine Run.pure (dd := some 125) rfl rfl (op_move rfl (Opd.tmp _ _ rfl)) ?_
                    refine Run.pure (dd := some 126) rfl rfl (op_move rfl (Opd.tmp _ _ rfl)) ?_
                    refine Run.pure (dd := some 127) rfl rfl (op_fld_ptr (by decide) rfl (Opd.tmp _ _ rfl)) ?_
                    refine Run.load (dd := some 128) rfl rfl (op_load1_flat rfl (Opd.tmp _ _ rfl) tH rfl) ?_
                    refine Run.pure (dd := some 129) rfl rfl (op_build rfl rfl rfl (FillF.cons _ _ _ _ _ _ _ _ _ _ (by rfl) (Opd.tmp _ _ rfl) tC (by rfl) tR (FillF.cons _ _ _ _ _ _ _ _ _ _ (by rfl) (Opd.tmp _ _ rfl) tC (by rfl) tR (FillF.cons _ _ _ _ _ _ _ _ _ _ (by rfl) (Opd.tmp _ _ rfl) tC (by rfl) tR (FillF.nil _))))) ?_
                    refine Run.pure (dd := some 130) rfl rfl (op_buildSlice_fz rfl (RowsF.cons _ _ _ _ _ _ (Opd.tmp _ _ rfl) tC (by rfl) (RowsF.nil _)) rfl rfl) ?_
                    refine Run.eff (dd := some 131) rfl rfl (op_call (n := 3) (n' := 4) [3, 2, 7] (fun _ => add_c nm ec ([⟨(i : Int), (mget nm x.id).getD 0, x.c⟩] : List Edg) (by simp; simp at hTl; omega)) rfl (Opd.func _) (Opds.cons _ _ _ _ (Opd.tmp _ _ rfl) (Opds.cons _ _ _ _ (Opd.tmp _ _ rfl) Opds.nil)) rfl rfl (Lent.of rfl rfl (by repeat (first | exact trivial | refine ⟨⟨rfl, rfl, rfl, tL⟩, ?_⟩)) rfl) rfl rfl rfl rfl rfl) ?_
                    refine Run.nil (FinR.mk ?_)
                    refine nK ?_
                    refine s_reg rfl ?_
                    refine Run.pure (dd := some 173) rfl rfl (op_add rfl (Opd.tmp _ _ rfl) (Opd.const _) tI) ?_
                    refine Run.pure (dd := some 93) rfl rfl (op_move rfl (Opd.tmp _ _ rfl)) ?_
                    refine Run.nil (FinR.mk ?_)
                    refine nK ?_
                    refine Next.weak [0, 1, 2, 3, 4, 5, 6, 10, 8] [] (by rfl) (keeps0 hC _) (by repeat (first | exact trivial | refine ⟨⟨_, rfl, .inl ⟨rfl, rfl⟩⟩, ?_⟩ | refine ⟨⟨_, rfl, .inl ⟨slEq rfl tN, rfl⟩⟩, ?_⟩ | refine ⟨⟨_, rfl, .inl ⟨ivEq tX, rfl⟩⟩, ?_⟩)) (by exact ⟨ent_same rfl rfl rfl tL, ⟨ent_same rfl rfl rfl tL, ⟨ent_same rfl rfl rfl tL, ⟨ent_same rfl rfl rfl tL, ⟨ent_same rfl rfl rfl tL, ⟨ent_same rfl rfl rfl tL, ⟨ent_same rfl rfl rfl tL, ⟨ent_same rfl rfl rfl tL, ⟨ent_same rfl rfl rfl tL, trivial⟩⟩⟩⟩⟩⟩⟩⟩⟩) (fun _ h => by simp at h) (hK4)
                  · rw [ifF hb] at hLE
                    refine nK ?_
                    refine s_reg rfl ?_
                    refine Run.pure (dd := some 133) rfl rfl (op_fld_ptr (by decide) rfl (Opd.tmp _ _ rfl)) ?_
                    refine Run.load (dd := some 134) rfl rfl (op_load1_flat rfl (Opd.tmp _ _ rfl) tH rfl) ?_
                    refine Run.pure (dd := some 135) rfl rfl (op_eql rfl (Opd.tmp _ _ rfl) (Opd.const _)) ?_
                    refine Run.pure (dd := some 132) rfl rfl (op_assign rfl (Opd.tmp _ _ rfl)) ?_
                    refine Run.nil (FinR.mk ?_)
                    refine nK ?_
                    refine n_cond _ rfl (fun hb => ?_) (fun hb => ?_)
                    · rw [ifT hb] at hLE
                      rw [hLE] at hT hTl
                      generalize hM2 : ec ++ netE rs.length i l.h.rt x 0 ns = M2 at *
                      refine nK ?_
                      refine s_reg rfl ?_
                      refine Run.pure (dd := some 136) rfl rfl (op_move rfl (Opd.tmp _ _ rfl)) ?_
                      refine Run.pure (dd := some 137) rfl rfl (op_len_fz rfl (by first | exact Opd.tmp _ _ rfl | exact Opd.nil _ _ (Opd.tmp _ _ rfl)) (by first | exact List.length_map _ | rfl)) ?_
                      refine Run.pure (dd := some 138) rfl rfl (op_move rfl (Opd.const _)) ?_
                      refine Run.nil (FinR.mk ?_)
                      refine nK ?_
                      refine n_loop (ι := Nat × List Edg) (fun p => ([(2, .ptr 0 5 0 0), (4, .fz (VA rs)), (5, .fz (VA ns)), (6, .ptr 1 5 0 0), (7, .ptr 3 2 0 0), (8, .mp 4), (83, .fz (VA rs)), (84, IV .i64 rs.length), (85, IV .i64 i), (13, IV .i64 i), (14, .ptr 8 15 0 0), (91, .fz (VL l.ls)), (92, IV .i64 l.ls.length), (93, IV .i64 j), (16, .ptr 9 4 0 0), (136, .fz (VA ns)), (137, IV .i64 ns.length), (138, IV .i64 p.1)], [(0, OR zeroR), (1, some (.refs 5 [[IV .i64 0, IV .i64 0, .fz (.lit (.slice none 0 0)), .sl 5 1 0 rs.length, .sl 6 3 0 ns.length]])), (2, OMap ekU evI nm), (3, some (.refs 2 [[.mp 2, .sl 7 3 0 p.2.length]])), (4, OMap ekU FPts tm), (5, some (.flat 1 ((rs.map fun l => l.h.rt).map encU))), (6, some (.flat 3 ((ns.map netOf).map encV))), (7, OE p.2), (8, OA l), (9, some (.flat 4 [encL x]))], 10)) (fun p => p.1 ≤ ns.length ∧ p.2 ++ netE rs.length i l.h.rt x p.1 (ns.drop p.1) = M2) (fun p => ns.length - p.1) (0, ec) ⟨Nat.zero_le _, hM2⟩ ?_ ?_
                      · refine Next.weak [0, 1, 2, 3, 4, 5, 6, 7, 8, 9] [] (by rfl) (keeps0 hC _) (by repeat (first | exact trivial | refine ⟨⟨_, rfl, .inl ⟨rfl, rfl⟩⟩, ?_⟩ | refine ⟨⟨_, rfl, .inl ⟨slEq rfl tN, rfl⟩⟩, ?_⟩ | refine ⟨⟨_, rfl, .inl ⟨ivEq tX, rfl⟩⟩, ?_⟩)) (by exact ⟨ent_same rfl rfl rfl tL, ⟨ent_same rfl rfl rfl tL, ⟨ent_same rfl rfl rfl tL, ⟨ent_same rfl rfl rfl tL, ⟨ent_same rfl rfl rfl tL, ⟨ent_same rfl rfl rfl tL, ⟨ent_same rfl rfl rfl tL, ⟨ent_same rfl rfl rfl tL, ⟨ent_same rfl rfl rfl tL, ⟨ent_same rfl rfl rfl tL, trivial⟩⟩⟩⟩⟩⟩⟩⟩⟩⟩) (fun _ h => by simp at h) (rel_intro)
                      · intro ⟨k, ed⟩ ⟨hk, hU⟩ K3 hK5
                        dsimp only at hk hU ⊢
                        refine nK ?_
                        refine s_reg rfl ?_
                        refine Run.pure (dd := some 139) rfl rfl (op_lss rfl (Opd.tmp _ _ rfl) (Opd.tmp _ _ rfl)) ?_
                        refine Run.nil (FinR.mk ?_)
                        refine nK ?_
                        refine n_cond _ rfl (fun hb => ?_) (fun hb => ?_)
                        · have hlt3 : k < ns.length := by simp at hb; omega
                          have hr3 := row_at' encA ns k hlt3
                          have hnk := hnl ns[k] (List.getElem_mem hlt3)
                          rw [net_step hlt3, ← List.append_assoc] at hU
                          have hK6 := fun es' h => hK5 (k + 1, es') ⟨by dsimp only; omega, h⟩ (by dsimp only; omega)
                          dsimp only at hK6
                          generalize ns[k] = nd at *
                          have hna : lenOk nd.att.length := by unfold lenOk; omega
                          refine nK ?_
                          refine s_reg rfl ?_
                          refine Run.pure (dd := some 140) rfl rfl (op_move rfl (Opd.tmp _ _ rfl)) ?_
                          refine Run.pure (dd := some 141) rfl rfl (op_idx_fz _ rfl (Opd.tmp _ _ rfl) (Opd.tmp _ _ rfl) tF) ?_
                          refine Run.pure (dd := some 142) rfl rfl (op_loadw_fz rfl (Opd.tmp _ _ rfl) rfl) ?_
                          refine Run.eff (dd := some 20) rfl rfl (op_alloc rfl rfl rfl rfl) ?_
                          refine Run.pure (dd := some 19) rfl rfl (op_assign rfl (Opd.tmp _ _ rfl)) ?_
                          refine Run.eff (dd := none) rfl rfl (op_store_flat rfl (Opd.tmp _ _ rfl) (Opd.tmp _ _ rfl) tC rfl rfl (by first | rfl | assumption) tS) ?_
                          refine Run.nil (FinR.mk ?_)
                          refine nK ?_
                          refine s_reg rfl ?_
                          refine Run.pure (dd := some 143) rfl rfl (op_move rfl (Opd.tmp _ _ rfl)) ?_
                          refine Run.pure (dd := some 144) rfl rfl (op_len_fz rfl (by first | exact Opd.tmp _ _ rfl | exact Opd.nil _ _ (Opd.tmp _ _ rfl)) (by first | exact List.length_map _ | rfl)) ?_
                          refine Run.pure (dd := some 145) rfl rfl (op_move rfl (Opd.tmp _ _ rfl)) ?_
                          refine Run.pure (dd := some 146) rfl rfl (op_add rfl (Opd.tmp _ _ rfl) (Opd.tmp _ _ rfl) tI) ?_
                          refine Run.pure (dd := some 21) rfl rfl (op_assign rfl (Opd.tmp _ _ rfl)) ?_
                          refine Run.nil (FinR.mk ?_)
                          refine nK ?_
                          refine s_reg rfl ?_
                          refine Run.pure (dd := some 147) rfl rfl (op_fld_ptr (by decide) rfl (Opd.tmp _ _ rfl)) ?_
                          refine Run.pure (dd := some 148) rfl rfl (op_fld_ptr (by decide) rfl (Opd.tmp _ _ rfl)) ?_
                          refine Run.load (dd := some 149) rfl rfl (op_load1_flat rfl (Opd.tmp _ _ rfl) tH rfl) ?_
                          refine Run.pure (dd := some 150) rfl rfl (op_fld_ptr (by decide) rfl (Opd.tmp _ _ rfl)) ?_
                          refine Run.load (dd := some 151) rfl rfl (op_load1_flat rfl (Opd.tmp _ _ rfl) tH rfl) ?_
                          refine Run.pure (dd := some 152) rfl rfl (op_eql rfl (Opd.tmp _ _ rfl) (Opd.tmp _ _ rfl)) ?_
                          refine Run.pure (dd := some 153) rfl rfl (op_move rfl (Opd.tmp _ _ rfl)) ?_
                          refine Run.pureG (dd := some 154) rfl rfl rfl tG (op_fld_ptr (by decide) rfl (Opd.tmp _ _ rfl)) ?_
                          refine Run.loadG (dd := some 155) rfl rfl rfl tG (op_load1_flat rfl (Opd.topt _ _ _ rfl tO) tH rfl) ?_
                          refine Run.pureG (dd := some 156) rfl rfl rfl tG (op_fld_ptr (by decide) rfl (Opd.tmp _ _ rfl)) ?_
                          refine Run.pureG (dd := some 157) rfl rfl rfl tG (op_fld_ptr (by decide) rfl (Opd.topt _ _ _ rfl tO)) ?_
                          refine Run.loadG (dd := some 158) rfl rfl rfl tG (op_load1_flat rfl (Opd.topt _ _ _ rfl tO) tH rfl) ?_
                          refine Run.pureG (dd := some 159) rfl rfl rfl tG (op_call_pure (fun _ => scont_c _ _ (by assumption)) rfl (Opd.func _) (Opds.cons _ _ _ _ (Opd.topt _ _ _ rfl tO) (Opds.cons _ _ _ _ (Opd.topt _ _ _ rfl tO) Opds.nil))) ?_
                          refine Run.pure (dd := some 160) rfl rfl (op_pick_and rfl (Opd.tmp _ _ rfl) (Opd.topt _ _ _ rfl tO)) ?_
                          refine Run.nil (FinR.mk ?_)
                          refine nK ?_
                          refine n_cond _ rfl (fun hb => ?_) (fun hb => ?_)
                          · rw [ifT hb] at hU
                            have hTl : (ed ++ ([⟨(i : Int), (rs.length : Int) + k, x.c⟩, ⟨(rs.length : Int) + k, (i : Int), 0⟩] : List Edg)).length ≤ 40000000 - 10 := by have := congrArg List.length hU; simp at this ⊢; omega
                            have hK7 := hK6 _ hU
                            have hel : (ed ++ ([⟨(i : Int), (rs.length : Int) + k, x.c⟩, ⟨(rs.length : Int) + k, (i : Int), 0⟩] : List Edg)).length = ed.length + 2 := by simp
                            rw [hel] at hK7
                            refine nK ?_
                            refine s_reg rfl ?_
                            refine Run.pure (dd := some 161) rfl rfl (op_move rfl (Opd.tmp _ _ rfl)) ?_
                            refine Run.pure (dd := some 162) rfl rfl (op_move rfl (Opd.tmp _ _ rfl)) ?_
                            refine Run.pure (dd := some 163) rfl rfl (op_move rfl (Opd.tmp _ _ rfl)) ?_
                            refine Run.pure (dd := some 164) rfl rfl (op_fld_ptr (by decide) rfl (Opd.tmp _ _ rfl)) ?_
                            refine Run.load (dd := some 165) rfl rfl (op_load1_flat rfl (Opd.tmp _ _ rfl) tH rfl) ?_
                            refine Run.pure (dd := some 166) rfl rfl (op_build rfl rfl rfl (FillF.cons _ _ _ _ _ _ _ _ _ _ (by rfl) (Opd.tmp _ _ rfl) tC (by rfl) tR (FillF.cons _ _ _ _ _ _ _ _ _ _ (by rfl) (Opd.tmp _ _ rfl) tC (by rfl) tR (FillF.cons _ _ _ _ _ _ _ _ _ _ (by rfl) (Opd.tmp _ _ rfl) tC (by rfl) tR (FillF.nil _))))) ?_
                            refine Run.pure (dd := some 167) rfl rfl (op_move rfl (Opd.tmp _ _ rfl)) ?_
                            refine Run.pure (dd := some 168) rfl rfl (op_move rfl (Opd.tmp _ _ rfl)) ?_
                            refine Run.pure (dd := some 169) rfl rfl (op_build rfl rfl rfl (FillF.cons _ _ _ _ _ _ _ _ _ _ (by rfl) (Opd.tmp _ _ rfl) tC (by rfl) tR (FillF.cons _ _ _ _ _ _ _ _ _ _ (by rfl) (Opd.tmp _ _ rfl) tC (by rfl) tR (FillF.nil _)))) ?_
                            refine Run.pure (dd := some 170) rfl rfl (op_buildSlice_fz rfl (RowsF.cons _ _ _ _ _ _ (Opd.tmp _ _ rfl) tC (by rfl) (RowsF.cons _ _ _ _ _ _ (Opd.tmp _ _ rfl) tC (by rfl) (RowsF.nil _))) rfl rfl) ?_
                            refine Run.eff (dd := some 171) rfl rfl (op_call (n := 3) (n' := 4) [3, 2, 7] (fun _ => add_c nm ed ([⟨(i : Int), (rs.length : Int) + k, x.c⟩, ⟨(rs.length : Int) + k, (i : Int), 0⟩] : List Edg) (by simp; simp at hTl; omega)) rfl (Opd.func _) (Opds.cons _ _ _ _ (Opd.tmp _ _ rfl) (Opds.cons _ _ _ _ (Opd.tmp _ _ rfl) Opds.nil)) rfl rfl (Lent.of rfl rfl (by repeat (first | exact trivial | refine ⟨⟨rfl, rfl, rfl, tL⟩, ?_⟩)) rfl) rfl rfl rfl rfl rfl) ?_
                            refine Run.nil (FinR.mk ?_)
                            refine nK ?_
                            refine s_reg rfl ?_
                            refine Run.pure (dd := some 172) rfl rfl (op_add rfl (Opd.tmp _ _ rfl) (Opd.const _) tI) ?_
                            refine Run.pure (dd := some 138) rfl rfl (op_move rfl (Opd.tmp _ _ rfl)) ?_
                            refine Run.nil (FinR.mk ?_)
                            refine nK ?_
                            refine Next.weak [0, 1, 2, 3, 4, 5, 6, 11, 8, 9] [] (by rfl) (keeps0 hC _) (by repeat (first | exact trivial | refine ⟨⟨_, rfl, .inl ⟨rfl, rfl⟩⟩, ?_⟩ | refine ⟨⟨_, rfl, .inl ⟨slEq rfl tN, rfl⟩⟩, ?_⟩ | refine ⟨⟨_, rfl, .inl ⟨ivEq tX, rfl⟩⟩, ?_⟩)) (by exact ⟨ent_same rfl rfl rfl tL, ⟨ent_same rfl rfl rfl tL, ⟨ent_same rfl rfl rfl tL, ⟨ent_same rfl rfl rfl tL, ⟨ent_same rfl rfl rfl tL, ⟨ent_same rfl rfl rfl tL, ⟨ent_same rfl rfl rfl tL, ⟨ent_same rfl rfl rfl tL, ⟨ent_same rfl rfl rfl tL, ⟨ent_same rfl rfl rfl tL, trivial⟩⟩⟩⟩⟩⟩⟩⟩⟩⟩) (fun _ h => by simp at h) (hK7)
                          · rw [ifF hb, List.append_nil] at hU
                            refine nK ?_
                            refine s_reg rfl ?_
                            refine Run.pure (dd := some 172) rfl rfl (op_add rfl (Opd.tmp _ _ rfl) (Opd.const _) tI) ?_
                            refine Run.pure (dd := some 138) rfl rfl (op_move rfl (Opd.tmp _ _ rfl)) ?_
                            refine Run.nil (FinR.mk ?_)
                            refine nK ?_
                            refine Next.weak [0, 1, 2, 3, 4, 5, 6, 7, 8, 9] [] (by rfl) (keeps0 hC _) (by repeat (first | exact trivial | refine ⟨⟨_, rfl, .inl ⟨rfl, rfl⟩⟩, ?_⟩ | refine ⟨⟨_, rfl, .inl ⟨slEq rfl tN, rfl⟩⟩, ?_⟩ | refine ⟨⟨_, rfl, .inl ⟨ivEq tX, rfl⟩⟩, ?_⟩)) (by exact ⟨ent_same rfl rfl rfl tL, ⟨ent_same rfl rfl rfl tL, ⟨ent_same rfl rfl rfl tL, ⟨ent_same rfl rfl rfl tL, ⟨ent_same rfl rfl rfl tL, ⟨ent_same rfl rfl rfl tL, ⟨ent_same rfl rfl rfl tL, ⟨ent_same rfl rfl rfl tL, ⟨ent_same rfl rfl rfl tL, ⟨ent_same rfl rfl rfl tL, trivial⟩⟩⟩⟩⟩⟩⟩⟩⟩⟩) (fun _ h => by simp at h) (hK6 _ hU)
                        · have hie3 : k = ns.length := by simp at hb; omega
                          rw [hie3, List.drop_length] at hU
                          simp only [netE, List.append_nil] at hU
                          subst hU
                          refine nK ?_
                          refine s_reg rfl ?_
                          refine Run.pure (dd := some 173) rfl rfl (op_add rfl (Opd.tmp _ _ rfl) (Opd.const _) tI) ?_
                          refine Run.pure (dd := some 93) rfl rfl (op_move rfl (Opd.tmp _ _ rfl)) ?_
                          refine Run.nil (FinR.mk ?_)
                          refine nK ?_
                          refine Next.weak [0, 1, 2, 3, 4, 5, 6, 7, 8] [] (by rfl) (keeps0 hC _) (by repeat (first | exact trivial | refine ⟨⟨_, rfl, .inl ⟨rfl, rfl⟩⟩, ?_⟩ | refine ⟨⟨_, rfl, .inl ⟨slEq rfl tN, rfl⟩⟩, ?_⟩ | refine ⟨⟨_, rfl, .inl ⟨ivEq tX, rfl⟩⟩, ?_⟩)) (by exact ⟨ent_same rfl rfl rfl tL, ⟨ent_same rfl rfl rfl tL, ⟨ent_same rfl rfl rfl tL, ⟨ent_same rfl rfl rfl tL, ⟨ent_same rfl rfl rfl tL, ⟨ent_same rfl rfl rfl tL, ⟨ent_same rfl rfl rfl tL, ⟨ent_same rfl rfl rfl tL, ⟨ent_same rfl rfl rfl tL, trivial⟩⟩⟩⟩⟩⟩⟩⟩⟩) (fun _ h => by simp at h) (hK3 _ hT)
                    · rw [ifF hb] at hLE
                      rw [hLE, List.append_nil] at hT
                      refine nK ?_
                      refine s_reg rfl ?_
                      refine Run.pure (dd := some 173) rfl rfl (op_add rfl (Opd.tmp _ _ rfl) (Opd.const _) tI) ?_
                      refine Run.pure (dd := some 93) rfl rfl (op_move rfl (Opd.tmp _ _ rfl)) ?_
                      refine Run.nil (FinR.mk ?_)
                      refine nK ?_
                      refine Next.weak [0, 1, 2, 3, 4, 5, 6, 7, 8] [] (by rfl) (keeps0 hC _) (by repeat (first | exact trivial | refine ⟨⟨_, rfl, .inl ⟨rfl, rfl⟩⟩, ?_⟩ | refine ⟨⟨_, rfl, .inl ⟨slEq rfl tN, rfl⟩⟩, ?_⟩ | refine ⟨⟨_, rfl, .inl ⟨ivEq tX, rfl⟩⟩, ?_⟩)) (by exact ⟨ent_same rfl rfl rfl tL, ⟨ent_same rfl rfl rfl tL, ⟨ent_same rfl rfl rfl tL, ⟨ent_same rfl rfl rfl tL, ⟨ent_same rfl rfl rfl tL, ⟨ent_same rfl rfl rfl tL, ⟨ent_same rfl rfl rfl tL, ⟨ent_same rfl rfl rfl tL, ⟨ent_same rfl rfl rfl tL, trivial⟩⟩⟩⟩⟩⟩⟩⟩⟩) (fun _ h => by simp at h) (hK3 _ hT)
                · have hie2 : j = l.ls.length := by simp at hb; omega
                  rw [hie2, List.drop_length] at hT
                  simp only [List.flatMap_nil, List.append_nil] at hT
                  subst hT
                  refine nK ?_
                  refine s_reg rfl ?_
                  refine Run.pure (dd := some 174) rfl rfl (op_add rfl (Opd.tmp _ _ rfl) (Opd.const _) tI) ?_
                  refine Run.pure (dd := some 85) rfl rfl (op_move rfl (Opd.tmp _ _ rfl)) ?_
                  refine Run.nil (FinR.mk ?_)
                  refine nK ?_
                  refine Next.weak [0, 1, 2, 3, 4, 5, 6, 7] [] (by rfl) (keeps0 hC _) (by repeat (first | exact trivial | refine ⟨⟨_, rfl, .inl ⟨rfl, rfl⟩⟩, ?_⟩ | refine ⟨⟨_, rfl, .inl ⟨slEq rfl tN, rfl⟩⟩, ?_⟩ | refine ⟨⟨_, rfl, .inl ⟨ivEq tX, rfl⟩⟩, ?_⟩)) (by exact ⟨ent_same rfl rfl rfl tL, ⟨ent_same rfl rfl rfl tL, ⟨ent_same rfl rfl rfl tL, ⟨ent_same rfl rfl rfl tL, ⟨ent_same rfl rfl rfl tL, ⟨ent_same rfl rfl rfl tL, ⟨ent_same rfl rfl rfl tL, ⟨ent_same rfl rfl rfl tL, trivial⟩⟩⟩⟩⟩⟩⟩⟩) (fun _ h => by simp at h) (hK1 _ hS)
            · have hie1 : i = rs.length := by simp at hb; omega
              rw [hie1, List.drop_length] at hS
              simp only [rowE, List.append_nil] at hS
              subst hS
              clear hK
              have hokE : okEs es := by rw [← hE]; exact rowE_ok hR hN hm3 rs 0 (by omega) hro
              have hof := of_c (rs.length : Int) (ns.length : Int) es (by simp only [inr]; omega) (by simp only [inr]; omega) hokE (by omega)
              refine nK ?_
              refine s_reg rfl ?_
              refine Run.pure (dd := some 22) rfl rfl (op_assign rfl (Opd.const _)) ?_
              refine Run.nil (FinR.mk ?_)
              refine nK ?_
              refine Next.weak [0, 1, 3, 5, 6] [2, 7] (by rfl) (keeps0 hC _) (G' := [(2, .ptr 0 5 0 0), (4, .fz (VA rs)), (5, .fz (VA ns)), (6, .ptr 1 5 0 0), (7, .ptr 2 2 0 0)]) (H' := [(0, OR zeroR), (1, some (.refs 5 [[IV .i64 0, IV .i64 0, .fz (.lit (.slice none 0 0)), .sl 3 1 0 rs.length, .sl 4 3 0 ns.length]])), (2, some (.flat 2 [[FMap ekU evI nm, VE es]])), (3, some (.flat 1 ((rs.map fun l => l.h.rt).map encU))), (4, some (.flat 3 ((ns.map netOf).map encV)))]) (by repeat (first | exact trivial | refine ⟨⟨_, rfl, .inl ⟨rfl, rfl⟩⟩, ?_⟩ | refine ⟨⟨_, rfl, .inl ⟨slEq rfl tN, rfl⟩⟩, ?_⟩ | refine ⟨⟨_, rfl, .inl ⟨ivEq tX, rfl⟩⟩, ?_⟩)) (by exact ⟨ent_same rfl rfl rfl tL, ⟨ent_same rfl rfl rfl tL, ⟨⟨rfl, rfl, .flat _ _ _ rfl (.cons _ _ _ _ (.cons _ _ _ _ (.mp _ _ _ rfl rfl) (.cons _ _ _ _ (.sl _ _ 0 _ _ _ rfl rfl (take0 rfl (by simp)) (by simp)) .nil)) .nil)⟩, ⟨ent_same rfl rfl rfl tL, ⟨ent_same rfl rfl rfl tL, trivial⟩⟩⟩⟩⟩) (fun id h => by
                have h' : id = 2 ∨ id = 7 := by simpa using h
                rcases h' with rfl | rfl <;> exact ⟨_, rfl⟩) ?_
              refine nK ?_
              refine s_reg rfl ?_
              refine Run.pure (dd := some 176) rfl rfl (op_move rfl (Opd.tmp _ _ rfl)) ?_
              refine Run.pure (dd := some 177) rfl rfl (op_len_fz rfl (by first | exact Opd.tmp _ _ rfl | exact Opd.nil _ _ (Opd.tmp _ _ rfl)) (by first | exact List.length_map _ | rfl)) ?_
              refine Run.pure (dd := some 178) rfl rfl (op_move rfl (Opd.tmp _ _ rfl)) ?_
              refine Run.pure (dd := some 179) rfl rfl (op_len_fz rfl (by first | exact Opd.tmp _ _ rfl | exact Opd.nil _ _ (Opd.tmp _ _ rfl)) (by first | exact List.length_map _ | rfl)) ?_
              refine Run.pure (dd := some 180) rfl rfl (op_move rfl (Opd.tmp _ _ rfl)) ?_
              refine Run.pure (dd := some 181) rfl rfl (op_nilck_ptr rfl (Opd.tmp _ _ rfl)) ?_
              refine Run.pure (dd := some 182) rfl rfl (op_fld_ptr (by decide) rfl (Opd.tmp _ _ rfl)) ?_
              refine Run.load (dd := some 183) rfl rfl (op_load1_flat rfl (Opd.tmp _ _ rfl) tH rfl) ?_
              refine Run.pure (dd := some 184) rfl rfl (op_call_pure (fun _ => hof) rfl (Opd.func _) (Opds.cons _ _ _ _ (Opd.tmp _ _ rfl) (Opds.cons _ _ _ _ (Opd.tmp _ _ rfl) (Opds.cons _ _ _ _ (Opd.tmp _ _ rfl) Opds.nil)))) ?_
              refine Run.pure (dd := some 175) rfl rfl (op_move rfl (Opd.tmp _ _ rfl)) ?_
              refine Run.pure (dd := some 185) rfl rfl (op_extract_fz rfl (Opd.tmp _ _ rfl) rfl) ?_
              refine Run.pure (dd := some 186) rfl rfl (op_extract_fz rfl (Opd.tmp _ _ rfl) rfl) ?_
              refine Run.pure (dd := some 187) rfl rfl (op_fld_ptr (by decide) rfl (Opd.tmp _ _ rfl)) ?_
              refine Run.eff (dd := none) rfl rfl (op_store_refs rfl (Opd.tmp _ _ rfl) (Opd.tmp _ _ rfl) tP rfl rfl rfl tS) ?_
              refine Run.pure (dd := some 22) rfl rfl (op_assign rfl (Opd.tmp _ _ rfl)) ?_
              refine Run.nil (FinR.mk ?_)
              refine nK ?_
              refine s_reg rfl ?_
              refine Run.pure (dd := some 188) rfl rfl (op_move rfl (Opd.tmp _ _ rfl)) ?_
              refine Run.pure (dd := some 189) rfl rfl (op_neq rfl (Opd.tmp _ _ rfl) (Opd.const _)) ?_
              refine Run.nil (FinR.mk ?_)
              refine nK ?_
              refine n_cond _ rfl (fun hb => ?_) (fun hb => ?_)
              · rw [if_pos (by simpa using hb)]
                refine nK ?_
                refine s_reg rfl ?_
                refine Run.pure (dd := some 190) rfl rfl (op_build rfl rfl rfl (FillF.nil _)) ?_
                refine Run.pure (dd := some 191) rfl rfl (op_move rfl (Opd.tmp _ _ rfl)) ?_
                refine Run.eff (dd := none) rfl rfl (op_store_flat rfl (Opd.tmp _ _ rfl) (Opd.tmp _ _ rfl) tC rfl rfl (by first | rfl | assumption) tS) ?_
                refine Run.pure (dd := some 3) rfl rfl (op_assign rfl (Opd.tmp _ _ rfl)) ?_
                refine Run.nil (FinR.mk ?_)
                refine nK ?_
                refine Next.weak [0] [] (by rfl) (keeps0 hC _) (G' := [(2, .ptr 0 5 0 0), (3, IV .i64 (ofF (rs.length : Int) (ns.length : Int) es).2)]) (H' := [(0, OR zeroR)]) (by repeat (first | exact trivial | refine ⟨⟨_, rfl, .inl ⟨rfl, rfl⟩⟩, ?_⟩ | refine ⟨⟨_, rfl, .inl ⟨slEq rfl tN, rfl⟩⟩, ?_⟩ | refine ⟨⟨_, rfl, .inl ⟨ivEq tX, rfl⟩⟩, ?_⟩)) (by exact ⟨⟨rfl, rfl, .fflat _ _ _ rfl tW⟩, trivial⟩) (fun _ h => by simp at h) ?_
                (first | exact s_o1 hC rfl tV | exact s_o2 hC rfl tV tV | exact s_o3 hC rfl tV tV tV | exact s_o4 hC rfl tV tV tV tV | exact s_out0 hC rfl | exact s_outO hC rfl rfl rfl)
              · rw [if_neg (by simpa using hb)]
                refine nK ?_
                refine Next.weak [0, 1] [3, 4] (by rfl) (keeps0 hC _) (G' := [(2, .ptr 0 5 0 0), (6, .ptr 1 5 0 0)]) (H' := [(0, OR zeroR), (1, OR ⟨(ofF (rs.length : Int) (ns.length : Int) es).1, rs.map fun l => l.h.rt, ns.map netOf⟩)]) (by repeat (first | exact trivial | refine ⟨⟨_, rfl, .inl ⟨rfl, rfl⟩⟩, ?_⟩ | refine ⟨⟨_, rfl, .inl ⟨slEq rfl tN, rfl⟩⟩, ?_⟩ | refine ⟨⟨_, rfl, .inl ⟨ivEq tX, rfl⟩⟩, ?_⟩)) (by exact ⟨ent_same rfl rfl rfl tL, ⟨⟨rfl, rfl, .flat _ _ _ rfl tW⟩, trivial⟩⟩) (fun id h => by
                  have h' : id = 3 ∨ id = 4 := by simpa using h
                  rcases h' with rfl | rfl <;> exact ⟨_, rfl⟩) ?_
                refine nK ?_
                refine s_reg rfl ?_
                refine Run.load (dd := some 192) rfl rfl (op_loadw_flat rfl (Opd.tmp _ _ rfl) tH rfl) ?_
                refine Run.eff (dd := none) rfl rfl (op_store_flat rfl (Opd.tmp _ _ rfl) (Opd.tmp _ _ rfl) tC rfl rfl (by first | rfl | assumption) tS) ?_
                refine Run.pure (dd := some 3) rfl rfl (op_assign rfl (Opd.const _)) ?_
                refine Run.nil (FinR.mk ?_)
                refine nK ?_
                (first | exact s_o1 hC rfl tV | exact s_o2 hC rfl tV tV | exact s_o3 hC rfl tV tV tV | exact s_o4 hC rfl tV tV tV tV | exact s_out0 hC rfl | exact s_outO hC rfl rfl rfl)
end Go.Proofs.Ytdhkioocjgpocaa
/- The engine, part 38: literals whose missing slices are read as empty ones. -/
namespace Go.RT
open Go
set_option linter.all false
variable {P : Program} {G : Env} {t : TypeId} {o : Oper} {g : Bool}
/-- the cells of a zero value; a nil slice may be read as an empty one -/
def zOk : List Value → List FV → Prop
  | [], [] => True
  | u :: us, f :: fs => (f = .lit u ∨ ∃ sz, u = .slice none 0 0 ∧ f = .vals sz []) ∧ zOk us fs
  | _, _ => False
theorem zOk.len : ∀ {us : List Value} {fs : List FV}, zOk us fs → us.length = fs.length
  | [], [], _ => rfl
  | _ :: _, _ :: _, h => by simp [zOk.len h.2]
theorem zOk.at : ∀ {us : List Value} {fs : List FV}, zOk us fs → ∀ (i : Nat) (f : FV), fs[i]? = some f → ∃ u, us[i]? = some u ∧ (f = .lit u ∨ ∃ sz, u = .slice none 0 0 ∧ f = .vals sz [])
  | [], [], _, i, f, h => by simp at h
  | u :: us, f' :: fs, h, i, f, hf => by
    cases i with
    | zero => simp at hf; subst hf; exact ⟨u, rfl, h.1⟩
    | succ i => simpa using zOk.at h.2 i f (by simpa using hf)
theorem zOk.rep {z : Value} {zs : List FV} (h : zOk z.cells.toList zs) (h1 : z.cells.toList.all (·.oneCell') = true) (w : World) (S : Nat → Prop) : ARep (FRep w S) z.cells zs := by
  refine ⟨by simpa using h.len, fun i p hp => ?_⟩
  obtain ⟨u, hu, hq⟩ := h.at i p hp
  rw [Array.getElem?_toList] at hu
  refine ⟨u, hu, List.all_eq_true.1 h1 u (Array.mem_toList_iff.2 (Array.mem_of_getElem? hu)), ?_⟩
  rcases hq with rfl | ⟨sz, rfl, rfl⟩
  · exact .lit _
  · exact .nil _ _ _
theorem op_buildZ {places : List (Nat × Nat)} {n by_ : Nat} {z : Value} {cs : List FV} {parts : List (Nat × Operand)} (zs : List FV) [hb : TyB P t places] [hn : TyN P t n by_ z] (ho : o.op = .build t parts.toArray) (h1 : z.cells.toList.all (·.oneCell') = true) (hz : zOk z.cells.toList zs) (hf : FillF places G g parts zs cs) : OpP P o g G (.fz (.agg cs)) :=
  .of fun S m a w hg ha => by
    obtain ⟨fs, e1, e2⟩ := hb.h
    obtain ⟨A, k1, k2, k3⟩ := hf.run hg ha (fun p hp => by simp only [ho, Op.operands, List.mem_toArray]; exact List.mem_map.2 ⟨p, by simpa using hp, rfl⟩) _ (hz.rep h1 w S)
    refine ⟨.agg A, ?_, .fz _ _ (.agg A cs k2 (fun i c f hc hf => ?_) (fun i c hc => ?_))⟩
    · have : (parts.toArray.map fun p => (p.1, a.eval p.2)).toList = parts.map fun p => (p.1, a.eval p.2) := by simp
      simp [execOp, ho, Instr.build, run_zero hn, run_underlying e1, e2, k1]
    · obtain ⟨u, hu, _, hr⟩ := k3 i f hf
      rw [hc] at hu; cases hu; exact hr
    · have hi : i < cs.length := by rw [← k2]; exact (Array.getElem?_eq_some_iff.1 hc).1
      obtain ⟨u, hu, hone, _⟩ := k3 i cs[i] (by simp [hi])
      rw [hc] at hu; cases hu; exact hone
end Go.RT
namespace Go.Proofs.Ytdhkioocjgpocaa
open Go Go.RT Go.Proofs Go.Pl
set_option linter.all false
set_option maxRecDepth 20000
theorem rawL_ok {a b c : Int} (ha : inr .u32 a) (hb : inr .u32 b) (hc : inr .i64 c) : okA (rawL a b c) := by
  refine ⟨⟨?_, ha, ?_, ha, ?_, ?_, ?_⟩, fun x hx => ?_, fun x hx => by simp [rawL] at hx, ?_, ?_, ?_⟩
  all_goals first | (simp [rawL, inr]; done) | skip
  have := List.mem_singleton.1 hx
  subst this
  exact ⟨by simp [inr], hb, by simp [inr], hc⟩
theorem tZk {α : Prop} (h : α := by repeat (first | exact trivial | refine And.intro (.inl rfl) ?_ | refine And.intro (.inr ⟨_, rfl, rfl⟩) ?_)) : α := h
theorem link_c (a b c s : Int) (ha : inr .u32 a) (hb0 : inr .u32 b) (hc : inr .i64 c) (h0 : chkA (rawL a b c) = 0) (hsm : sumA (rawL a b c) = s) : Pure Try.prog 24 [If .u32 a, If .u32 b, If .i64 c] (.agg (encA (lnkS a b c s))) := by
  have hs : Pure Try.prog 15 [.agg (encA (rawL a b c))] (.tup [.agg (encA (lnkS a b c s)), If .i64 0]) := by
    have h := seal_c (rawL a b c) (rawL_ok ha hb0 hc)
    have e : sealF (rawL a b c) = (lnkS a b c s, 0) := by unfold sealF; rw [if_neg (by simp [h0]), hsm]; rfl
    rw [e] at h
    exact h
  clear h0 hsm
  refine Meets.intro Try.func24 rfl (Nat.le_of_ble_eq_true rfl) fun C hC => ?_
  simp only [List.map, argEnv, Nat.reduceAdd]
  refine nK ?_
  refine s_reg rfl ?_
  refine Run.eff (dd := some 6) rfl rfl (op_alloc rfl rfl rfl rfl) ?_
  refine Run.nil (FinR.mk ?_)
  refine nK ?_
  refine s_reg rfl ?_
  refine Run.pure (dd := some 10) rfl rfl (op_move rfl (Opd.tmp _ _ rfl)) ?_
  refine Run.pure (dd := some 11) rfl rfl (op_move rfl (Opd.tmp _ _ rfl)) ?_
  refine Run.pure (dd := some 12) rfl rfl (op_build rfl rfl rfl (FillF.cons _ _ _ _ _ _ _ _ _ _ (by rfl) (Opd.const _) tC (by rfl) tR (FillF.cons _ _ _ _ _ _ _ _ _ _ (by rfl) (Opd.tmp _ _ rfl) tC (by rfl) tR (FillF.cons _ _ _ _ _ _ _ _ _ _ (by rfl) (Opd.tmp _ _ rfl) tC (by rfl) tR (FillF.cons _ _ _ _ _ _ _ _ _ _ (by rfl) (Opd.const _) tC (by rfl) tR (FillF.nil _)))))) ?_
  refine Run.pure (dd := some 13) rfl rfl (op_move rfl (Opd.tmp _ _ rfl)) ?_
  refine Run.pure (dd := some 14) rfl rfl (op_move rfl (Opd.tmp _ _ rfl)) ?_
  refine Run.pure (dd := some 15) rfl rfl (op_build rfl rfl rfl (FillF.cons _ _ _ _ _ _ _ _ _ _ (by rfl) (Opd.const _) tC (by rfl) tR (FillF.cons _ _ _ _ _ _ _ _ _ _ (by rfl) (Opd.tmp _ _ rfl) tC (by rfl) tR (FillF.cons _ _ _ _ _ _ _ _ _ _ (by rfl) (Opd.const _) tC (by rfl) tR (FillF.cons _ _ _ _ _ _ _ _ _ _ (by rfl) (Opd.tmp _ _ rfl) tC (by rfl) tR (FillF.nil _)))))) ?_
  refine Run.pure (dd := some 16) rfl rfl (op_buildSlice_fz rfl (RowsF.cons _ _ _ _ _ _ (Opd.tmp _ _ rfl) tC (by rfl) (RowsF.nil _)) rfl rfl) ?_
  refine Run.pure (dd := some 17) rfl rfl (op_buildZ (encA zeroA) rfl rfl tZk (FillF.cons _ _ _ _ _ _ _ _ _ _ (by rfl) (Opd.tmp _ _ rfl) tC (by rfl) tR (FillF.cons _ _ _ _ _ _ _ _ _ _ (by rfl) (Opd.tmp _ _ rfl) tC (by rfl) tR (FillF.nil _)))) ?_
  refine Run.pure (dd := some 18) rfl rfl (op_call_pure (fun _ => hs) rfl (Opd.func _) (Opds.cons _ _ _ _ (Opd.tmp _ _ rfl) Opds.nil)) ?_
  refine Run.pure (dd := some 9) rfl rfl (op_move rfl (Opd.tmp _ _ rfl)) ?_
  refine Run.pure (dd := some 19) rfl rfl (op_extract_fz rfl (Opd.tmp _ _ rfl) rfl) ?_
  refine Run.pure (dd := some 20) rfl rfl (op_extract_fz rfl (Opd.tmp _ _ rfl) rfl) ?_
  refine Run.eff (dd := some 7) rfl rfl (op_alloc rfl rfl rfl rfl) ?_
  refine Run.eff (dd := none) rfl rfl (op_store_flat rfl (Opd.tmp _ _ rfl) (Opd.tmp _ _ rfl) tC rfl rfl (by first | rfl | assumption) tS) ?_
  refine Run.pure (dd := some 8) rfl rfl (op_assign rfl (Opd.tmp _ _ rfl)) ?_
  refine Run.nil (FinR.mk ?_)
  refine nK ?_
  refine s_reg rfl ?_
  refine Run.load (dd := some 21) rfl rfl (op_loadw_flat rfl (Opd.tmp _ _ rfl) tH rfl) ?_
  refine Run.eff (dd := none) rfl rfl (op_store_flat rfl (Opd.tmp _ _ rfl) (Opd.tmp _ _ rfl) tC rfl rfl (by first | rfl | assumption) tS) ?_
  refine Run.nil (FinR.mk ?_)
  refine nK ?_
  (first | exact s_o1 hC rfl tV | exact s_o2 hC rfl tV tV | exact s_o3 hC rfl tV tV tV | exact s_o4 hC rfl tV tV tV tV | exact s_out0 hC rfl | exact s_outO hC rfl rfl rfl)
def exR : AGr := ⟨⟨2, 0, [⟨0, 1, 5⟩, ⟨1, 0, 7⟩]⟩, [1, 2], []⟩
theorem lnkS_ok {a b c s : Int} (ha : inr .u32 a) (hb : inr .u32 b) (hc : inr .i64 c) (hs : inr .i64 s) : okA (lnkS a b c s) := by
  refine ⟨⟨?_, ha, ?_, ha, ?_, ?_, hs⟩, fun x hx => ?_, fun x hx => by simp [lnkS] at hx, ?_, ?_, ?_⟩
  all_goals first | (simp [lnkS, inr]; done) | skip
  have := List.mem_singleton.1 hx
  subst this
  exact ⟨by simp [inr], hb, by simp [inr], hc⟩
theorem lives_c : Pure Try.prog 9 [] (Bf true) := by
  have l12 := link_c 1 2 5 _ (by decide) (by decide) (by decide) (by decide) rfl
  have l21 := link_c 2 1 7 _ (by decide) (by decide) (by decide) (by decide) rfl
  have l23 := link_c 2 3 7 _ (by decide) (by decide) (by decide) (by decide) rfl
  have o12 := sumA_ok (rawL 1 2 5)
  have o21 := sumA_ok (rawL 2 1 7)
  have o23 := sumA_ok (rawL 2 3 7)
  generalize sumA (rawL 1 2 5) = s12 at *
  generalize sumA (rawL 2 1 7) = s21 at *
  generalize sumA (rawL 2 3 7) = s23 at *
  have b1 := build_c (db1 s12 s21) (by simp [db1]) (fun x hx => by
    rcases List.mem_cons.1 hx with rfl | hx
    · exact lnkS_ok (by decide) (by decide) (by decide) o12
    · rw [List.mem_singleton.1 hx]; exact lnkS_ok (by decide) (by decide) (by decide) o21) (fun x hx => by
    rcases List.mem_cons.1 hx with rfl | hx
    · exact ⟨by simp [lnkS], by simp [lnkS]⟩
    · rw [List.mem_singleton.1 hx]; exact ⟨by simp [lnkS], by simp [lnkS]⟩)
  have b2 := build_c (db2 s12 s23) (by simp [db2]) (fun x hx => by
    rcases List.mem_cons.1 hx with rfl | hx
    · exact lnkS_ok (by decide) (by decide) (by decide) o12
    · rw [List.mem_singleton.1 hx]; exact lnkS_ok (by decide) (by decide) (by decide) o23) (fun x hx => by
    rcases List.mem_cons.1 hx with rfl | hx
    · exact ⟨by simp [lnkS], by simp [lnkS]⟩
    · rw [List.mem_singleton.1 hx]; exact ⟨by simp [lnkS], by simp [lnkS]⟩)
  rw [build1] at b1
  rw [build2] at b2
  have k1 : Pure Try.prog 16 [.agg (encR exR), If .u32 2] (If .i64 1) := aidx_c exR 2 (by decide)
  have k2 : Pure Try.prog 16 [.agg (encR exR), If .u32 3] (If .i64 (-1)) := aidx_c exR 3 (by decide)
  refine Meets.intro Try.func9 rfl (Nat.le_of_ble_eq_true rfl) fun C hC => ?_
  simp only [List.map, argEnv, Nat.reduceAdd]
  refine nK ?_
  refine s_reg rfl ?_
  refine Run.pure (dd := some 0) rfl rfl (op_assign rfl (Opd.const _)) ?_
  refine Run.nil (FinR.mk ?_)
  refine nK ?_
  refine s_reg rfl ?_
  refine Run.pure (dd := some 6) rfl rfl (op_call_pure (fun _ => l12) rfl (Opd.func _) (Opds.cons _ _ _ _ (Opd.const _) (Opds.cons _ _ _ _ (Opd.const _) (Opds.cons _ _ _ _ (Opd.const _) Opds.nil)))) ?_
  refine Run.pure (dd := some 7) rfl rfl (op_call_pure (fun _ => l21) rfl (Opd.func _) (Opds.cons _ _ _ _ (Opd.const _) (Opds.cons _ _ _ _ (Opd.const _) (Opds.cons _ _ _ _ (Opd.const _) Opds.nil)))) ?_
  refine Run.pure (dd := some 8) rfl rfl (op_buildSlice_fz rfl (RowsF.cons _ _ _ _ _ _ (Opd.tmp _ _ rfl) tC (by rfl) (RowsF.cons _ _ _ _ _ _ (Opd.tmp _ _ rfl) tC (by rfl) (RowsF.nil _))) rfl rfl) ?_
  refine Run.pure (dd := some 9) rfl rfl (op_call_pure (fun _ => b1) rfl (Opd.func _) (Opds.cons _ _ _ _ (Opd.tmp _ _ rfl) Opds.nil)) ?_
  refine Run.pure (dd := some 5) rfl rfl (op_move rfl (Opd.tmp _ _ rfl)) ?_
  refine Run.pure (dd := some 10) rfl rfl (op_extract_fz rfl (Opd.tmp _ _ rfl) rfl) ?_
  refine Run.pure (dd := some 11) rfl rfl (op_extract_fz rfl (Opd.tmp _ _ rfl) rfl) ?_
  refine Run.eff (dd := some 1) rfl rfl (op_alloc rfl rfl rfl rfl) ?_
  refine Run.eff (dd := none) rfl rfl (op_store_flat rfl (Opd.tmp _ _ rfl) (Opd.tmp _ _ rfl) tC rfl rfl (by first | rfl | assumption) tS) ?_
  refine Run.pure (dd := some 2) rfl rfl (op_assign rfl (Opd.tmp _ _ rfl)) ?_
  refine Run.nil (FinR.mk ?_)
  refine nK ?_
  refine s_reg rfl ?_
  refine Run.pure (dd := some 13) rfl rfl (op_call_pure (fun _ => l12) rfl (Opd.func _) (Opds.cons _ _ _ _ (Opd.const _) (Opds.cons _ _ _ _ (Opd.const _) (Opds.cons _ _ _ _ (Opd.const _) Opds.nil)))) ?_
  refine Run.pure (dd := some 14) rfl rfl (op_call_pure (fun _ => l23) rfl (Opd.func _) (Opds.cons _ _ _ _ (Opd.const _) (Opds.cons _ _ _ _ (Opd.const _) (Opds.cons _ _ _ _ (Opd.const _) Opds.nil)))) ?_
  refine Run.pure (dd := some 15) rfl rfl (op_buildSlice_fz rfl (RowsF.cons _ _ _ _ _ _ (Opd.tmp _ _ rfl) tC (by rfl) (RowsF.cons _ _ _ _ _ _ (Opd.tmp _ _ rfl) tC (by rfl) (RowsF.nil _))) rfl rfl) ?_
  refine Run.pure (dd := some 16) rfl rfl (op_call_pure (fun _ => b2) rfl (Opd.func _) (Opds.cons _ _ _ _ (Opd.tmp _ _ rfl) Opds.nil)) ?_
  refine Run.pure (dd := some 12) rfl rfl (op_move rfl (Opd.tmp _ _ rfl)) ?_
  refine Run.pure (dd := some 17) rfl rfl (op_extract_fz rfl (Opd.tmp _ _ rfl) rfl) ?_
  refine Run.pure (dd := some 18) rfl rfl (op_extract_fz rfl (Opd.tmp _ _ rfl) rfl) ?_
  refine Run.eff (dd := some 3) rfl rfl (op_alloc rfl rfl rfl rfl) ?_
  refine Run.eff (dd := none) rfl rfl (op_store_flat rfl (Opd.tmp _ _ rfl) (Opd.tmp _ _ rfl) tC rfl rfl (by first | rfl | assumption) tS) ?_
  refine Run.pure (dd := some 4) rfl rfl (op_assign rfl (Opd.tmp _ _ rfl)) ?_
  refine Run.nil (FinR.mk ?_)
  refine nK ?_
  refine nK ?_
  refine s_reg rfl ?_
  refine Run.pure (dd := some 19) rfl rfl (op_move rfl (Opd.tmp _ _ rfl)) ?_
  refine Run.pure (dd := some 20) rfl rfl (op_neq rfl (Opd.tmp _ _ rfl) (Opd.const _)) ?_
  refine Run.pure (dd := some 21) rfl rfl (op_move rfl (Opd.tmp _ _ rfl)) ?_
  refine Run.pureG (dd := some 22) rfl rfl rfl tG (op_move rfl (Opd.tmp _ _ rfl)) ?_
  refine Run.pureG (dd := some 23) rfl rfl rfl tG (op_neq rfl (Opd.topt _ _ _ rfl tO) (Opd.const _)) ?_
  refine Run.pure (dd := some 24) rfl rfl (op_pick_or rfl (Opd.tmp _ _ rfl) (Opd.topt _ _ _ rfl tO)) ?_
  refine Run.pure (dd := some 25) rfl rfl (op_move rfl (Opd.tmp _ _ rfl)) ?_
  refine Run.pureG (dd := some 26) rfl rfl rfl tG (op_fld_ptr (by decide) rfl (Opd.tmp _ _ rfl)) ?_
  refine Run.pureG (dd := some 27) rfl rfl rfl tG (op_fld_ptr (by decide) rfl (Opd.topt _ _ _ rfl tO)) ?_
  refine Run.loadG (dd := some 28) rfl rfl rfl tG (op_load1_flat rfl (Opd.topt _ _ _ rfl tO) tH rfl) ?_
  refine Run.pureG (dd := some 29) rfl rfl rfl tG (op_len_fz rfl (by first | exact Opd.topt _ _ _ rfl tO | exact Opd.nil _ _ (Opd.topt _ _ _ rfl tO)) (by first | exact List.length_map _ | rfl)) ?_
  refine Run.pureG (dd := some 30) rfl rfl rfl tG (op_neq rfl (Opd.topt _ _ _ rfl tO) (Opd.const _)) ?_
  refine Run.pure (dd := some 31) rfl rfl (op_pick_or rfl (Opd.tmp _ _ rfl) (Opd.topt _ _ _ rfl tO)) ?_
  refine Run.pure (dd := some 32) rfl rfl (op_move rfl (Opd.tmp _ _ rfl)) ?_
  refine Run.pureG (dd := some 33) rfl rfl rfl tG (op_fld_ptr (by decide) rfl (Opd.tmp _ _ rfl)) ?_
  refine Run.pureG (dd := some 34) rfl rfl rfl tG (op_fld_ptr (by decide) rfl (Opd.topt _ _ _ rfl tO)) ?_
  refine Run.loadG (dd := some 35) rfl rfl rfl tG (op_load1_flat rfl (Opd.topt _ _ _ rfl tO) tH rfl) ?_
  refine Run.pureG (dd := some 36) rfl rfl rfl tG (op_len_fz rfl (by first | exact Opd.topt _ _ _ rfl tO | exact Opd.nil _ _ (Opd.topt _ _ _ rfl tO)) (by first | exact List.length_map _ | rfl)) ?_
  refine Run.pureG (dd := some 37) rfl rfl rfl tG (op_neq rfl (Opd.topt _ _ _ rfl tO) (Opd.const _)) ?_
  refine Run.pure (dd := some 38) rfl rfl (op_pick_or rfl (Opd.tmp _ _ rfl) (Opd.topt _ _ _ rfl tO)) ?_
  refine Run.nil (FinR.mk ?_)
  refine nK ?_
  refine n_cond _ rfl (fun hb => ?_) (fun hb => ?_)
  · exfalso; simp at hb
  · refine nK ?_
    refine s_reg rfl ?_
    refine Run.pure (dd := some 39) rfl rfl (op_fld_ptr (by decide) rfl (Opd.tmp _ _ rfl)) ?_
    refine Run.pure (dd := some 40) rfl rfl (op_fld_ptr (by decide) rfl (Opd.tmp _ _ rfl)) ?_
    refine Run.load (dd := some 41) rfl rfl (op_load1_flat rfl (Opd.tmp _ _ rfl) tH rfl) ?_
    refine Run.pure (dd := some 42) rfl rfl (op_idx_fz 0 rfl (Opd.tmp _ _ rfl) (Opd.const _) (by intro _; exact ⟨rfl, rfl⟩)) ?_
    refine Run.pure (dd := some 43) rfl rfl (op_loadw_fz rfl (Opd.tmp _ _ rfl) rfl) ?_
    refine Run.pure (dd := some 44) rfl rfl (op_build rfl rfl rfl (FillF.cons _ _ _ _ _ _ _ _ _ _ (by rfl) (Opd.const _) tC (by rfl) tR (FillF.cons _ _ _ _ _ _ _ _ _ _ (by rfl) (Opd.const _) tC (by rfl) tR (FillF.cons _ _ _ _ _ _ _ _ _ _ (by rfl) (Opd.const _) tC (by rfl) tR (FillF.nil _))))) ?_
    refine Run.pure (dd := some 45) rfl rfl (op_eqS rfl (Opd.tmp _ _ rfl) (Opd.tmp _ _ rfl) (by kernel_rfl)) ?_
    refine Run.pure (dd := some 46) rfl rfl (op_move rfl (Opd.tmp _ _ rfl)) ?_
    refine Run.pureG (dd := some 47) rfl rfl rfl tG (op_fld_ptr (by decide) rfl (Opd.tmp _ _ rfl)) ?_
    refine Run.pureG (dd := some 48) rfl rfl rfl tG (op_fld_ptr (by decide) rfl (Opd.topt _ _ _ rfl tO)) ?_
    refine Run.loadG (dd := some 49) rfl rfl rfl tG (op_load1_flat rfl (Opd.topt _ _ _ rfl tO) tH rfl) ?_
    refine Run.pureG (dd := some 50) rfl rfl rfl tG (op_idx_fz 1 rfl (Opd.topt _ _ _ rfl tO) (Opd.const _) (by intro _; exact ⟨rfl, rfl⟩)) ?_
    refine Run.pureG (dd := some 51) rfl rfl rfl tG (op_loadw_fz rfl (Opd.topt _ _ _ rfl tO) rfl) ?_
    refine Run.pureG (dd := some 52) rfl rfl rfl tG (op_build rfl rfl rfl (FillF.cons _ _ _ _ _ _ _ _ _ _ (by rfl) (Opd.const _) tC (by rfl) tR (FillF.cons _ _ _ _ _ _ _ _ _ _ (by rfl) (Opd.const _) tC (by rfl) tR (FillF.cons _ _ _ _ _ _ _ _ _ _ (by rfl) (Opd.const _) tC (by rfl) tR (FillF.nil _))))) ?_
    refine Run.pureG (dd := some 53) rfl rfl rfl tG (op_eqS rfl (Opd.topt _ _ _ rfl tO) (Opd.topt _ _ _ rfl tO) (by kernel_rfl)) ?_
    refine Run.pure (dd := some 54) rfl rfl (op_pick_and rfl (Opd.tmp _ _ rfl) (Opd.topt _ _ _ rfl tO)) ?_
    refine Run.pure (dd := some 55) rfl rfl (op_move rfl (Opd.tmp _ _ rfl)) ?_
    refine Run.loadG (dd := some 56) rfl rfl rfl tG (op_loadw_flat rfl (Opd.tmp _ _ rfl) tH rfl) ?_
    refine Run.pureG (dd := some 57) rfl rfl rfl tG (op_call_pure (fun _ => k1) rfl (Opd.func _) (Opds.cons _ _ _ _ (Opd.topt _ _ _ rfl tO) (Opds.cons _ _ _ _ (Opd.const _) Opds.nil))) ?_
    refine Run.pureG (dd := some 58) rfl rfl rfl tG (op_eql rfl (Opd.topt _ _ _ rfl tO) (Opd.const _)) ?_
    refine Run.pure (dd := some 59) rfl rfl (op_pick_and rfl (Opd.tmp _ _ rfl) (Opd.topt _ _ _ rfl tO)) ?_
    refine Run.pure (dd := some 60) rfl rfl (op_move rfl (Opd.tmp _ _ rfl)) ?_
    refine Run.loadG (dd := some 61) rfl rfl rfl tG (op_loadw_flat rfl (Opd.tmp _ _ rfl) tH rfl) ?_
    refine Run.pureG (dd := some 62) rfl rfl rfl tG (op_call_pure (fun _ => k2) rfl (Opd.func _) (Opds.cons _ _ _ _ (Opd.topt _ _ _ rfl tO) (Opds.cons _ _ _ _ (Opd.const _) Opds.nil))) ?_
    refine Run.pureG (dd := some 63) rfl rfl rfl tG (op_eql rfl (Opd.topt _ _ _ rfl tO) (Opd.const _)) ?_
    refine Run.pure (dd := some 64) rfl rfl (op_pick_and rfl (Opd.tmp _ _ rfl) (Opd.topt _ _ _ rfl tO)) ?_
    refine Run.pure (dd := some 0) rfl rfl (op_assign rfl (Opd.tmp _ _ rfl)) ?_
    refine Run.nil (FinR.mk ?_)
    refine nK ?_
    refine s_oB hC rfl rfl ?_
    decide
open Go Go.RT Go.Proofs Go.Pl
set_option maxRecDepth 20000
theorem len_ok {n : Nat} (h : n ≤ maxLen) : lenOk n := by unfold lenOk; unfold maxLen at h; omega
theorem finds_law (a : AGr) (r : Int) (hn1 : lenOk a.rs.length) (hn2 : lenOk a.ns.length) : Pure Try.prog 6 [.agg (encR a), If .u32 r] (Bf true) := by
  have k1 := aidx_c a r hn1
  have k2 := ridx_c a r hn1
  have k3 := anet_c a r hn2
  have k4 := rnet_c a r hn2
  have e : (fun x : Int => decide (r = x)) = fun x => decide (x = r) := by funext x; exact decide_eq_decide.2 eq_comm
  rw [e] at k1
  refine Meets.intro Try.func6 rfl (Nat.le_of_ble_eq_true rfl) fun C hC => ?_
  simp only [List.map, argEnv, Nat.reduceAdd]
  refine nK ?_
  refine s_reg rfl ?_
  refine Run.eff (dd := some 2) rfl rfl (op_box_flat rfl (Opd.tmp _ _ rfl) tC rfl) ?_
  refine Run.pure (dd := some 4) rfl rfl (op_assign rfl (Opd.const _)) ?_
  refine Run.nil (FinR.mk ?_)
  refine nK ?_
  refine s_draw mixed ?_
  refine Run.load (dd := some 5) rfl rfl (op_loadw_flat rfl (Opd.tmp _ _ rfl) tH rfl) ?_
  refine Run.pure (dd := some 6) rfl rfl (op_move rfl (Opd.tmp _ _ rfl)) ?_
  refine Run.pure (dd := some 7) rfl rfl (op_call_pure (fun _ => k1) rfl (Opd.func _) (Opds.cons _ _ _ _ (Opd.tmp _ _ rfl) (Opds.cons _ _ _ _ (Opd.tmp _ _ rfl) Opds.nil))) ?_
  refine Run.load (dd := some 8) rfl rfl (op_loadw_flat rfl (Opd.tmp _ _ rfl) tH rfl) ?_
  refine Run.pure (dd := some 9) rfl rfl (op_move rfl (Opd.tmp _ _ rfl)) ?_
  refine Run.pure (dd := some 10) rfl rfl (op_call_pure (fun _ => k2) rfl (Opd.func _) (Opds.cons _ _ _ _ (Opd.tmp _ _ rfl) (Opds.cons _ _ _ _ (Opd.tmp _ _ rfl) Opds.nil))) ?_
  refine Run.pure (dd := some 11) rfl rfl (op_eql rfl (Opd.tmp _ _ rfl) (Opd.tmp _ _ rfl)) ?_
  refine Run.pure (dd := some 12) rfl rfl (op_move rfl (Opd.tmp _ _ rfl)) ?_
  refine Run.loadG (dd := some 13) rfl rfl rfl tG (op_loadw_flat rfl (Opd.tmp _ _ rfl) tH rfl) ?_
  refine Run.pureG (dd := some 14) rfl rfl rfl tG (op_move rfl (Opd.tmp _ _ rfl)) ?_
  refine Run.pureG (dd := some 15) rfl rfl rfl tG (op_call_pure (fun _ => k3) rfl (Opd.func _) (Opds.cons _ _ _ _ (Opd.topt _ _ _ rfl tO) (Opds.cons _ _ _ _ (Opd.topt _ _ _ rfl tO) Opds.nil))) ?_
  refine Run.loadG (dd := some 16) rfl rfl rfl tG (op_loadw_flat rfl (Opd.tmp _ _ rfl) tH rfl) ?_
  refine Run.pureG (dd := some 17) rfl rfl rfl tG (op_move rfl (Opd.tmp _ _ rfl)) ?_
  refine Run.pureG (dd := some 18) rfl rfl rfl tG (op_call_pure (fun _ => k4) rfl (Opd.func _) (Opds.cons _ _ _ _ (Opd.topt _ _ _ rfl tO) (Opds.cons _ _ _ _ (Opd.topt _ _ _ rfl tO) Opds.nil))) ?_
  refine Run.pureG (dd := some 19) rfl rfl rfl tG (op_eql rfl (Opd.topt _ _ _ rfl tO) (Opd.topt _ _ _ rfl tO)) ?_
  refine Run.pure (dd := some 20) rfl rfl (op_pick_and rfl (Opd.tmp _ _ rfl) (Opd.topt _ _ _ rfl tO)) ?_
  refine Run.pure (dd := some 21) rfl rfl (op_move rfl (Opd.tmp _ _ rfl)) ?_
  refine Run.pureG (dd := some 22) rfl rfl rfl tG (op_call_pure (fun _ => lives_c) rfl (Opd.func _) Opds.nil) ?_
  refine Run.pure (dd := some 23) rfl rfl (op_pick_and rfl (Opd.tmp _ _ rfl) (Opd.topt _ _ _ rfl tO)) ?_
  refine Run.pure (dd := some 4) rfl rfl (op_assign rfl (Opd.tmp _ _ rfl)) ?_
  refine Run.nil (FinD.mk (by kernel_rfl) ?_)
  refine nK ?_
  refine s_oB hC rfl rfl ?_
  simp
theorem stubs_law (db : List Lsa) (r : Int) (ho : ∀ x ∈ db, okA x) : Pure Try.prog 7 [VA db, If .u32 r] (Bf true) := by
  refine Meets.intro Try.func7 rfl (Nat.le_of_ble_eq_true rfl) fun C hC => ?_
  simp only [List.map, argEnv, Nat.reduceAdd]
  refine nK ?_
  refine s_reg rfl ?_
  refine Run.pure (dd := some 4) rfl rfl (op_assign rfl (Opd.const _)) ?_
  refine Run.nil (FinR.mk ?_)
  refine nK ?_
  refine s_reg rfl ?_
  refine Run.pure (dd := some 5) rfl rfl (op_move rfl (Opd.tmp _ _ rfl)) ?_
  refine Run.pure (dd := some 6) rfl rfl (op_call_pure (fun _ => db_c _ (by assumption)) rfl (Opd.func _) (Opds.cons _ _ _ _ (Opd.tmp _ _ rfl) Opds.nil)) ?_
  refine Run.pure (dd := some 7) rfl rfl (op_neq rfl (Opd.tmp _ _ rfl) (Opd.const _)) ?_
  refine Run.nil (FinR.mk ?_)
  refine nK ?_
  refine n_cond _ rfl (fun hb => ?_) (fun hb => ?_)
  · refine nK ?_
    refine s_reg rfl ?_
    refine Run.pure (dd := some 8) rfl rfl (op_call_pure (fun _ => lives_c) rfl (Opd.func _) Opds.nil) ?_
    refine Run.pure (dd := some 4) rfl rfl (op_assign rfl (Opd.tmp _ _ rfl)) ?_
    refine Run.nil (FinR.mk ?_)
    refine nK ?_
    (first | exact s_o1 hC rfl tV | exact s_o2 hC rfl tV tV | exact s_o3 hC rfl tV tV tV | exact s_o4 hC rfl tV tV tV tV | exact s_out0 hC rfl | exact s_outO hC rfl rfl rfl)
  · have h0 : dbI db = 0 := by simpa using hb
    have hk := dbOk h0
    have hn : lenOk db.length := by have := hk.len; unfold lenOk; omega
    have hl : ∀ x ∈ db, x.ls.length ≤ 40000000 ∧ x.att.length ≤ 40000000 := fun x hx => by
      have := chkA_len (hk.chk x hx); omega
    have hlo : ((ownGo r db).getD zeroA).ls.length ≤ 64 := by
      cases hg : ownGo r db with
      | none => simp [zeroA]
      | some y =>
        rw [ownGo_eq] at hg
        exact (chkA_len (hk.chk y (List.mem_of_find?_eq_some hg))).1
    have k1 := stubs_a db r hn hl
    rw [stubs_eq hk] at k1
    have k2 := rstubs_c db r hn (by omega)
    have hsl := stubs_len ((ownGo r db).getD zeroA).ls
    have k3 := slinks_c (stubsL ((ownGo r db).getD zeroA).ls) (stubsL ((ownGo r db).getD zeroA).ls) (by unfold lenOk; omega) (by unfold lenOk; omega)
    refine nK ?_
    refine s_reg rfl ?_
    refine Run.pure (dd := some 9) rfl rfl (op_move rfl (Opd.tmp _ _ rfl)) ?_
    refine Run.pure (dd := some 10) rfl rfl (op_move rfl (Opd.tmp _ _ rfl)) ?_
    refine Run.pure (dd := some 11) rfl rfl (op_call_pure (fun _ => k1) rfl (Opd.func _) (Opds.cons _ _ _ _ (Opd.tmp _ _ rfl) (Opds.cons _ _ _ _ (Opd.tmp _ _ rfl) Opds.nil))) ?_
    refine Run.pure (dd := some 12) rfl rfl (op_move rfl (Opd.tmp _ _ rfl)) ?_
    refine Run.pure (dd := some 13) rfl rfl (op_move rfl (Opd.tmp _ _ rfl)) ?_
    refine Run.pure (dd := some 14) rfl rfl (op_call_pure (fun _ => k2) rfl (Opd.func _) (Opds.cons _ _ _ _ (Opd.tmp _ _ rfl) (Opds.cons _ _ _ _ (Opd.tmp _ _ rfl) Opds.nil))) ?_
    refine Run.pure (dd := some 15) rfl rfl (op_call_pure (fun _ => k3) rfl (Opd.func _) (Opds.cons _ _ _ _ (Opd.tmp _ _ rfl) (Opds.cons _ _ _ _ (Opd.tmp _ _ rfl) Opds.nil))) ?_
    refine Run.pure (dd := some 16) rfl rfl (op_move rfl (Opd.tmp _ _ rfl)) ?_
    refine Run.pureG (dd := some 17) rfl rfl rfl tG (op_call_pure (fun _ => lives_c) rfl (Opd.func _) Opds.nil) ?_
    refine Run.pure (dd := some 18) rfl rfl (op_pick_and rfl (Opd.tmp _ _ rfl) (Opd.topt _ _ _ rfl tO)) ?_
    refine Run.pure (dd := some 4) rfl rfl (op_assign rfl (Opd.tmp _ _ rfl)) ?_
    refine Run.nil (FinR.mk ?_)
    refine nK ?_
    refine s_oB hC rfl rfl ?_
    simp
end Go.Proofs.Ytdhkioocjgpocaa
/- How the arguments of the rows read. -/
namespace Go.Proofs.Ytdhkioocjgpocaa
open Go Go.RT Go.Proofs Go.Pl
set_option linter.all false
variable {H : Type} {enc : TypeId × Value → H} {W : World} {ok : DataW H → Prop} {B : Nat}
theorem rdc_n : RdC ok enc Try.prog W 3 (fun fs => ∃ n, inr .i64 n ∧ fs = [If .i64 n]) := rdc_int (P := Try.prog) (t := 3) inferInstance
theorem rdc_u : RdC ok enc Try.prog W 42 (fun fs => ∃ n, inr .u32 n ∧ fs = [If .u32 n]) := rdc_int (P := Try.prog) (t := 42) inferInstance
theorem rdc_a : RdC ok enc Try.prog W 46 (fun fs => ∃ n, inr .u32 n ∧ fs = [If .u32 n]) := rdc_int (P := Try.prog) (t := 46) inferInstance
theorem rdc_b : RdC ok enc Try.prog W 4 (fun fs => ∃ b, fs = [Bf b]) := rdc_bool (P := Try.prog) (t := 4) inferInstance
theorem rdc_edge (dn : DnOk H ok B) : RdC ok enc Try.prog W 41 (fun fs => ∃ e : Edg, okE e ∧ fs = encE e) :=
  (rdc_struct (P := Try.prog) (t := 41) dn Try.underlying41 (by kernel_rfl) (.cons _ _ _ _ rdc_n (.cons _ _ _ _ rdc_n (.cons _ _ _ _ rdc_n .nil)))).imp fun fs h => by
    obtain ⟨_, _, rfl, ⟨a, ha, rfl⟩, _, _, rfl, ⟨b, hb, rfl⟩, _, _, rfl, ⟨c, hc, rfl⟩, rfl⟩ := h
    exact ⟨⟨a, b, c⟩, ⟨ha, hb, hc⟩, rfl⟩
theorem rdc_edges (dn : DnOk H ok B) : RdC ok enc Try.prog W 26 (fun fs => ∃ l : List Edg, okEs l ∧ l.length ≤ B ∧ fs = [VE l]) :=
  (rdc_slice (P := Try.prog) (t := 26) (e := 41) dn inferInstance inferInstance (by decide) (rdc_edge dn)).imp fun fs h => by
    obtain ⟨rows, hr, hl, rfl⟩ := h
    obtain ⟨l, rfl, ho⟩ := rows_of (fun fs h => h) hr
    exact ⟨l, ho, by simpa using hl, rfl⟩
theorem rdc_graph (dn : DnOk H ok B) : RdC ok enc Try.prog W 28 (fun fs => ∃ g : Gr, okG g ∧ g.es.length ≤ B ∧ fs = encG g) :=
  (rdc_struct (P := Try.prog) (t := 28) dn Try.underlying28 (by kernel_rfl) (.cons _ _ _ _ rdc_n (.cons _ _ _ _ rdc_n (.cons _ _ _ _ (rdc_edges dn) .nil)))).imp fun fs h => by
    obtain ⟨_, _, rfl, ⟨a, ha, rfl⟩, _, _, rfl, ⟨b, hb, rfl⟩, _, _, rfl, ⟨l, hl, hB, rfl⟩, rfl⟩ := h
    exact ⟨⟨a, b, l⟩, ⟨ha, hb, hl⟩, hB, rfl⟩
theorem rdc_us (dn : DnOk H ok B) : RdC ok enc Try.prog W 29 (fun fs => ∃ l : List Int, (∀ x ∈ l, okU x) ∧ l.length ≤ B ∧ fs = [VU l]) :=
  (rdc_slice (P := Try.prog) (t := 29) (e := 42) dn inferInstance inferInstance (by decide) rdc_u).imp fun fs h => by
    obtain ⟨rows, hr, hl, rfl⟩ := h
    obtain ⟨l, rfl, ho⟩ := rows_of (enc := encU) (ok := okU) (fun fs h => h) hr
    exact ⟨l, ho, by simpa using hl, rfl⟩
theorem rdc_netv (dn : DnOk H ok B) : RdC ok enc Try.prog W 68 (fun fs => ∃ e : NetV, okV e ∧ fs = encV e) :=
  (rdc_struct (P := Try.prog) (t := 68) dn Try.underlying68 (by kernel_rfl) (.cons _ _ _ _ rdc_u (.cons _ _ _ _ rdc_u (.cons _ _ _ _ rdc_n .nil)))).imp fun fs h => by
    obtain ⟨_, _, rfl, ⟨a, ha, rfl⟩, _, _, rfl, ⟨b, hb, rfl⟩, _, _, rfl, ⟨c, hc, rfl⟩, rfl⟩ := h
    exact ⟨⟨a, b, c⟩, ⟨ha, hb, hc⟩, rfl⟩
theorem rdc_nets (dn : DnOk H ok B) : RdC ok enc Try.prog W 30 (fun fs => ∃ l : List NetV, (∀ x ∈ l, okV x) ∧ l.length ≤ B ∧ fs = [VV l]) :=
  (rdc_slice (P := Try.prog) (t := 30) (e := 68) dn inferInstance inferInstance (by decide) (rdc_netv dn)).imp fun fs h => by
    obtain ⟨rows, hr, hl, rfl⟩ := h
    obtain ⟨l, rfl, ho⟩ := rows_of (enc := encV) (ok := okV) (fun fs h => h) hr
    exact ⟨l, ho, by simpa using hl, rfl⟩
theorem rdc_agraph (dn : DnOk H ok B) : RdC ok enc Try.prog W 32 (fun fs => ∃ a : AGr, okR a ∧ (a.rs.length ≤ B ∧ a.ns.length ≤ B) ∧ fs = encR a) :=
  (rdc_struct (P := Try.prog) (t := 32) dn Try.underlying32 (by kernel_rfl) (.cons _ _ _ _ (rdc_graph dn) (.cons _ _ _ _ (rdc_us dn) (.cons _ _ _ _ (rdc_nets dn) .nil)))).imp fun fs h => by
    obtain ⟨_, _, rfl, ⟨g, hg, _, rfl⟩, _, _, rfl, ⟨l, hl, hB, rfl⟩, _, _, rfl, ⟨k, hk, hB2, rfl⟩, rfl⟩ := h
    exact ⟨⟨g, l, k⟩, ⟨hg, hl, hk⟩, ⟨hB, hB2⟩, rfl⟩
theorem rdc_hdr (dn : DnOk H ok B) : RdC ok enc Try.prog W 44 (fun fs => ∃ e : Hdr, okH e ∧ fs = encH e) :=
  (rdc_struct (P := Try.prog) (t := 44) dn Try.underlying44 (by kernel_rfl) (.cons _ _ _ _ rdc_n (.cons _ _ _ _ rdc_u (.cons _ _ _ _ rdc_n (.cons _ _ _ _ rdc_u (.cons _ _ _ _ rdc_n (.cons _ _ _ _ rdc_n (.cons _ _ _ _ rdc_n .nil)))))))).imp fun fs h => by
    obtain ⟨_, _, rfl, ⟨a, ha, rfl⟩, _, _, rfl, ⟨b, hb, rfl⟩, _, _, rfl, ⟨c, hc, rfl⟩, _, _, rfl, ⟨d, hd, rfl⟩, _, _, rfl, ⟨e, he, rfl⟩, _, _, rfl, ⟨f, hf, rfl⟩, _, _, rfl, ⟨g, hg, rfl⟩, rfl⟩ := h
    exact ⟨⟨a, b, c, d, e, f, g⟩, ⟨ha, hb, hc, hd, he, hf, hg⟩, rfl⟩
theorem rdc_lnk (dn : DnOk H ok B) : RdC ok enc Try.prog W 50 (fun fs => ∃ e : Lnk, okK e ∧ fs = encL e) :=
  (rdc_struct (P := Try.prog) (t := 50) dn Try.underlying50 (by kernel_rfl) (.cons _ _ _ _ rdc_n (.cons _ _ _ _ rdc_u (.cons _ _ _ _ rdc_u (.cons _ _ _ _ rdc_n .nil))))).imp fun fs h => by
    obtain ⟨_, _, rfl, ⟨a, ha, rfl⟩, _, _, rfl, ⟨b, hb, rfl⟩, _, _, rfl, ⟨c, hc, rfl⟩, _, _, rfl, ⟨d, hd, rfl⟩, rfl⟩ := h
    exact ⟨⟨a, b, c, d⟩, ⟨ha, hb, hc, hd⟩, rfl⟩
theorem rdc_lnks (dn : DnOk H ok B) : RdC ok enc Try.prog W 45 (fun fs => ∃ l : List Lnk, (∀ x ∈ l, okK x) ∧ l.length ≤ B ∧ fs = [VL l]) :=
  (rdc_slice (P := Try.prog) (t := 45) (e := 50) dn inferInstance inferInstance (by decide) (rdc_lnk dn)).imp fun fs h => by
    obtain ⟨rows, hr, hl, rfl⟩ := h
    obtain ⟨l, rfl, ho⟩ := rows_of (enc := encL) (ok := okK) (fun fs h => h) hr
    exact ⟨l, ho, by simpa using hl, rfl⟩
theorem rdc_lsa (dn : DnOk H ok B) : RdC ok enc Try.prog W 48 (fun fs => ∃ e : Lsa, okA e ∧ fs = encA e) :=
  (rdc_struct (P := Try.prog) (t := 48) dn Try.underlying48 (by kernel_rfl) (.cons _ _ _ _ (rdc_hdr dn) (.cons _ _ _ _ rdc_b (.cons _ _ _ _ rdc_b (.cons _ _ _ _ (rdc_lnks dn) (.cons _ _ _ _ (rdc_us dn) (.cons _ _ _ _ rdc_n (.cons _ _ _ _ rdc_b (.cons _ _ _ _ rdc_a (.cons _ _ _ _ rdc_n .nil)))))))))).imp fun fs h => by
    obtain ⟨_, _, rfl, ⟨h, hh, rfl⟩, _, _, rfl, ⟨b1, rfl⟩, _, _, rfl, ⟨b2, rfl⟩, _, _, rfl, ⟨l, hl, _, rfl⟩, _, _, rfl, ⟨u, hu, _, rfl⟩, _, _, rfl, ⟨c, hc, rfl⟩, _, _, rfl, ⟨s, rfl⟩, _, _, rfl, ⟨f, hf, rfl⟩, _, _, rfl, ⟨t, ht, rfl⟩, rfl⟩ := h
    exact ⟨⟨h, b1, b2, l, u, c, s, f, t⟩, ⟨hh, hl, hu, hc, hf, ht⟩, rfl⟩
theorem rdc_lsas (dn : DnOk H ok B) : RdC ok enc Try.prog W 22 (fun fs => ∃ l : List Lsa, (∀ x ∈ l, okA x) ∧ l.length ≤ B ∧ fs = [VA l]) :=
  (rdc_slice (P := Try.prog) (t := 22) (e := 48) dn inferInstance inferInstance (by decide) (rdc_lsa dn)).imp fun fs h => by
    obtain ⟨rows, hr, hl, rfl⟩ := h
    obtain ⟨l, rfl, ho⟩ := rows_of (enc := encA) (ok := okA) (fun fs h => h) hr
    exact ⟨l, ho, by simpa using hl, rfl⟩
end Go.Proofs.Ytdhkioocjgpocaa
